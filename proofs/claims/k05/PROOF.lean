import PyProof.Rows.All
import Wide.All
import OpenK.AllK
import Wide.FinOn
import HandS.ForMost
import HandS.SortRule
import HandS.IsInst
import HandS.TupAny
import HandS.TupMul
import HandS.Walk
import HandS.More
import HandS.ListItems
import HandS.Wide
import KE.KTupSum
import PySem.Challenge.RW_endnever_k05_whole_steps_come_to_runs
set_option Elab.async false
set_option maxRecDepth 100000
set_option maxHeartbeats 4000000
namespace E
open PySem L2
/-! ### small words of our own -/
theorem inr_int {x : V} {ns : List Int} {i : Nat} (h : (ns.map V.int)[i]? = some x) : ∃ z, x = V.int z ∧ ns[i]? = some z := by
  rw [List.getElem?_map] at h
  cases e : ns[i]? with
  | none => rw [e] at h; cases h
  | some z => rw [e] at h; exact ⟨z, (Option.some.inj h).symm, rfl⟩
/-- F stands in H, whatever comes to it -/
theorem sm_new {F H : Hp} {p : Addr} {o : HO} (s : Same F H) (n : H p = Option.none) : Same F (upd H p o) := fun b u e => by
  rw [upd_ne (ne_of_none (s b u e) n)]
  exact s b u e
theorem sm_set {F H : Hp} {p : Addr} {o : HO} (s : Same F H) (n : F p = Option.none) : Same F (upd H p o) := fun b u e => by
  rw [upd_ne (ne_of_none e n)]
  exact s b u e
theorem sm_up {H : Hp} {p : Addr} {o : HO} (n : H p = none) : Same H (upd H p o) := sm_new (Same.refl H) n
theorem cut_63 {ns : List Int} (h : ns.length ≤ 63) : cutV (ns.map V.int) none (some 63) = ns.map V.int := by
  unfold cutV
  have e1 : HT.sIx (ns.map V.int).length 0 none = 0 := rfl
  have e2 : HT.sIx (ns.map V.int).length (ns.map V.int).length (some 63) = (ns.map V.int).length := by
    simp only [HT.sIx, List.length_map]
    rw [if_neg (by decide), show (63 : Int).toNat = 63 from rfl]
    omega
  rw [e1, e2, List.drop_zero, Nat.sub_zero, List.take_length]
theorem ifT {c : Bool} {A B : Prop} (h : c = true) (a : A) : if c = true then A else B := by
  rw [if_pos h]; exact a
theorem ifF {c : Bool} {A B : Prop} (h : c = false) (b : B) : if c = true then A else B := by
  rw [h, if_neg Bool.false_ne_true]; exact b
theorem one_le : 1 ≤ sizeLine := by decide
theorem two_le : 2 ≤ sizeLine := by decide
theorem three_le : 3 ≤ sizeLine := by decide
theorem five_le : 5 ≤ sizeLine := by decide
theorem nil_le : 0 ≤ sizeLine := by decide
theorem lt_size {n : Nat} (h : n ≤ 1000000) : n < sizeLine := Nat.lt_of_le_of_lt h (by decide)
theorem le_size {n : Nat} (h : n ≤ 1000000) : n ≤ sizeLine := Nat.le_of_lt (lt_size h)
theorem pi_listK {X : Cx} {K : PySem.W.Frag} {tg l : Expr} {tl : TE} (e : X.K = K) (h : PE X l tl) : PI X tg l (iList K tl) := by
  subst e; exact pi_list h
theorem pi_tupK {X : Cx} {K : PySem.W.Frag} {tg l : Expr} {tl : TE} (e : X.K = K) (h : PE X l tl) : PI X tg l (iTup K tl) := by
  subst e; exact pi_tup h
theorem crK {X : Cx} {K : PySem.W.Frag} {f : Value} {r : PySem.W.Frag → List V → Hp → VK → Prop} (e : X.K = K) (h : CallR X f (r X.K)) : CallR X f (r K) := by
  subst e; exact h
theorem orK {X : Cx} {K : PySem.W.Frag} {f : Value → Value → Sem Value} {r : PySem.W.Frag → R2} (e : X.K = K) (h : OpR X f (r X.K)) : OpR X f (r K) := by
  subst e; exact h
theorem ixK {X : Cx} {K : PySem.W.Frag} {r : PySem.W.Frag → R2} (e : X.K = K) (h : IxR X (r X.K)) : IxR X (r K) := by
  subst e; exact h
theorem slK {X : Cx} {K : PySem.W.Frag} {r : PySem.W.Frag → V → Option Int → Option Int → Hp → VK → Prop} (e : X.K = K) (h : SlR X (r X.K)) : SlR X (r K) := by
  subst e; exact h
def rLenQ (K : PySem.W.Frag) : List V → Hp → VK → Prop := fun xs H Q => ∃ p ys, xs = [.ref p] ∧ (SqL K H p ys ∨ SqT K H p ys) ∧ Q (.int ys.length) H
def rListQ (K : PySem.W.Frag) : List V → Hp → VK → Prop := fun xs H Q => ∃ p ys, xs = [.ref p] ∧ (SqL K H p ys ∨ SqT K H p ys) ∧ ∀ l, H l = none → Q (.ref l) (upd H l (.lst ys))
def rTupQ (K : PySem.W.Frag) : List V → Hp → VK → Prop := fun xs H Q => ∃ p ys, xs = [.ref p] ∧ ((SqL K H p ys ∧ ∀ l, H l = none → Q (.ref l) (upd H l (.tup ys))) ∨ (SqT K H p ys ∧ Q (.ref p) H))
theorem ne_of_none' {F H : Hp} {q : Addr} (s : Same F H) (n : H q = none) : F q = none := s.free n
/-- a comprehension without a test: its item comes in -/
theorem yes {σ : St} {H : Hp} {A : Hp → Prop} {B : Hp → Prop} (a : A H) : tYes σ H (fun b H3 => if b = true then A H3 else B H3) := by
  show if true = true then A H else B H
  rw [if_pos rfl]; exact a
theorem call_lenQ {X : Cx} : CallR X (.builtin "len") (rLenQ X.K) := call_len_seq
theorem call_listQ {X : Cx} : CallR X (.type "list") (rListQ X.K) := call_list_of
theorem call_tupQ {X : Cx} : CallR X (.type "tuple") (rTupQ X.K) := call_tuple_of
@[irreducible] def rDictP (K : PySem.W.Frag) : List V → Hp → VK → Prop := fun xs H Q => ∃ (a : Addr) (ps : List Addr) (kvs : List (Key × V)), xs = [.ref a] ∧ SqL K H a (ps.map V.ref) ∧ Paired (fun p kv => SqT K H p [kV kv.1, kv.2]) ps kvs ∧ ∀ p, H p = none → Q (.ref p) (upd H p (.dK (mergeK [] kvs)))
theorem call_dictQ {X : Cx} (hc : X.calm = true) : CallR X (.type "dict") (rDictP X.K) := by
  unfold rDictP
  exact call_dictP hc
@[irreducible] def rSortQ (K : PySem.W.Frag) : List V → Hp → VK → Prop := rSortedPO K
theorem call_sortQ {X : Cx} : CallR X (.builtin "sorted") (rSortQ X.K) := by
  unfold rSortQ
  exact cr_sortedPO
theorem pg_tupK {X : Cx} {K : PySem.W.Frag} {es : List Expr} {k n : Nat} {t : TGs} {pos : Pos} (e : X.K = K) (hc : X.calm = true) (h : PGs X es t) (hn : (assignEach es X.env).length = n := by rfl) (hst : (assignEach es X.env).findIdx? (·.1) = none := by rfl) : PG X (.Tuple es k pos) (gTup K n t) := by
  subst e; exact pg_tup hc h hn hst
theorem pe_fldK {X : Cx} {K : PySem.W.Frag} {e : Expr} {f : Str} {pos : Pos} {ta : TE} (ek : X.K = K) (he : PE X e ta) (hb : attributeBase e f X.env (eval e X.env) = eval e X.env) : PE X (.Attribute e f pos) (tFld K ta f) := by
  subst ek; exact pe_fld he hb
/-! ### what stands, what is new: F the frozen part (nobody changes it), H the heap; from F, H to F', H' with changes at mu alone -/
structure Gr (mu : Addr → Prop) (F H F' H' : Hp) : Prop where
  ff : Same F F'
  fh : Same F' H'
  nw : ∀ c o, F' c = some o → F c = some o ∨ H c = none
  fr : ∀ c o, H c = some o → ¬ mu c → H' c = some o
  th : ∀ c, H' c = none → H c = none
/-- nothing but new things -/
abbrev mu0 : Addr → Prop := fun _ => False
/-- the purse alone -/
abbrev muP (p : Addr) : Addr → Prop := fun c => c = p
section
variable {mu : Addr → Prop} {F H F1 H1 F2 H2 : Hp} {q : Addr} {o u : HO}
theorem Gr.refl (s : Same F H) : Gr mu F H F H := ⟨fun _ _ h => h, s, fun _ _ h => .inl h, fun _ _ h _ => h, fun _ h => h⟩
theorem Gr.trans (a : Gr mu F H F1 H1) (b : Gr mu F1 H1 F2 H2) : Gr mu F H F2 H2 where
  ff := fun c o h => b.ff c o (a.ff c o h)
  fh := b.fh
  nw := fun c o h => by
    rcases b.nw c o h with h | h
    · exact a.nw c o h
    · exact .inr (a.th c h)
  fr := fun c o h m => b.fr c o (a.fr c o h m) m
  th := fun c h => a.th c (b.th c h)
/-- a part that changes what is ours, or what mu has -/
theorem Gr.thn {mu' : Addr → Prop} (a : Gr mu F H F1 H1) (b : Gr mu' F1 H1 F2 H2) (k : ∀ c, mu' c → mu c ∨ H c = none) : Gr mu F H F2 H2 where
  ff := fun c o h => b.ff c o (a.ff c o h)
  fh := b.fh
  nw := fun c o h => by
    rcases b.nw c o h with h | h
    · exact a.nw c o h
    · exact .inr (a.th c h)
  fr := fun c o h m => b.fr c o (a.fr c o h m) fun z => (k c z).elim m fun n => by rw [n] at h; cases h
  th := fun c h => a.th c (b.th c h)
theorem Gr.weak {mu' : Addr → Prop} (a : Gr mu F H F1 H1) (m : ∀ c, mu c → mu' c) : Gr mu' F H F1 H1 :=
  ⟨a.ff, a.fh, a.nw, fun c o h n => a.fr c o h fun z => n (m c z), a.th⟩
theorem Gr.of0 (a : Gr mu0 F H F1 H1) : Gr mu F H F1 H1 := a.weak fun _ z => z.elim
/-- a new thing that nobody will change -/
theorem Gr.new (a : Gr mu F H F1 H1) (n : H1 q = none) : Gr mu F H (upd F1 q o) (upd H1 q o) where
  ff := fun c o h => by
    rw [upd_ne (ne_of_none (a.fh c o (a.ff c o h)) n)]
    exact a.ff c o h
  fh := fun c u h => by
    by_cases e : c = q
    · subst e; rw [upd_same] at h ⊢; exact h
    · rw [upd_ne e] at h ⊢; exact a.fh c u h
  nw := fun c u h => by
    by_cases e : c = q
    · subst e; exact .inr (a.th _ n)
    · rw [upd_ne e] at h; exact a.nw c u h
  fr := fun c u h m => by
    rw [upd_ne (ne_of_none (a.fr c u h m) n)]
    exact a.fr c u h m
  th := fun c h => by
    by_cases e : c = q
    · subst e; rw [upd_same] at h; cases h
    · rw [upd_ne e] at h; exact a.th c h
/-- a new thing that may be changed yet -/
theorem Gr.own (a : Gr mu F H F1 H1) (n : H1 q = none) : Gr mu F H F1 (upd H1 q o) where
  ff := a.ff
  fh := fun c u h => by
    rw [upd_ne (ne_of_none (a.fh c u h) n)]
    exact a.fh c u h
  nw := a.nw
  fr := fun c u h m => by
    rw [upd_ne (ne_of_none (a.fr c u h m) n)]
    exact a.fr c u h m
  th := fun c h => by
    by_cases e : c = q
    · subst e; rw [upd_same] at h; cases h
    · rw [upd_ne e] at h; exact a.th c h
/-- a change of what is ours, and not frozen -/
theorem Gr.set (a : Gr mu F H F1 H1) (f : F1 q = none) (m : H q = none ∨ mu q) : Gr mu F H F1 (upd H1 q o) where
  ff := a.ff
  fh := fun c u h => by
    rw [upd_ne (ne_of_none h f)]
    exact a.fh c u h
  nw := a.nw
  fr := fun c u h k => by
    have e : c ≠ q := by
      rintro rfl
      rcases m with m | m
      · rw [m] at h; cases h
      · exact k m
    rw [upd_ne e]
    exact a.fr c u h k
  th := fun c h => by
    by_cases e : c = q
    · subst e; rw [upd_same] at h; cases h
    · rw [upd_ne e] at h; exact a.th c h
/-- what was ours is changed no more -/
theorem Gr.frz (a : Gr mu F H F1 H1) (h : H1 q = some o) (n : H q = none) (f : F1 q = none) : Gr mu F H (upd F1 q o) H1 where
  ff := fun c u e => by
    rw [upd_ne (ne_of_none (a.ff c u e) f)]
    exact a.ff c u e
  fh := fun c u e => by
    by_cases k : c = q
    · subst k; rw [upd_same] at e; cases e; exact h
    · rw [upd_ne k] at e; exact a.fh c u e
  nw := fun c u e => by
    by_cases k : c = q
    · subst k; exact .inr n
    · rw [upd_ne k] at e; exact a.nw c u e
  fr := a.fr
  th := a.th
theorem Gr.free (a : Gr mu F H F1 H1) (n : H1 q = none) : F1 q = none := a.fh.free n
end
/-- an owned thing: new since H, not frozen, it is o now -/
structure Ow (H F H1 : Hp) (q : Addr) (o : HO) : Prop where
  n : H q = none
  f : F q = none
  h : H1 q = some o
section
variable {mu mu' : Addr → Prop} {H0 F H F1 H1 : Hp} {q r : Addr} {o u : HO}
theorem Ow.call (w : Ow H0 F H q o) (a : Gr mu F H F1 H1) (m : ¬ mu q) : Ow H0 F1 H1 q o :=
  ⟨w.n, (by
    cases e : F1 q with
    | none => rfl
    | some z =>
      rcases a.nw q z e with k | k
      · rw [w.f] at k; cases k
      · rw [w.h] at k; cases k), a.fr q o w.h m⟩
theorem Ow.ne (w : Ow H0 F H q o) (n : H r = none) : q ≠ r := ne_of_none w.h n
theorem Ow.new (w : Ow H0 F H q o) (n : H r = none) : Ow H0 (upd F r u) (upd H r u) q o :=
  ⟨w.n, by rw [upd_ne (w.ne n)]; exact w.f, by rw [upd_ne (w.ne n)]; exact w.h⟩
theorem Ow.own (w : Ow H0 F H q o) (n : H r = none) : Ow H0 F (upd H r u) q o :=
  ⟨w.n, w.f, by rw [upd_ne (w.ne n)]; exact w.h⟩
theorem Ow.mk1 (a : Gr mu H0' H0 F H) (n : H q = none) : Ow H0 F (upd H q o) q o := ⟨a.th q n, a.free n, upd_same⟩
theorem Ow.set (w : Ow H0 F H q o) : Ow H0 F (upd H q u) q u := ⟨w.n, w.f, upd_same⟩
theorem Ow.other (w : Ow H0 F H q o) (e : q ≠ r) : Ow H0 F (upd H r u) q o := ⟨w.n, w.f, by rw [upd_ne e]; exact w.h⟩
end
/-! ### what stands for a datum -/
def All2 {α β : Type} (r : α → β → Prop) (xs : List α) (ys : List β) : Prop := xs.length = ys.length ∧ ∀ (i : Nat) (x : α) (y : β), xs[i]? = some x → ys[i]? = some y → r x y
section
variable {α β : Type} {r s : α → β → Prop} {xs xs' : List α} {ys ys' : List β}
theorem All2.nil : All2 r [] [] := ⟨rfl, fun i x y h => by simp at h⟩
theorem All2.get (a : All2 r xs ys) {i : Nat} {y : β} (h : ys[i]? = some y) : ∃ x, xs[i]? = some x ∧ r x y := by
  have l := (List.getElem?_eq_some_iff.mp h).1
  have l' : i < xs.length := by rw [a.1]; exact l
  exact ⟨xs[i], List.getElem?_eq_getElem l', a.2 i _ y (List.getElem?_eq_getElem l') h⟩
theorem All2.get' (a : All2 r xs ys) {i : Nat} {x : α} (h : xs[i]? = some x) : ∃ y, ys[i]? = some y ∧ r x y := by
  have l := (List.getElem?_eq_some_iff.mp h).1
  have l' : i < ys.length := by rw [← a.1]; exact l
  exact ⟨ys[i], List.getElem?_eq_getElem l', a.2 i x _ h (List.getElem?_eq_getElem l')⟩
theorem All2.imp (a : All2 r xs ys) (f : ∀ x y, r x y → s x y) : All2 s xs ys := ⟨a.1, fun i x y h k => f x y (a.2 i x y h k)⟩
theorem All2.app (a : All2 r xs ys) (b : All2 r xs' ys') : All2 r (xs ++ xs') (ys ++ ys') := by
  refine ⟨by rw [List.length_append, List.length_append, a.1, b.1], fun i x y h k => ?_⟩
  by_cases l : i < xs.length
  · rw [List.getElem?_append_left l] at h
    rw [List.getElem?_append_left (by rw [← a.1]; exact l)] at k
    exact a.2 i x y h k
  · rw [List.getElem?_append_right (by omega)] at h
    rw [List.getElem?_append_right (by rw [← a.1]; omega), ← a.1] at k
    exact b.2 _ x y h k
theorem All2.one {x : α} {y : β} (h : r x y) : All2 r [x] [y] := ⟨rfl, fun i a b p q => by
  cases i with
  | zero => simp at p q; subst p; subst q; exact h
  | succ n => simp at p⟩
theorem All2.cons {x : α} {y : β} (h : r x y) (a : All2 r xs ys) : All2 r (x :: xs) (y :: ys) := (All2.one h).app a
theorem All2.set (a : All2 r xs ys) {x : α} {y : β} (h : r x y) (j : Nat) : All2 r (xs.set j x) (ys.set j y) := by
  refine ⟨by rw [List.length_set, List.length_set]; exact a.1, fun i u v p q => ?_⟩
  by_cases e : j = i
  · subst e
    rw [List.getElem?_set_self'] at p q
    cases e1 : xs[j]? with
    | none => rw [e1] at p; cases p
    | some z =>
      cases e2 : ys[j]? with
      | none => rw [e2] at q; cases q
      | some z2 =>
        rw [e1] at p; rw [e2] at q
        cases p; cases q
        exact h
  · rw [List.getElem?_set_ne e] at p q
    exact a.2 i u v p q
theorem All2.take (a : All2 r xs ys) (n : Nat) : All2 r (xs.take n) (ys.take n) := by
  refine ⟨by rw [List.length_take, List.length_take, a.1], fun i u v p q => ?_⟩
  rw [List.getElem?_take] at p q
  split at p
  · rw [if_pos (by assumption)] at q; exact a.2 i u v p q
  · cases p
theorem All2.drop (a : All2 r xs ys) (n : Nat) : All2 r (xs.drop n) (ys.drop n) := by
  refine ⟨by rw [List.length_drop, List.length_drop, a.1], fun i u v p q => ?_⟩
  rw [List.getElem?_drop] at p q
  exact a.2 _ u v p q
end
class Dat (α : Type) where
  rep : Hp → V → α → Prop
  mono : ∀ {H H' : Hp} {v : V} {d : α}, Same H H' → rep H v d → rep H' v d
  py : α → PyData
  dp : ∀ {K : PySem.W.Frag} {H : Hp} {v : V} {d : α}, rep H v d → Dp K H v (py d)
  can : ∀ d, (py d).canLay0 = true
  dep : Nat
  depth : ∀ d, (py d).depth ≤ dep
  eqv : ∀ a b, PyData.eqv (py a) (py b) = true ↔ a = b
section
variable {α β γ : Type}
/-- v stands for d in H -/
abbrev Is [Dat α] (H : Hp) (v : V) (d : α) : Prop := Dat.rep H v d
theorem Is.up [Dat α] {H H' : Hp} {v : V} {d : α} (h : Is H v d) (s : Same H H') : Is H' v d := Dat.mono s h
abbrev IsAll [Dat α] (H : Hp) (xs : List V) (ds : List α) : Prop := All2 (fun v d => Is H v d) xs ds
theorem IsAll.up [Dat α] {H H' : Hp} {xs : List V} {ds : List α} (h : IsAll H xs ds) (s : Same H H') : IsAll H' xs ds := h.imp fun _ _ z => Is.up z s
theorem dp_all [Dat α] {K : PySem.W.Frag} {H : Hp} : ∀ {xs : List V} {ds : List α}, IsAll H xs ds → DpAll K H xs (ds.map Dat.py)
  | [], [], _ => .nil
  | [], d :: ds, h => by have := h.1; simp at this
  | x :: xs, [], h => by have := h.1; simp at this
  | x :: xs, d :: ds, h => .cons (Dat.dp (h.2 0 x d rfl rfl)) (dp_all ⟨by have := h.1; simpa using this, fun i a b p q => h.2 (i + 1) a b (by simpa using p) (by simpa using q)⟩)
theorem can_all [Dat α] : ∀ ds : List α, PyData.canLayAll0 (ds.map Dat.py) = true
  | [] => rfl
  | d :: ds => by
    show (PyData.canLay0 (Dat.py d) && PyData.canLayAll0 (ds.map Dat.py)) = true
    rw [Dat.can, can_all ds]; rfl
theorem depth_all [Dat α] : ∀ ds : List α, PyData.depthAll (ds.map Dat.py) ≤ Dat.dep α
  | [] => Nat.zero_le _
  | d :: ds => by
    show max (PyData.depth (Dat.py d)) (PyData.depthAll (ds.map Dat.py)) ≤ _
    exact Nat.max_le.mpr ⟨Dat.depth d, depth_all ds⟩
theorem eqv_all [Dat α] : ∀ a b : List α, PyData.eqvAll (a.map Dat.py) (b.map Dat.py) = true ↔ a = b
  | [], [] => by simp [PyData.eqvAll]
  | [], _ :: _ => by simp [PyData.eqvAll]
  | _ :: _, [] => by simp [PyData.eqvAll]
  | x :: xs, y :: ys => by
    rw [List.map_cons, List.map_cons, PyData.eqvAll, Bool.and_eq_true, Dat.eqv, eqv_all xs ys, List.cons.injEq]
instance : Dat Int where
  rep := fun _ v i => v = .int i
  mono := fun _ h => h
  py := .int
  dp := fun h => h ▸ .int _
  can := fun _ => rfl
  dep := 0
  depth := fun _ => Nat.le_refl _
  eqv := fun a b => by simp [PyData.eqv]
instance : Dat Bool where
  rep := fun _ v i => v = .bl i
  mono := fun _ h => h
  py := .bool
  dp := fun h => h ▸ .bl _
  can := fun _ => rfl
  dep := 0
  depth := fun _ => Nat.le_refl _
  eqv := fun a b => by simp [PyData.eqv]
/-- a list of data -/
instance [Dat α] : Dat (List α) where
  rep := fun H v l => ∃ a xs, v = .ref a ∧ H a = some (.lst xs) ∧ IsAll H xs l
  mono := fun s h => by
    obtain ⟨a, xs, e, h, i⟩ := h
    exact ⟨a, xs, e, s _ _ h, IsAll.up i s⟩
  py := fun l => .list (l.map Dat.py)
  dp := fun h => by
    obtain ⟨a, xs, rfl, h, i⟩ := h
    exact .lst (SqL.of h) (dp_all i)
  can := fun d => can_all d
  dep := Dat.dep α + 1
  depth := fun d => Nat.succ_le_succ (depth_all d)
  eqv := fun a b => by rw [PyData.eqv]; exact eqv_all a b
/-- a tuple of data of one kind -/
structure Tup (α : Type) where
  l : List α
  deriving DecidableEq
instance [Dat α] : Dat (Tup α) where
  rep := fun H v l => ∃ a xs, v = .ref a ∧ H a = some (.tup xs) ∧ IsAll H xs l.l
  mono := fun s h => by
    obtain ⟨a, xs, e, h, i⟩ := h
    exact ⟨a, xs, e, s _ _ h, IsAll.up i s⟩
  py := fun l => .tuple (l.l.map Dat.py)
  dp := fun h => by
    obtain ⟨a, xs, rfl, h, i⟩ := h
    exact .tup (SqT.of h) (dp_all i)
  can := fun d => can_all d.l
  dep := Dat.dep α + 1
  depth := fun d => Nat.succ_le_succ (depth_all d.l)
  eqv := fun a b => by
    rw [PyData.eqv, eqv_all]
    obtain ⟨a⟩ := a; obtain ⟨b⟩ := b
    simp
/-- a pair; a triple -/
structure T2 (α β : Type) where
  a : α
  b : β
  deriving DecidableEq
structure T3 (α β γ : Type) where
  a : α
  b : β
  c : γ
  deriving DecidableEq
instance [Dat α] [Dat β] : Dat (T2 α β) where
  rep := fun H v d => ∃ p x y, v = .ref p ∧ H p = some (.tup [x, y]) ∧ Is H x d.a ∧ Is H y d.b
  mono := fun s h => by
    obtain ⟨p, x, y, e, h, i, j⟩ := h
    exact ⟨p, x, y, e, s _ _ h, Is.up i s, Is.up j s⟩
  py := fun d => .tuple [Dat.py d.a, Dat.py d.b]
  dp := fun h => by
    obtain ⟨p, x, y, rfl, h, i, j⟩ := h
    exact .tup (SqT.of h) (.cons (Dat.dp i) (.cons (Dat.dp j) .nil))
  can := fun d => by
    show (PyData.canLay0 (Dat.py d.a) && (PyData.canLay0 (Dat.py d.b) && true)) = true
    rw [Dat.can, Dat.can]; rfl
  dep := max (Dat.dep α) (Dat.dep β) + 1
  depth := fun d => by
    have h1 := Dat.depth d.a
    have h2 := Dat.depth d.b
    show max (PyData.depth (Dat.py d.a)) (max (PyData.depth (Dat.py d.b)) 0) + 1 ≤ _
    omega
  eqv := fun a b => by
    obtain ⟨a, a'⟩ := a; obtain ⟨b, b'⟩ := b
    simp [PyData.eqv, PyData.eqvAll, Dat.eqv]
instance [Dat α] [Dat β] [Dat γ] : Dat (T3 α β γ) where
  rep := fun H v d => ∃ p x y z, v = .ref p ∧ H p = some (.tup [x, y, z]) ∧ Is H x d.a ∧ Is H y d.b ∧ Is H z d.c
  mono := fun s h => by
    obtain ⟨p, x, y, z, e, h, i, j, k⟩ := h
    exact ⟨p, x, y, z, e, s _ _ h, Is.up i s, Is.up j s, Is.up k s⟩
  py := fun d => .tuple [Dat.py d.a, Dat.py d.b, Dat.py d.c]
  dp := fun h => by
    obtain ⟨p, x, y, z, rfl, h, i, j, k⟩ := h
    exact .tup (SqT.of h) (.cons (Dat.dp i) (.cons (Dat.dp j) (.cons (Dat.dp k) .nil)))
  can := fun d => by
    show (PyData.canLay0 (Dat.py d.a) && (PyData.canLay0 (Dat.py d.b) && (PyData.canLay0 (Dat.py d.c) && true))) = true
    rw [Dat.can, Dat.can, Dat.can]; rfl
  dep := max (Dat.dep α) (max (Dat.dep β) (Dat.dep γ)) + 1
  depth := fun d => by
    have h1 := Dat.depth d.a
    have h2 := Dat.depth d.b
    have h3 := Dat.depth d.c
    show max (PyData.depth (Dat.py d.a)) (max (PyData.depth (Dat.py d.b)) (max (PyData.depth (Dat.py d.c)) 0)) + 1 ≤ _
    omega
  eqv := fun a b => by
    obtain ⟨a, a', a''⟩ := a; obtain ⟨b, b', b''⟩ := b
    simp [PyData.eqv, PyData.eqvAll, Dat.eqv]
/-- None, or a datum that is a tuple or a list -/
class Big (α : Type) [Dat α] : Prop where
  big : ∀ d : α, (∃ l, Dat.py d = .tuple l) ∨ ∃ l, Dat.py d = .list l
instance [Dat α] : Big (List α) := ⟨fun d => .inr ⟨_, rfl⟩⟩
instance [Dat α] : Big (Tup α) := ⟨fun d => .inl ⟨_, rfl⟩⟩
instance [Dat α] [Dat β] : Big (T2 α β) := ⟨fun d => .inl ⟨_, rfl⟩⟩
instance [Dat α] [Dat β] [Dat γ] : Big (T3 α β γ) := ⟨fun d => .inl ⟨_, rfl⟩⟩
instance [Dat α] [Big α] : Dat (Option α) where
  rep := fun H v d => match d with
    | none => v = .non
    | some d => Is H v d
  mono := fun {H H' v d} s h => by
    cases d with
    | none => exact h
    | some d => exact Is.up (show Is H v d from h) s
  py := fun d => match d with
    | none => .none
    | some d => Dat.py d
  dp := fun {K H v d} h => by
    cases d with
    | none => cases h; exact .non
    | some d => exact Dat.dp (show Is H v d from h)
  can := fun d => by
    cases d with
    | none => rfl
    | some d => exact Dat.can d
  dep := Dat.dep α
  depth := fun d => by
    cases d with
    | none => exact Nat.zero_le _
    | some d => exact Dat.depth d
  eqv := fun a b => by
    cases a with
    | none =>
      cases b with
      | none => exact ⟨fun _ => rfl, fun _ => rfl⟩
      | some b =>
        refine ⟨fun h => ?_, fun h => nomatch h⟩
        have h : PyData.eqv .none (Dat.py b) = true := h
        rcases Big.big b with ⟨l, e⟩ | ⟨l, e⟩ <;> (rw [e] at h; simp only [PyData.eqv] at h; cases h)
    | some a =>
      cases b with
      | none =>
        refine ⟨fun h => ?_, fun h => nomatch h⟩
        have h : PyData.eqv (Dat.py a) .none = true := h
        rcases Big.big a with ⟨l, e⟩ | ⟨l, e⟩ <;> (rw [e] at h; simp only [PyData.eqv] at h; cases h)
      | some b =>
        show PyData.eqv (Dat.py a) (Dat.py b) = true ↔ _
        rw [Dat.eqv, Option.some.injEq]
end
/-- == and != of data -/
theorem eq_dat0 {α : Type} [Dat α] [DecidableEq α] {a b : α} (hd : Dat.dep α ≤ 64) : SeqAt.shaped (Dat.py a) = true ∧ SeqAt.shaped (Dat.py b) = true ∧ PyData.eqv (Dat.py a) (Dat.py b) = decide (a = b) := by
  refine ⟨?_, ?_, ?_⟩
  · show (PyData.canLay0 _ && decide _) = true
    rw [Dat.can, decide_eq_true (Nat.le_trans (Dat.depth a) hd)]; rfl
  · show (PyData.canLay0 _ && decide _) = true
    rw [Dat.can, decide_eq_true (Nat.le_trans (Dat.depth b) hd)]; rfl
  · rw [Bool.eq_iff_iff, Dat.eqv, decide_eq_true_iff]
theorem eq_dat {α : Type} [Dat α] [DecidableEq α] {K : PySem.W.Frag} {H : Hp} {x y : V} {a b : α} {Q : VK} (ha : Is H x a) (hb : Is H y b) (q : Q (.bl (decide (a = b))) H) (hd : Dat.dep α ≤ 64 := by decide) : rEqD K x y H Q := by
  obtain ⟨h1, h2, h3⟩ := eq_dat0 (a := a) (b := b) hd
  exact ⟨Dat.py a, Dat.py b, Dat.dp ha, Dat.dp hb, h1, h2, by rw [h3]; exact q⟩
theorem ne_dat {α : Type} [Dat α] [DecidableEq α] {K : PySem.W.Frag} {H : Hp} {x y : V} {a b : α} {Q : VK} (ha : Is H x a) (hb : Is H y b) (q : Q (.bl (!decide (a = b))) H) (hd : Dat.dep α ≤ 64 := by decide) : rNeD K x y H Q := by
  obtain ⟨h1, h2, h3⟩ := eq_dat0 (a := a) (b := b) hd
  exact ⟨Dat.py a, Dat.py b, Dat.dp ha, Dat.dp hb, h1, h2, by rw [h3]; exact q⟩
/-! ### machines -/
/-- an entry -/
inductive Ent where
  | emp
  | go (put way row : Int)
  deriving DecidableEq
def entO : Ent → HO
  | .emp => .tup []
  | .go p w r => .tup [.int p, .int w, .int r]
def entP : Ent → PyData
  | .emp => .tuple []
  | .go p w r => .tuple [.int p, .int w, .int r]
instance : Dat Ent where
  rep := fun H v e => ∃ a, v = .ref a ∧ H a = some (entO e)
  mono := fun s h => by obtain ⟨a, e, h⟩ := h; exact ⟨a, e, s _ _ h⟩
  py := entP
  dp := fun {K H v d} h => by
    obtain ⟨a, rfl, h⟩ := h
    cases d with
    | emp => exact .tup (SqT.of h) .nil
    | go p w r => exact .tup (SqT.of h) (.cons (.int _) (.cons (.int _) (.cons (.int _) .nil)))
  can := fun d => by cases d <;> rfl
  dep := 1
  depth := fun d => by cases d <;> simp [entP, PyData.depth, PyData.depthAll]
  eqv := fun a b => by cases a <;> cases b <;> simp [entP, PyData.eqv, PyData.eqvAll]
instance : Big Ent := ⟨fun d => by cases d <;> exact .inl ⟨_, rfl⟩⟩
abbrev Mach := List (List Ent)
/-! ### pairs of ints: a dict's items, sorted ones -/
abbrev PI := T2 Int Int
def dI (l : List PI) : List (Key × V) := l.map fun p => (Sum.inl p.a, V.int p.b)
def look (l : List PI) (x : Int) : Option Int := (l.find? fun p => decide (p.a = x)).map (·.b)
def put (l : List PI) (x v : Int) : List PI := if (l.any fun p => decide (p.a = x)) = true then l.map (fun p => if p.a = x then ⟨p.a, v⟩ else p) else l ++ [⟨x, v⟩]
def merge (l m : List PI) : List PI := m.foldl (fun acc p => put acc p.a p.b) l
theorem key_inl (a b : Int) : ((Sum.inl a : Key) = Sum.inl b) = (a = b) := propext ⟨Sum.inl.inj, fun h => by rw [h]⟩
theorem dI_val (x : Int) : ∀ l : List PI, valV (dI l) (Sum.inl x) = (look l x).map V.int
  | [] => rfl
  | p :: l => by
    have ih := dI_val x l
    show valV ((Sum.inl p.a, V.int p.b) :: dI l) (Sum.inl x) = _
    by_cases e : p.a = x
    · rw [valV_pos (by rw [key_inl]; exact e)]
      simp [look, e]
    · rw [valV_neg (by rw [key_inl]; exact e), ih]
      simp [look, e]
theorem dI_put (l : List PI) (x v : Int) : putK (dI l) (Sum.inl x) (.int v) = dI (put l x v) := by
  have e : ((dI l).any fun kv => decide (kv.1 = Sum.inl x)) = (l.any fun p => decide (p.a = x)) := by
    unfold dI
    rw [List.any_map]
    congr 1
    funext p
    simp only [Function.comp, key_inl]
  unfold putK put
  rw [e]
  by_cases a : (l.any fun p => decide (p.a = x)) = true
  · rw [if_pos a, if_pos a]
    unfold dI
    rw [List.map_map, List.map_map]
    congr 1
    funext p
    simp only [Function.comp, key_inl]
    by_cases h : p.a = x
    · rw [if_pos h, if_pos h]
    · rw [if_neg h, if_neg h]
  · rw [if_neg a, if_neg a]
    unfold dI
    rw [List.map_append]
    rfl
theorem dI_merge (m : List PI) : ∀ l : List PI, mergeK (dI l) (dI m) = dI (merge l m) := by
  induction m with
  | nil => intro l; rfl
  | cons p m ih =>
    intro l
    show mergeK (putK (dI l) (Sum.inl p.a) (.int p.b)) (dI m) = dI (merge (put l p.a p.b) m)
    rw [dI_put]
    exact ih _
theorem look_nil (x : Int) : look [] x = none := rfl
theorem look_cons (p : PI) (l : List PI) (x : Int) : look (p :: l) x = if p.a = x then some p.b else look l x := by
  unfold look
  rw [List.find?_cons]
  by_cases e : p.a = x
  · simp [e]
  · simp [e]
theorem look_any (x : Int) : ∀ l : List PI, (l.any fun p => decide (p.a = x)) = (look l x).isSome
  | [] => rfl
  | p :: l => by
    rw [List.any_cons, look_any x l, look_cons]
    by_cases e : p.a = x
    · simp [e]
    · simp [e]
theorem look_map (x y v : Int) : ∀ l : List PI, look (l.map fun p => if p.a = x then ⟨p.a, v⟩ else p) y = (look l y).map fun z => if y = x then v else z
  | [] => rfl
  | p :: l => by
    rw [List.map_cons, look_cons, look_cons, look_map x y v l]
    by_cases e : p.a = x
    · rw [if_pos e]
      by_cases f : p.a = y
      · rw [if_pos f, if_pos f]
        rw [← f, Option.map_some, if_pos e]
      · rw [if_neg f, if_neg f]
    · rw [if_neg e]
      by_cases f : p.a = y
      · rw [if_pos f, if_pos f, Option.map_some, if_neg (by rw [← f]; exact e)]
      · rw [if_neg f, if_neg f]
theorem look_app (l m : List PI) (x : Int) : look (l ++ m) x = (look l x).or (look m x) := by
  induction l with
  | nil => rfl
  | cons p l ih =>
    rw [List.cons_append, look_cons, look_cons, ih]
    by_cases e : p.a = x
    · rw [if_pos e, if_pos e]; rfl
    · rw [if_neg e, if_neg e]
theorem look_put (l : List PI) (x v y : Int) : look (put l x v) y = if y = x then some v else look l y := by
  unfold put
  by_cases a : (l.any fun p => decide (p.a = x)) = true
  · rw [if_pos a, look_map]
    by_cases e : y = x
    · rw [if_pos e, e]
      rw [look_any] at a
      obtain ⟨z, hz⟩ := Option.isSome_iff_exists.mp a
      rw [hz, Option.map_some, if_pos rfl]
    · rw [if_neg e]
      cases look l y with
      | none => rfl
      | some z => rw [Option.map_some, if_neg e]
  · rw [if_neg a, look_app]
    rw [look_any] at a
    by_cases e : y = x
    · rw [if_pos e, e]
      cases h : look l x with
      | none => rw [look_cons, if_pos rfl]; rfl
      | some z => rw [h] at a; exact absurd rfl a
    · rw [if_neg e, look_cons, if_neg (fun z => e z.symm), look_nil]
      cases look l y <;> rfl
/-- no place twice -/
def Nd (l : List PI) : Prop := (l.map (·.a)).Nodup
theorem look_none {l : List PI} {x : Int} : look l x = none ↔ x ∉ l.map (·.a) := by
  induction l with
  | nil => simp [look_nil]
  | cons p l ih =>
    rw [look_cons, List.map_cons, List.mem_cons]
    by_cases e : p.a = x
    · rw [if_pos e]; simp [e]
    · rw [if_neg e, ih]
      constructor
      · intro h z
        rcases z with z | z
        · exact e z.symm
        · exact h z
      · intro h z
        exact h (.inr z)
theorem look_mem {l : List PI} (h : Nd l) {p : PI} (m : p ∈ l) : look l p.a = some p.b := by
  induction l with
  | nil => cases m
  | cons q l ih =>
    have h' := List.nodup_cons.mp h
    rw [look_cons]
    rcases List.mem_cons.mp m with rfl | m
    · rw [if_pos rfl]
    · rw [if_neg (fun e => h'.1 (by show q.a ∈ _; rw [e]; exact List.mem_map.mpr ⟨p, m, rfl⟩))]
      exact ih h'.2 m
theorem mem_look {l : List PI} {x v : Int} (h : look l x = some v) : (⟨x, v⟩ : PI) ∈ l := by
  induction l with
  | nil => cases h
  | cons q l ih =>
    rw [look_cons] at h
    by_cases e : q.a = x
    · rw [if_pos e] at h
      cases h
      subst e
      exact List.mem_cons_self
    · rw [if_neg e] at h
      exact List.mem_cons_of_mem _ (ih h)
theorem nd_put {l : List PI} (h : Nd l) (x v : Int) : Nd (put l x v) := by
  unfold put
  by_cases a : (l.any fun p => decide (p.a = x)) = true
  · rw [if_pos a]
    unfold Nd
    rw [List.map_map]
    have e : ((fun p : PI => p.a) ∘ fun p : PI => if p.a = x then (⟨p.a, v⟩ : PI) else p) = fun p : PI => p.a := by
      funext p
      simp only [Function.comp]
      split <;> rfl
    rw [e]; exact h
  · rw [if_neg a]
    unfold Nd
    rw [List.map_append]
    refine nd_snoc h ?_
    rw [look_any] at a
    refine look_none.mp ?_
    cases q : look l x with
    | none => rfl
    | some z => rw [q] at a; exact absurd rfl a
theorem put_new {l : List PI} {x : Int} (v : Int) (h : look l x = none) : put l x v = l ++ [⟨x, v⟩] := by
  unfold put
  rw [look_any, h]
  rfl
theorem merge_nd {m : List PI} : ∀ {l : List PI}, Nd (l ++ m) → merge l m = l ++ m := by
  induction m with
  | nil => intro l _; simp [merge]
  | cons p m ih =>
    intro l h
    have e : l ++ p :: m = (l ++ [p]) ++ m := by simp
    have hn : look l p.a = none := by
      refine look_none.mpr fun z => ?_
      unfold Nd at h
      rw [List.map_append] at h
      exact (List.nodup_append.mp h).2.2 _ z _ (by rw [List.map_cons]; exact List.mem_cons_self) rfl
    show merge (put l p.a p.b) m = _
    rw [put_new _ hn, e]
    exact ih (by rw [← e]; exact h)
theorem nd_nil : Nd [] := List.nodup_nil
theorem put_len (l : List PI) (x v : Int) : (put l x v).length ≤ l.length + 1 := by
  unfold put
  split
  · rw [List.length_map]; omega
  · rw [List.length_append]; exact Nat.le_refl _
/-- Python's order of pairs -/
def leP (p q : PI) : Bool := decide (p.a < q.a) || (decide (p.a = q.a) && decide (p.b ≤ q.b))
theorem leP_iff {p q : PI} : leP p q = true ↔ p.a < q.a ∨ (p.a = q.a ∧ p.b ≤ q.b) := by simp [leP]
def ins (p : PI) : List PI → List PI
  | [] => [p]
  | q :: l => if leP p q = true then p :: q :: l else q :: ins p l
def srt (l : List PI) : List PI := l.foldr ins []
theorem ins_perm (p : PI) : ∀ l : List PI, (ins p l).Perm (p :: l)
  | [] => List.Perm.refl _
  | q :: l => by
    unfold ins
    split
    · exact List.Perm.refl _
    · exact (List.Perm.cons q (ins_perm p l)).trans (List.Perm.swap p q l)
theorem srt_perm : ∀ l : List PI, (srt l).Perm l
  | [] => List.Perm.refl _
  | p :: l => (ins_perm p (srt l)).trans ((srt_perm l).cons p)
abbrev LeP (p q : PI) : Prop := leP p q = true
theorem leP_trans {p q r : PI} (h1 : LeP p q) (h2 : LeP q r) : LeP p r := by
  have a := leP_iff.mp h1
  have b := leP_iff.mp h2
  exact leP_iff.mpr (by omega)
theorem leP_total (p q : PI) : LeP p q ∨ LeP q p := by
  show leP p q = true ∨ leP q p = true
  rw [leP_iff, leP_iff]
  omega
theorem ins_srt (p : PI) : ∀ {l : List PI}, l.Pairwise LeP → (ins p l).Pairwise LeP
  | [], _ => List.pairwise_singleton _ _
  | q :: l, h => by
    have h' := List.pairwise_cons.mp h
    unfold ins
    split
    · rename_i e
      refine List.pairwise_cons.mpr ⟨fun x m => ?_, h⟩
      rcases List.mem_cons.mp m with rfl | m
      · exact e
      · exact leP_trans e (h'.1 x m)
    · rename_i e
      refine List.pairwise_cons.mpr ⟨fun x m => ?_, ins_srt p h'.2⟩
      rcases List.mem_cons.mp ((ins_perm p l).mem_iff.mp m) with rfl | m
      · rcases leP_total q x with z | z
        · exact z
        · exact absurd z e
      · exact h'.1 x m
theorem srt_srt : ∀ l : List PI, (srt l).Pairwise LeP
  | [] => List.Pairwise.nil
  | p :: l => ins_srt p (srt_srt l)
theorem leP_anti {p q : PI} (h1 : LeP p q) (h2 : LeP q p) : p = q := by
  have a := leP_iff.mp h1
  have b := leP_iff.mp h2
  obtain ⟨x, y⟩ := p
  obtain ⟨x', y'⟩ := q
  have e1 : x = x' := by show x = x'; simp only at a b; omega
  have e2 : y = y' := by simp only at a b; omega
  rw [e1, e2]
/-- there is one sorted list of them -/
theorem srt_uniq : ∀ {l m : List PI}, l.Pairwise LeP → m.Pairwise LeP → l.Perm m → l = m
  | [], m, _, _, h => (List.Perm.eq_nil h.symm).symm
  | x :: l, [], _, _, h => absurd h.length_eq (by simp)
  | x :: l, y :: m, hl, hm, h => by
    have l' := List.pairwise_cons.mp hl
    have m' := List.pairwise_cons.mp hm
    have h1 : LeP y x := by
      rcases List.mem_cons.mp (h.mem_iff.mp (List.mem_cons_self (a := x) (l := l))) with e | z
      · rw [e]; rcases leP_total y y with z | z <;> exact z
      · exact m'.1 x z
    have h2 : LeP x y := by
      rcases List.mem_cons.mp (h.mem_iff.mpr (List.mem_cons_self (a := y) (l := m))) with e | z
      · rw [e]; rcases leP_total x x with z | z <;> exact z
      · exact l'.1 y z
    have e := leP_anti h2 h1
    subst e
    rw [srt_uniq l'.2 m'.2 h.cons_inv]
theorem srt_of {l m : List PI} (h : m.Pairwise LeP) (p : m.Perm l) : m = srt l := srt_uniq h (srt_srt l) (p.trans (srt_perm l).symm)
/-- what a value says as a pair, read off the heap -/
def pOf (H : Hp) : V → Int × Int
  | .ref t => match H t with
    | some (.tup [.int i, .int j]) => (i, j)
    | _ => (0, 0)
  | _ => (0, 0)
theorem pOf_is {H : Hp} {v : V} {d : PI} (h : Is H v d) : ∃ t, v = .ref t ∧ H t = some (.tup [.int (pOf H v).1, .int (pOf H v).2]) ∧ d = ⟨(pOf H v).1, (pOf H v).2⟩ := by
  obtain ⟨t, x, y, rfl, h1, h2, h3⟩ := h
  have h2 : x = .int d.a := h2
  have h3 : y = .int d.b := h3
  subst h2
  subst h3
  have e : pOf H (.ref t) = (d.a, d.b) := by simp only [pOf, h1]
  exact ⟨t, rfl, by rw [e]; exact h1, by rw [e]⟩
theorem all_of {H : Hp} : ∀ {xs : List V} {l : List PI}, IsAll H xs l → l = xs.map fun v => (⟨(pOf H v).1, (pOf H v).2⟩ : PI) := fun {xs l} h => by
  refine List.ext_getElem? fun i => ?_
  rw [List.getElem?_map]
  cases e : xs[i]? with
  | none =>
    have := List.getElem?_eq_none_iff.mp e
    exact List.getElem?_eq_none_iff.mpr (by rw [← h.1]; exact this)
  | some x =>
    obtain ⟨d, hd, hx⟩ := h.get' e
    obtain ⟨t, _, _, q⟩ := pOf_is hx
    rw [hd, q]
    rfl
/-- sorted of a list of pairs -/
theorem sort_pairs {K : PySem.W.Frag} {F H : Hp} {a : Addr} {xs : List V} {l : List PI} {Q : VK} (sF : Same F H) (hx : IsAll F xs l) (ha : SqL K H a xs) (q : ∀ ys p, H p = none → IsAll F ys (srt l) → Q (.ref p) (upd H p (.lst ys))) : rSortQ K [.ref a] H Q := by
  unfold rSortQ
  refine ⟨a, xs, pOf F, rfl, ha, fun x m => ?_, fun ys p hs hb np => q ys p np ?_⟩
  · obtain ⟨i, hi⟩ := List.getElem?_of_mem m
    obtain ⟨d, _, hd⟩ := hx.get' hi
    obtain ⟨t, e, h, _⟩ := pOf_is hd
    exact ⟨t, e, sF _ _ h⟩
  · have el := all_of hx
    have hys : IsAll F ys (ys.map fun v => (⟨(pOf F v).1, (pOf F v).2⟩ : PI)) := by
      refine ⟨by rw [List.length_map], fun i x y h1 h2 => ?_⟩
      rw [List.getElem?_map, h1] at h2
      cases h2
      have m : x ∈ xs := hb.perm.mem_iff.mp (List.mem_of_getElem? h1)
      obtain ⟨j, hj⟩ := List.getElem?_of_mem m
      obtain ⟨d, _, hd⟩ := hx.get' hj
      obtain ⟨t, e, h, e2⟩ := pOf_is hd
      exact ⟨t, _, _, e, h, rfl, rfl⟩
    have es : (ys.map fun v => (⟨(pOf F v).1, (pOf F v).2⟩ : PI)) = srt l := by
      refine srt_of ?_ ?_
      · refine List.pairwise_map.mpr (List.Pairwise.imp (fun {x y} h => ?_) hs)
        have h := SrtO.lexB_no.mp h
        exact leP_iff.mpr (by simp only; omega)
      · rw [el]
        exact hb.perm.map _
    rw [es] at hys
    exact hys
theorem pairs_of {K : PySem.W.Frag} {H : Hp} : ∀ {xs : List V} {l : List PI}, IsAll H xs l → ∃ ps : List Addr, xs = ps.map V.ref ∧ Paired (fun p kv => SqT K H p [kV kv.1, kv.2]) ps (dI l)
  | [], [], _ => ⟨[], rfl, .nil⟩
  | [], d :: l, h => by have := h.1; simp at this
  | x :: xs, [], h => by have := h.1; simp at this
  | x :: xs, d :: l, h => by
    obtain ⟨t, x1, x2, e, h1, h2, h3⟩ := h.2 0 x d rfl rfl
    have h2 : x1 = .int d.a := h2
    have h3 : x2 = .int d.b := h3
    subst h2
    subst h3
    obtain ⟨ps, e2, p⟩ := pairs_of (K := K) (xs := xs) (l := l) ⟨by have := h.1; simpa using this, fun i a b p q => h.2 (i + 1) a b (by simpa using p) (by simpa using q)⟩
    exact ⟨t :: ps, by rw [e, e2]; rfl, .cons (SqT.of h1) p⟩
/-- dict(pairs) -/
theorem dict_pairs {K : PySem.W.Frag} {H : Hp} {a : Addr} {xs : List V} {l : List PI} {Q : VK} (hx : IsAll H xs l) (ha : SqL K H a xs) (q : ∀ p, H p = none → Q (.ref p) (upd H p (.dK (dI (merge [] l))))) : rDictP K [.ref a] H Q := by
  unfold rDictP
  obtain ⟨ps, e, p⟩ := pairs_of (K := K) hx
  refine ⟨a, ps, dI l, rfl, by rw [← e]; exact ha, p, fun d nd => ?_⟩
  have e2 : mergeK [] (dI l) = dI (merge [] l) := dI_merge l []
  rw [e2]
  exact q d nd
/-! ### a dict under its lock -/
theorem lock_in {F H : Hp} {d : Addr} {o : HO} (s : Same F H) : Same (fun c => if c = d then none else F c) (upd H d o) := fun c u h => by
  by_cases e : c = d
  · simp only [e, if_true] at h; cases h
  · simp only [e, if_false] at h
    rw [upd_ne e]; exact s c u h
theorem lock_out {F H F2 H2 : Hp} {d : Addr} {o u : HO} (s : Same F H) (h : H d = some u) (g : Gr mu0 (fun c => if c = d then none else F c) (upd H d o) F2 H2) :
    H2 d = some o ∧ Same F2 (fun c => if c = d then F d else F2 c) ∧ Gr mu0 F H (fun c => if c = d then F d else F2 c) (upd H2 d u) := by
  have n2 : F2 d = none := by
    cases e : F2 d with
    | none => rfl
    | some z =>
      rcases g.nw d z e with k | k
      · simp only [if_true] at k; cases k
      · rw [upd_same] at k; cases k
  refine ⟨g.fr d o upd_same (fun z => z), fun c z e => ?_, ⟨fun c z e => ?_, fun c z e => ?_, fun c z e => ?_, fun c z e m => ?_, fun c e => ?_⟩⟩
  · by_cases k : c = d
    · rw [k, n2] at e; cases e
    · simp only [k, if_false]; exact e
  · by_cases k : c = d
    · simp only [k, if_true]; rw [← k]; exact e
    · simp only [k, if_false]
      exact g.ff c z (by simp only [k, if_false]; exact e)
  · by_cases k : c = d
    · simp only [k, if_true] at e
      rw [k, upd_same, ← h]
      exact s d z e
    · simp only [k, if_false] at e
      rw [upd_ne k]; exact g.fh c z e
  · by_cases k : c = d
    · simp only [k, if_true] at e
      exact .inl (by rw [k]; exact e)
    · simp only [k, if_false] at e
      rcases g.nw c z e with q | q
      · simp only [k, if_false] at q; exact .inl q
      · rw [upd_ne k] at q; exact .inr q
  · by_cases k : c = d
    · rw [k, upd_same]; rw [k, h] at e; exact e
    · rw [upd_ne k]
      exact g.fr c z (by rw [upd_ne k]; exact e) (fun z => z)
  · by_cases k : c = d
    · rw [k, upd_same] at e; cases e
    · rw [upd_ne k] at e
      have q := g.th c e
      rw [upd_ne k] at q; exact q
/-- the signs that aren't 0, in order -/
def nz (p : PI) : Bool := decide (p.b ≠ 0)
def told (l : List PI) : List PI := srt (l.filter nz)
theorem dI_get {l : List PI} {i : Nat} (h : i < l.length) : (dI l)[i]? = some (Sum.inl l[i].a, V.int l[i].b) := by
  unfold dI
  rw [List.getElem?_map, List.getElem?_eq_getElem h]
  rfl
theorem filter_take_succ {l : List PI} {f : PI → Bool} {i : Nat} (h : i < l.length) : (l.take (i + 1)).filter f = (l.take i).filter f ++ (if f l[i] = true then [l[i]] else []) := by
  rw [List.take_add_one, List.getElem?_eq_getElem h, List.filter_append]
  show _ ++ List.filter f [l[i]] = _
  rw [List.filter_cons]
  split <;> rfl
theorem nd_srt {l : List PI} (h : Nd l) : Nd (srt l) := ((srt_perm l).map (fun p : PI => p.a)).nodup_iff.mpr h
theorem mem_srt {l : List PI} {q : PI} : q ∈ srt l ↔ q ∈ l := (srt_perm l).mem_iff
theorem mem_put {l : List PI} {x v : Int} {q : PI} (m : q ∈ put l x v) : q ∈ l ∨ q = ⟨x, v⟩ := by
  unfold put at m
  split at m
  · obtain ⟨z, hz, e⟩ := List.mem_map.mp m
    split at e
    · rename_i h1 h2
      exact .inr (by rw [← e, h2])
    · exact .inl (by rw [← e]; exact hz)
  · rcases List.mem_append.mp m with m | m
    · exact .inl m
    · exact .inr (List.mem_singleton.mp m)
/-! ### sorted(d.items()), d a dict of ints to ints -/
section
open PySem.Spec PyProof.Rows
variable {X : Cx}
/-- many new things are tracked at once -/
theorem inv_many {pins : List (Addr × Obj)} {σ : L2.St} {H H' : Hp} {s : Shared} {h' : Heap} {tk : Nat} {as : List Addr} (I : Inv X pins σ H s) (k : ∀ b o, s.heap.get? b = some o → h'.get? b = some o) (hp : ∀ a ∈ as, s.heap.objs.size ≤ a)
    (p1 : ∀ b, b ∉ as → H' b = H b) (p2 : ∀ b ∈ as, ∀ o, H' b = some o → ObjOk X.prog X.w H' h' b o) : Inv X pins σ H' { s with heap := h', toks := tk } := by
  have old : ∀ b o, s.heap.get? b = some o → b ∉ as := fun b o e z => Nat.lt_irrefl _ (Nat.lt_of_lt_of_le (Heap.lt_size e) (hp b z))
  have trc : ∀ b o, H b = some o → b ∉ as := fun b o e z => by
    have := I.hok.lt e
    exact Nat.lt_irrefl _ (Nat.lt_of_lt_of_le this (hp b z))
  have kp : ∀ b o, H b = some o → H' b = some o := fun b o e => by rw [p1 b (trc b o e)]; exact e
  refine I.un ⟨fun b o q _ _ _ => k b o q, fun b o q _ _ _ => ⟨o.slots, k b o q⟩, fun b o q n _ => by rw [p1 b (old b o q)]; exact n, fun b o q _ => ⟨o, k b o q⟩, fun b xs e => kp b _ e, fun b o u e => kp b _ e, fun b ps e => ⟨#[], by rw [kp b _ e]; simp⟩⟩ fun b o e => ?_
  by_cases m : b ∈ as
  · exact p2 b m o e
  · rw [p1 b m] at e
    exact (I.hok b o e).stay (fun c u _ q => k c u q) (fun c q => kp c _ q) fun c xs q => kp c _ q
/-- the pair that stands at a -/
def pzAt (zs : List (Addr × PI)) (a : Addr) : Option PI := (zs.find? fun z => decide (z.1 = a)).map (·.2)
theorem pzAt_ix : ∀ {zs : List (Addr × PI)}, (zs.map (·.1)).Nodup → ∀ {j : Nat} {z : Addr × PI}, zs[j]? = some z → pzAt zs z.1 = some z.2
  | [], _, j, z, h => by cases h
  | y :: ys, nd, 0, z, h => by
    have e := Option.some.inj h
    subst e
    simp [pzAt]
  | y :: ys, nd, j + 1, z, h => by
    have nd' := List.nodup_cons.mp nd
    have m : z.1 ∈ ys.map (·.1) := List.mem_map.mpr ⟨z, List.mem_of_getElem? (show ys[j]? = some z from h), rfl⟩
    have ih := pzAt_ix nd'.2 (show ys[j]? = some z from h)
    have ne : ¬ y.1 = z.1 := fun e => nd'.1 (by show y.1 ∈ _; rw [e]; exact m)
    unfold pzAt at ih ⊢
    rw [List.find?_cons, decide_eq_false ne]
    exact ih
theorem pzAt_no {zs : List (Addr × PI)} {a : Addr} (h : a ∉ zs.map (·.1)) : pzAt zs a = none := by
  unfold pzAt
  rw [List.find?_eq_none.mpr fun z m e => h (List.mem_map.mpr ⟨z, m, of_decide_eq_true e⟩)]
  rfl
def trk (H : Hp) (B : Addr) (L : HO) (zs : List (Addr × PI)) : Hp := fun b => if b = B then some L else match pzAt zs b with
  | some q => some (.tup [.int q.a, .int q.b])
  | none => H b
def adOf : Value → Addr
  | .ref a => a
  | _ => 0
@[irreducible] def rSortIt : V → Hp → VK → Prop := fun x H Q => ∃ (d : Addr) (l : List PI), x = .ref d ∧ H d = some (.dK (dI l)) ∧
  ∀ (H' : Hp) (p : Addr) (ys : List Addr), Same H H' → H p = none → (∀ t ∈ ys, H t = none) → p ∉ ys → (∀ b, b ≠ p → b ∉ ys → H' b = H b) → H' p = some (.lst (ys.map V.ref)) → All2 (fun t (q : PI) => H' t = some (.tup [.int q.a, .int q.b])) ys (srt l) → Q (.ref p) H'
def tSortIt (te : TE) : TE := fun σ H Q => te σ H fun x H1 => rSortIt x H1 Q
theorem pe_sortedItems {e : Expr} {te : TE} {p apos cpos pos : Pos} (hc : X.calm = true) (he : PE X e te) (hg : Gl X "sorted") (hm : X.mg "sorted" = none) (hv : bootBuiltins "sorted" = some (.builtin "sorted")) (hbase : attributeBase e "items" X.env (eval e X.env) = eval e X.env := by rfl) (hline : (apos.endLine == cpos.line) = true := by rfl)
    (hs : starEach [.Call (.Attribute e "items" apos) [] [] cpos] X.env = (false, eval (.Call (.Attribute e "items" apos) [] [] cpos) X.env) :: starEach [] X.env := by rfl) :
    PE X (.Call (.Name "sorted" p) [.Call (.Attribute e "items" apos) [] [] cpos] [] pos) (tSortIt te) := by
  refine ⟨fun pins s σ H Q I hq => ?_⟩
  refine wpAny_Call_Name_kw (ld_blt I hg hm hv ?_)
  refine PyProof.Rows.callWith_builtin1 ?_ hs rfl
  rw [hs]
  show wpAny _ _ (spliced ((false, eval (.Call (.Attribute e "items" apos) [] [] cpos) X.env) :: backTo pos (starEach [] X.env))) _ _ s
  refine Calls.spliced_cons ?_
  refine wpAny_Call_method (T := "dict") (id := "dict.items") hbase rfl hline F.plainAttrs_dict F.slot_dict_items F.type_dict_items (thn (he.run pins s σ H _ I hq) fun u s1 ⟨x, H1, I1, rx, q⟩ => ?_)
  unfold rSortIt at q
  obtain ⟨d, l, rfl, hd, q⟩ := q
  obtain rfl : u = Value.ref d := rx
  obtain ⟨hz, hs0, vs, kv, hdo⟩ := I1.hok d _ hd
  obtain ⟨ep, hat⟩ := hdo.dictAt
  have lk : (dI l).length = vs.length := Paired.length kv
  have ll : (dI l).length = l.length := by unfold dI; rw [List.length_map]
  refine ⟨hdo.typeIs, hdo.mapOf.noDict, ?_⟩
  show wpAny _ _ (callWith cpos (.builtin "dict.items") [.ref d] [] []) _ X.xe s1
  refine method_meetsIn F.slot_dict_items F.entry_dict_items rfl (PySem.evalArgs_none ⟨rfl, hdo.typeIs, F.args_dict_items_1 _, _, meets_dict_items (mixKind X.prog X.w) d hs0, ⟨vs, hdo⟩, ?_⟩)
  refine Calls.spliced_nil ?_
  have I2 : Inv X pins σ H1 { s1 with heap := s1.heap.push { cls := .type "dict_items", data := .fields #[.ref d] } } := I1.kept (t' := s1.toks) fun b ob q => Heap.get?_push_of_some _ q
  have hB : ((H1 d).isSome) = true := by rw [hd]; rfl
  refine Calls.call_function_entry kind_sorted plain_sorted entry_sorted (args_sorted1 _) (by
    unfold Builtin.«sorted»
    refine wpAny_bind (m := checkCount "sorted" 1 1 _) (wpAny_pure (wpAny_bind (PySem.W.kdx_collect (knd := mixKind X.prog X.w) (kvs := vs) (ep := ep) (I1.ok.hd hc) ⟨_, Heap.get?_push_size _ rfl, rfl, rfl⟩ (hat.push _) (by omega) fun h1 tk as hk hl hG => ?_)))
    refine wpAny_bind (wpAny_newList ?_ (by rw [List.length_map, hl]; omega))
    -- the pairs' tuples: at as
    have nd : as.Nodup := hG.rise.imp fun {a b} h => Nat.ne_of_lt h
    have lz : (as.zip l).map (·.1) = as := List.map_fst_zip (by omega)
    have zx : ∀ (j : Nat) (a : Addr), as[j]? = some a → ∃ (q : PI) (t u : Tok), l[j]? = some q ∧ pzAt (as.zip l) a = some q ∧ h1.get? a = some { cls := .type "tuple", data := .seq #[.int q.a t, .int q.b u] } := fun j a h => by
      obtain ⟨key, k, x, e1, e2, e3⟩ := hG.pairs j a h
      have jl : j < l.length := by have := (List.getElem?_eq_some_iff.mp h).1; omega
      have lj : l[j]? = some l[j] := List.getElem?_eq_getElem jl
      obtain ⟨y, e4, e5, e6⟩ := LiI.paired_get kv (dI_get jl)
      rw [e1] at e4
      have e4 := Option.some.inj e4
      subst e4
      obtain ⟨i, tk1, e7, rfl⟩ | ⟨z, tk1, e7, _⟩ := keyIs_shape (show keyIs k key = true from e2)
      · have e5 : Sum.inl l[j].a = k := e5
        rw [e7] at e5
        have e5 := Sum.inl.inj e5
        subst e5
        obtain ⟨tk2, e6⟩ := (show RelV (.int l[j].b) x from e6)
        subst e6
        exact ⟨l[j], tk1, tk2, lj, pzAt_ix (zs := as.zip l) (by rw [lz]; exact nd) (j := j) (z := (a, l[j])) (List.getElem?_zip_eq_some.mpr ⟨h, lj⟩), e3⟩
      · have e5 : Sum.inl l[j].a = k := e5
        rw [e7] at e5
        cases e5
    have zm : ∀ a ∈ as, ∃ (q : PI) (t u : Tok), pzAt (as.zip l) a = some q ∧ h1.get? a = some { cls := .type "tuple", data := .seq #[.int q.a t, .int q.b u] } := fun a m => by
      obtain ⟨j, hj⟩ := List.getElem?_of_mem m
      obtain ⟨q, t, u, _, h2, h3⟩ := zx j a hj
      exact ⟨q, t, u, h2, h3⟩
    have lm : as.map (fun a => (pzAt (as.zip l) a).getD ⟨0, 0⟩) = l := by
      refine List.ext_getElem? fun j => ?_
      rw [List.getElem?_map]
      cases hj : as[j]? with
      | none =>
        have := List.getElem?_eq_none_iff.mp hj
        exact (List.getElem?_eq_none_iff.mpr (by omega)).symm
      | some a =>
        obtain ⟨q, t, u, h1, h2, _⟩ := zx j a hj
        rw [h1, Option.map_some, h2]; rfl
    generalize ezs : as.zip l = zs at zx zm lm lz
    have s12 : (s1.heap.push { cls := .type "dict_items", data := .fields #[.ref d] }).objs.size ≤ h1.objs.size := by
      have := Heap.lt_size (hk _ _ (Heap.get?_push_size s1.heap rfl))
      rw [Heap.size_push]; exact this
    have Bn : h1.objs.size ∉ as := fun z => Nat.lt_irrefl _ (hG.there z)
    let kk : Value → Int × Int := fun v => (((pzAt zs (adOf v)).getD ⟨0, 0⟩).a, ((pzAt zs (adOf v)).getD ⟨0, 0⟩).b)
    have ho : (h1.push { cls := .type "list", data := .seq (as.map Value.ref).toArray }).get? h1.objs.size = some (seqObj "list" (as.map Value.ref).toArray 0) := Heap.get?_push_size _ rfl
    refine wpAny_bind (wpAny_holding (wpAny_call_entry slot_list_sort ⟨_, ho, rfl⟩ entry_list_sort (SrtO.list_sort_ord (ltv := fun v u => SrtO.lexB (kk v) (kk u)) (SrtO.swo_lex kk) ho (by rw [List.length_map, hl]; omega) (fun h2 => ?_) fun out hso hbo => ⟨_, rfl, wpAny_pure ⟨_, rfl, ?_⟩⟩) (args_list_sort _)))
    · refine SrtO.pairs_sortableO (k := kk) (by omega) (fun v m => ?_) fun o e => ?_
      · obtain ⟨a, ma, rfl⟩ := List.mem_map.mp m
        obtain ⟨q, t, u, h1', h2'⟩ := zm a ma
        refine ⟨a, _, t, u, 0, rfl, Heap.get?_push_of_some _ h2', rfl, ?_⟩
        show _ = Data.seq #[.int ((pzAt zs a).getD ⟨0, 0⟩).a t, .int ((pzAt zs a).getD ⟨0, 0⟩).b u] 0
        rw [h1']
        rfl
      · rw [ho] at e
        cases e
        intro c
        exact absurd (Value.type.inj c) (by decide)
    · have outp : out.Perm (as.map Value.ref) := hbo.perm
      have oe : out = (out.map adOf).map Value.ref := by
        rw [List.map_map]
        refine (List.map_id out).symm.trans (List.map_congr_left fun v m => ?_)
        obtain ⟨a, _, rfl⟩ := List.mem_map.mp (outp.mem_iff.mp m)
        rfl
      have yp : (out.map adOf).Perm as := by
        have := outp.map adOf
        rw [List.map_map] at this
        have e : as.map (adOf ∘ Value.ref) = as := (List.map_congr_left fun a _ => rfl).trans (List.map_id as)
        rw [e] at this; exact this
      generalize out.map adOf = ys at oe yp
      have lo : out.length ≤ sizeLine := by rw [oe, List.length_map, yp.length_eq, hl]; omega
      obtain ⟨ep3, h3B⟩ := sortedHeap_at (vs := as.map Value.ref) (out := out.toArray) ho
      have h3o : ∀ b o, h1.get? b = some o → (sortedHeap (h1.push { cls := .type "list", data := .seq (as.map Value.ref).toArray }) h1.objs.size (as.map Value.ref) out.toArray).get? b = some o := fun b o e => by
        have bl := Heap.lt_size e
        rw [sortedHeap_old (Nat.ne_of_lt bl) (by rw [Heap.size_push]; exact Nat.lt_succ_of_lt bl)]
        exact Heap.get?_push_of_some _ e
      have tB : trk H1 h1.objs.size (.lst (ys.map V.ref)) zs h1.objs.size = some (.lst (ys.map V.ref)) := by unfold trk; rw [if_pos rfl]
      have tT : ∀ a ∈ as, ∀ q, pzAt zs a = some q → trk H1 h1.objs.size (.lst (ys.map V.ref)) zs a = some (.tup [.int q.a, .int q.b]) := fun a m q e => by
        unfold trk
        rw [if_neg (fun z => Bn (by rw [← z]; exact m)), e]
      have tO : ∀ b, b ≠ h1.objs.size → b ∉ as → trk H1 h1.objs.size (.lst (ys.map V.ref)) zs b = H1 b := fun b n m => by
        unfold trk
        rw [if_neg n, pzAt_no (by rw [lz]; exact m)]
      have big : ∀ a ∈ h1.objs.size :: as, (s1.heap.push { cls := .type "dict_items", data := .fields #[.ref d] }).objs.size ≤ a := fun a m => by
        rcases List.mem_cons.mp m with rfl | m
        · exact s12
        · exact Nat.le_of_lt (hG.above a m)
      have J := inv_many (tk := tk) (H' := trk H1 h1.objs.size (.lst (ys.map V.ref)) zs) (h' := sortedHeap (h1.push { cls := .type "list", data := .seq (as.map Value.ref).toArray }) h1.objs.size (as.map Value.ref) out.toArray) (as := h1.objs.size :: as) I2 (fun b o e => h3o b o (hk b o e)) big
          (fun b m => tO b (fun z => m (by rw [z]; exact List.mem_cons_self)) (fun z => m (List.mem_cons_of_mem _ z))) (fun b m o e => by
        by_cases hb : b = h1.objs.size
        · subst hb
          rw [tB] at e
          cases e
          refine ⟨by rw [List.length_map, yp.length_eq, hl]; omega, out, ep3, ?_, h3B⟩
          rw [oe]
          exact LiI.vals_refs ys
        · have m := (List.mem_cons.mp m).resolve_left hb
          obtain ⟨q, t, u, e1, e2⟩ := zm b m
          rw [tT b m q e1] at e
          cases e
          exact ⟨two_le, [.int q.a t, .int q.b u], .cons ⟨_, rfl⟩ (.cons ⟨_, rfl⟩ .nil), ⟨_, h3o b _ e2, rfl, _, rfl⟩⟩)
      have fr1 : ∀ a ∈ h1.objs.size :: as, H1 a = none := fun a m => I2.hok.fresh (big a m)
      have ym : ∀ a, a ∈ ys ↔ a ∈ as := fun a => yp.mem_iff
      refine ⟨.ref h1.objs.size, _, J, rfl, q _ _ ys (fun b o e => ?_) (fr1 _ List.mem_cons_self) (fun t m => fr1 t (List.mem_cons_of_mem _ ((ym t).mp m))) (fun z => Bn ((ym _).mp z)) (fun b n m => tO b n fun z => m ((ym b).mpr z)) tB ?_⟩
      · rw [tO b (fun z => by rw [z, fr1 _ List.mem_cons_self] at e; cases e) (fun z => by rw [fr1 b (List.mem_cons_of_mem _ z)] at e; cases e)]
        exact e
      · have es : ys.map (fun a => (pzAt zs a).getD ⟨0, 0⟩) = srt l := by
          refine srt_of ?_ (by rw [← lm]; exact yp.map _)
          rw [oe] at hso
          have hso := List.pairwise_map.mp hso
          refine List.pairwise_map.mpr (hso.imp fun {x y} h => ?_)
          have h := SrtO.lexB_no.mp h
          exact leP_iff.mpr (by simp only [kk, adOf] at h; omega)
        rw [← es]
        refine ⟨by rw [List.length_map], fun i x y h1 h2 => ?_⟩
        rw [List.getElem?_map, h1] at h2
        cases h2
        have m := (ym x).mp (List.mem_of_getElem? h1)
        obtain ⟨q, t, u, e1, e2⟩ := zm x m
        rw [tT x m q e1]
        show _ = some (HO.tup [V.int ((pzAt zs x).getD ⟨0, 0⟩).a, V.int ((pzAt zs x).getD ⟨0, 0⟩).b])
        rw [e1]
        rfl)
theorem sitems {F H : Hp} {d : Addr} {l : List PI} {Q : VK} (sF : Same F H) (hd : H d = some (.dK (dI l))) (q : ∀ (F' H' : Hp) (p : Addr) (xs : List V), Gr mu0 F H F' H' → Ow H F' H' p (.lst xs) → IsAll F' xs (srt l) → Q (.ref p) H') : rSortIt (.ref d) H Q := by
  unfold rSortIt
  refine ⟨d, l, rfl, hd, fun H' p ys s n nt pn off hp al => ?_⟩
  have fy : ∀ b ∈ ys, F b = none := fun b m => sF.free (nt b m)
  have s' : Same F (fun b => if b ∈ ys then H' b else F b) := fun b o e => by
    by_cases m : b ∈ ys
    · rw [fy b m] at e; cases e
    · simp only [m, if_false]; exact e
  have e2 : ∀ b, b ∈ ys → (if b ∈ ys then H' b else F b) = H' b := fun b m => if_pos m
  refine q (fun b => if b ∈ ys then H' b else F b) H' p (ys.map V.ref) ⟨s', fun b o e => ?_, fun b o e => ?_, fun b o e _ => s b o e, fun b e => s.free e⟩ ⟨n, ?_, hp⟩ ⟨by rw [List.length_map]; exact al.1, fun i x y h1 h2 => ?_⟩
  · by_cases m : b ∈ ys
    · simp only [m, if_true] at e; exact e
    · simp only [m, if_false] at e; exact s b o (sF b o e)
  · by_cases m : b ∈ ys
    · exact .inr (nt b m)
    · simp only [m, if_false] at e; exact .inl e
  · show (if p ∈ ys then H' p else F p) = none
    rw [if_neg pn]; exact sF.free n
  · rw [List.getElem?_map] at h1
    cases e : ys[i]? with
    | none => rw [e] at h1; cases h1
    | some t =>
      rw [e] at h1
      cases h1
      refine ⟨t, _, _, rfl, ?_, rfl, rfl⟩
      show (if t ∈ ys then H' t else F t) = _
      rw [if_pos (List.mem_of_getElem? e)]
      exact al.2 i t y e h2
end
/-! ### sum of a tuple; a tuple not at all or once -/
section
open PySem.Spec PyProof.Rows
variable {X : Cx}
def rSumT (K : PySem.W.Frag) : List V → Hp → VK → Prop := fun vs H Q => ∃ (a : Addr) (ns : List Int), vs = [V.ref a] ∧ SqT K H a (ns.map V.int) ∧ Q (.int ns.sum) H
theorem cr_sumT (hc : X.calm = true) : CallR X (.builtin "sum") (rSumT X.K) := by
  intro pins s σ H vs us Q I r h
  obtain ⟨a, ns, rfl, ht, q⟩ := h
  obtain ⟨its, rv, ⟨o, ho, hcl, n, hd⟩, _⟩ := I.tuple ht
  have hi := rv.ints
  obtain ⟨xs, e⟩ := hi.allInts.items
  have hn : numsOf (intItems xs).toList = ns := by rw [← e]; exact hi.numsOf
  rw [nums_intItems] at hn
  rw [e] at hd
  rw [Vals.ref1 r]
  refine PySem.W.ktm_sumG (I.ok.hd hc) ⟨o, ho, hcl, n, hd⟩ fun h' tk t' hk => ?_
  rw [preSum_eq, List.take_of_length_le (by simp), hn]
  exact ⟨.int _, H, I.kept hk, ⟨_, rfl⟩, q⟩
theorem tup_mul1 (l : Addr) (items : Array Value) (n : Nat) (dd : Option Addr) (sl : Array (Option Value)) (u : Tok) (hne : items.isEmpty = false) :
    Meets (Builtin.«tuple.__mul__» ⟨[.ref l, .int 1 u], []⟩) (fun _ R s => s.heap.get? l = some { cls := .type "tuple", dict := dd, data := .seq items n, slots := sl } ∧ R (.ok (.ret (Value.ref l))) s) :=
  .of_wp fun prog w A R s h => by
    obtain ⟨hp, g, d, tk, os⟩ := s
    obtain ⟨hl, h⟩ := h
    have f1 := AutoSeq1.idx_int
    wp_walk using wpAny_loadPart' hl
    exact ⟨_, rfl, h⟩
theorem tup_mul0 (l : Addr) (items : Array Value) (n : Nat) (dd : Option Addr) (sl : Array (Option Value)) (u : Tok) (hne : items.isEmpty = false) :
    Meets (Builtin.«tuple.__mul__» ⟨[.ref l, .int 0 u], []⟩) (fun _ R s => s.heap.get? l = some { cls := .type "tuple", dict := dd, data := .seq items n, slots := sl } ∧
      R (.ok (.ret (Value.ref s.heap.objs.size))) { s with heap := s.heap.push { cls := Value.type "tuple", data := Data.seq #[] }, toks := s.toks }) :=
  .of_wp fun prog w A R s h => by
    obtain ⟨hp, g, d, tk, os⟩ := s
    obtain ⟨hl, h⟩ := h
    have f1 := AutoSeq1.idx_int
    wp_walk using wpAny_loadPart' hl
    exact ⟨_, rfl, h⟩
def rRep01 (K : PySem.W.Frag) : R2 := fun x y H Q => ∃ l k xs, x = .ref l ∧ y = .int k ∧ SqT K H l xs ∧ xs ≠ [] ∧ ((k = 1 ∧ Q (.ref l) H) ∨ (k = 0 ∧ ∀ p, H p = none → Q (.ref p) (upd H p (.tup []))))
theorem op_rep01 : OpR X (binaryOp .Mult) (rRep01 X.K) := by
  intro pins s σ H x y v u Q I rx ry h
  obtain ⟨l, k, xs, rfl, rfl, hT, hne, h⟩ := h
  cases rx
  obtain ⟨tk, rfl⟩ := ry
  obtain ⟨its, r, ⟨⟨cls, dd, data, sl⟩, ho, hc, n, hd⟩, hs⟩ := I.tuple hT
  simp only at hc hd
  subst hc hd
  have hi : its.toArray.isEmpty = false := by
    cases its with
    | nil => have := r.length; exact absurd (List.eq_nil_of_length_eq_zero this) hne
    | cons a b => rfl
  rcases h with ⟨rfl, q⟩ | ⟨rfl, q⟩
  · refine wpAny_binaryOp_repeat_ref (T := "tuple") (U := "int") (by decide) ⟨_, ho, rfl⟩ (fun s' => typeIs_int s' 1 tk) noFill_tuple_mul F.fills_int_mul F.slot_int_rmul repeat_tuple F.slot_int_index.lookup
      (call_meets F.slot_int_rmul (typeIs_int s 1 tk) F.entry_int_rmul (F.args_int_rmul_2 _ _) (int_rmul_tuple 1 tk l its.toArray n dd sl)
        ⟨ho, rfl, ⟨_, ho, rfl⟩, call_meets F.slot_tuple_mul ⟨_, ho, rfl⟩ F.entry_tuple_mul (F.args_tuple_mul_2 _ _) (tup_mul1 l its.toArray n dd sl tk hi) ⟨ho, ?_⟩⟩)
    exact ⟨.ref l, H, I, rfl, q⟩
  · refine wpAny_binaryOp_repeat_ref (T := "tuple") (U := "int") (by decide) ⟨_, ho, rfl⟩ (fun s' => typeIs_int s' 0 tk) noFill_tuple_mul F.fills_int_mul F.slot_int_rmul repeat_tuple F.slot_int_index.lookup
      (call_meets F.slot_int_rmul (typeIs_int s 0 tk) F.entry_int_rmul (F.args_int_rmul_2 _ _) (int_rmul_tuple 0 tk l its.toArray n dd sl)
        ⟨ho, rfl, ⟨_, ho, rfl⟩, call_meets F.slot_tuple_mul ⟨_, ho, rfl⟩ F.entry_tuple_mul (F.args_tuple_mul_2 _ _) (tup_mul0 l its.toArray n dd sl tk hi) ⟨ho, ?_⟩⟩)
    refine ⟨.ref s.heap.objs.size, _, I.laid (t' := s.toks) (o := .tup []) (fun b ob q => Heap.get?_push_of_some _ q) (Nat.le_refl _) ?_, rfl, q _ (I.hok.fresh (Nat.le_refl _))⟩
    exact ⟨nil_le, _, .nil, IsTup.new _ _⟩
end
/-! slices of tuples, +: the ways -/
@[irreducible] def rSlQ (K : PySem.W.Frag) : V → Option Int → Option Int → Hp → VK → Prop := rSlA K
theorem sl_tupQ {X : Cx} : SlR X (rSlQ X.K) := by
  unfold rSlQ
  exact sl_tupA
@[irreducible] def rCatQ (K : PySem.W.Frag) : R2 := rCatA K
theorem op_catQ {X : Cx} : OpR X (binaryOp .Add) (rCatQ X.K) := by
  unfold rCatQ
  exact op_catA
theorem slA_all {K : PySem.W.Frag} {H : Hp} {a : Addr} {xs : List V} {lo hi : Option Int} {Q : VK} (h : SqT K H a xs) (w : HT.sIx xs.length 0 lo = 0 ∧ HT.sIx xs.length xs.length hi = xs.length) (q : Q (.ref a) H) : rSlQ K (.ref a) lo hi H Q := by
  unfold rSlQ
  exact ⟨a, xs, rfl, h, fun _ => q, fun n => absurd w n⟩
theorem slA_cut {K : PySem.W.Frag} {H : Hp} {a : Addr} {xs : List V} {lo hi : Option Int} {Q : VK} (h : SqT K H a xs) (w : ¬ (HT.sIx xs.length 0 lo = 0 ∧ HT.sIx xs.length xs.length hi = xs.length)) (q : ∀ p, H p = none → Q (.ref p) (upd H p (.tup (cutV xs lo hi)))) : rSlQ K (.ref a) lo hi H Q := by
  unfold rSlQ
  exact ⟨a, xs, rfl, h, fun n => absurd n w, fun _ => q⟩
theorem catA_nil {K : PySem.W.Frag} {H : Hp} {a b : Addr} {ys : List V} {Q : VK} (h : SqT K H a []) (h2 : SqT K H b ys) (l : ys.length ≤ sizeLine) (q : Q (.ref b) H) : rCatQ K (.ref a) (.ref b) H Q := by
  unfold rCatQ
  exact ⟨a, b, [], ys, rfl, rfl, h, h2, by simpa using l, fun _ => q, fun n => absurd rfl n, fun n => absurd rfl n⟩
theorem catA_new {K : PySem.W.Frag} {H : Hp} {a b : Addr} {xs ys : List V} {Q : VK} (h : SqT K H a xs) (h2 : SqT K H b ys) (l : xs.length + ys.length ≤ sizeLine) (n1 : xs ≠ []) (n2 : ys ≠ []) (q : ∀ p, H p = none → Q (.ref p) (upd H p (.tup (xs ++ ys)))) : rCatQ K (.ref a) (.ref b) H Q := by
  unfold rCatQ
  exact ⟨a, b, xs, ys, rfl, rfl, h, h2, l, fun e => absurd e n1, fun _ e => absurd e n2, fun _ _ => q⟩
def top (i : Nat) : Stmt := PySem.Challenge.pw_endnever_k05_whole_steps_come_to_runs.main.body.getD i (.Pass ⟨0, 0, 0, 0⟩)
abbrev s_L_mixed : Stmt := top 18
abbrev N_L_mixed : List Str := ["_law_cell", "_law_k", "_law_rest", "_law_number"]
theorem sc_L_mixed : FnScope ["_law_cell", "_law_k", "_law_rest", "_law_number"] ["_law_cell", "_law_k"] (defScope s_L_mixed) := ⟨rfl, rfl, rfl, by decide +kernel, rfl, by decide +kernel, by decide +kernel⟩
abbrev s_L_purse : Stmt := top 19
abbrev N_L_purse : List Str := ["_law_script", "_law_cells", "_law_number", "_law_k"]
theorem sc_L_purse : FnScope ["_law_script", "_law_cells", "_law_number", "_law_k"] ["_law_script"] (defScope s_L_purse) := ⟨rfl, rfl, rfl, by decide +kernel, rfl, by decide +kernel, by decide +kernel⟩
abbrev s_L_draw : Stmt := top 20
abbrev N_L_draw : List Str := ["_law_purse_here", "_law_out_of", "_law_drawn"]
theorem sc_L_draw : FnScope ["_law_purse_here", "_law_out_of", "_law_drawn"] ["_law_purse_here", "_law_out_of"] (defScope s_L_draw) := ⟨rfl, rfl, rfl, by decide +kernel, rfl, by decide +kernel, by decide +kernel⟩
abbrev s_L_machine : Stmt := top 21
abbrev N_L_machine : List Str := ["_law_purse_here", "_law_rows", "_law_signs", "_law_kind", "_law_found", "_law_k", "_law_row", "_law_j", "_law_entry"]
theorem sc_L_machine : FnScope ["_law_purse_here", "_law_rows", "_law_signs", "_law_kind", "_law_found", "_law_k", "_law_row", "_law_j", "_law_entry"] ["_law_purse_here"] (defScope s_L_machine) := ⟨rfl, rfl, rfl, by decide +kernel, rfl, by decide +kernel, by decide +kernel⟩
abbrev s_is_entry : Stmt := top 6
abbrev N_is_entry : List Str := ["entry", "rows", "signs"]
theorem sc_is_entry : FnScope ["entry", "rows", "signs"] ["entry", "rows", "signs"] (defScope s_is_entry) := ⟨rfl, rfl, rfl, by decide +kernel, rfl, by decide +kernel, by decide +kernel⟩
abbrev s_is_machine : Stmt := top 7
abbrev N_is_machine : List Str := ["machine", "rows", "signs", "row", "entry"]
theorem sc_is_machine : FnScope ["machine", "rows", "signs", "row", "entry"] ["machine"] (defScope s_is_machine) := ⟨rfl, rfl, rfl, by decide +kernel, rfl, by decide +kernel, by decide +kernel⟩
abbrev s_must_machine : Stmt := top 8
abbrev N_must_machine : List Str := ["machine"]
theorem sc_must_machine : FnScope ["machine"] ["machine"] (defScope s_must_machine) := ⟨rfl, rfl, rfl, by decide +kernel, rfl, by decide +kernel, by decide +kernel⟩
abbrev s_Goer_init : Stmt := inClass (top 10) 0
abbrev N_Goer_init : List Str := ["self", "machine", "setup"]
theorem sc_Goer_init : FnScope ["self", "machine", "setup"] ["self", "machine", "setup"] (defScope s_Goer_init) := ⟨rfl, rfl, rfl, by decide +kernel, rfl, by decide +kernel, by decide +kernel⟩
abbrev s_told_strip : Stmt := top 9
abbrev N_told_strip : List Str := ["signs", "place", "sign"]
theorem sc_told_strip : FnScope ["signs", "place", "sign"] ["signs"] (defScope s_told_strip) := ⟨rfl, rfl, rfl, by decide +kernel, rfl, by decide +kernel, by decide +kernel⟩
abbrev s_Goer_setup : Stmt := inClass (top 10) 3
abbrev N_Goer_setup : List Str := ["self"]
theorem sc_Goer_setup : FnScope ["self"] ["self"] (defScope s_Goer_setup) := ⟨rfl, rfl, rfl, by decide +kernel, rfl, by decide +kernel, by decide +kernel⟩
abbrev s_Goer_entry : Stmt := inClass (top 10) 1
abbrev N_Goer_entry : List Str := ["self"]
theorem sc_Goer_entry : FnScope ["self"] ["self"] (defScope s_Goer_entry) := ⟨rfl, rfl, rfl, by decide +kernel, rfl, by decide +kernel, by decide +kernel⟩
abbrev s_Goer_step : Stmt := inClass (top 10) 2
abbrev N_Goer_step : List Str := ["self", "entry"]
theorem sc_Goer_step : FnScope ["self", "entry"] ["self"] (defScope s_Goer_step) := ⟨rfl, rfl, rfl, by decide +kernel, rfl, by decide +kernel, by decide +kernel⟩
abbrev s_setups : Stmt := top 15
abbrev N_setups : List Str := ["machine", "most", "walk", "found"]
theorem sc_setups : FnScope ["machine", "most", "walk", "found"] ["machine", "most"] (defScope s_setups) := ⟨rfl, rfl, rfl, by decide +kernel, rfl, by decide +kernel, by decide +kernel⟩
abbrev s_gone : Stmt := top 13
abbrev N_gone : List Str := ["machine", "most", "walk", "going"]
theorem sc_gone : FnScope ["machine", "most", "walk", "going"] ["machine", "most"] (defScope s_gone) := ⟨rfl, rfl, rfl, by decide +kernel, rfl, by decide +kernel, by decide +kernel⟩
abbrev s_run : Stmt := top 14
abbrev N_run : List Str := ["machine", "most", "walk", "ended"]
theorem sc_run : FnScope ["machine", "most", "walk", "ended"] ["machine", "most"] (defScope s_run) := ⟨rfl, rfl, rfl, by decide +kernel, rfl, by decide +kernel, by decide +kernel⟩
abbrev s_touched : Stmt := top 16
abbrev N_touched : List Str := ["machine", "most", "walk", "least", "greatest"]
theorem sc_touched : FnScope ["machine", "most", "walk", "least", "greatest"] ["machine", "most"] (defScope s_touched) := ⟨rfl, rfl, rfl, by decide +kernel, rfl, by decide +kernel, by decide +kernel⟩
abbrev s_L_mirrored : Stmt := top 22
abbrev N_L_mirrored : List Str := ["_law_machine_here", "_law_found", "_law_row", "_law_way", "_law_entry"]
theorem sc_L_mirrored : FnScope ["_law_machine_here", "_law_found", "_law_row", "_law_way", "_law_entry"] ["_law_machine_here"] (defScope s_L_mirrored) := ⟨rfl, rfl, rfl, by decide +kernel, rfl, by decide +kernel, by decide +kernel⟩
abbrev s_stepped : Stmt := top 11
abbrev N_stepped : List Str := ["machine", "setup", "walk"]
theorem sc_stepped : FnScope ["machine", "setup", "walk"] ["machine", "setup"] (defScope s_stepped) := ⟨rfl, rfl, rfl, by decide +kernel, rfl, by decide +kernel, by decide +kernel⟩
abbrev s_L_turned : Stmt := top 23
abbrev N_L_turned : List Str := ["_law_setup", "_law_place", "_law_sign"]
theorem sc_L_turned : FnScope ["_law_setup", "_law_place", "_law_sign"] ["_law_setup"] (defScope s_L_turned) := ⟨rfl, rfl, rfl, by decide +kernel, rfl, by decide +kernel, by decide +kernel⟩
abbrev s_law : Stmt := top 24
abbrev N_law : List Str := ["_law_script", "_law_purse_here", "_law_machine_here", "_law_most", "_law_more", "_law_some", "_law_one", "_law_other", "_law_found", "_law_near", "_law_far", "_law_mirror", "_law_setup"]
theorem sc_law : FnScope ["_law_script", "_law_purse_here", "_law_machine_here", "_law_most", "_law_more", "_law_some", "_law_one", "_law_other", "_law_found", "_law_near", "_law_far", "_law_mirror", "_law_setup"] ["_law_script"] (defScope s_law) := ⟨rfl, rfl, rfl, by decide +kernel, rfl, by decide +kernel, by decide +kernel⟩
/-- what the top has written: where each def stands, what the names hold -/
structure Tx (K : PySem.W.Frag) (mg : Str → Option Value) where
  a_L_mixed : Addr
  fd_L_mixed : FuncData
  F_L_mixed : Fun K "_law_mixed" "_law_mixed" s_L_mixed a_L_mixed fd_L_mixed
  b_L_mixed : Binds K fd_L_mixed ["_law_cell", "_law_k"] []
  m_L_mixed : mg "_law_mixed" = some (.ref a_L_mixed)
  a_L_purse : Addr
  fd_L_purse : FuncData
  F_L_purse : Fun K "_law_purse" "_law_purse" s_L_purse a_L_purse fd_L_purse
  b_L_purse : Binds K fd_L_purse ["_law_script"] []
  m_L_purse : mg "_law_purse" = some (.ref a_L_purse)
  a_L_draw : Addr
  fd_L_draw : FuncData
  F_L_draw : Fun K "_law_draw" "_law_draw" s_L_draw a_L_draw fd_L_draw
  b_L_draw : Binds K fd_L_draw ["_law_purse_here", "_law_out_of"] []
  m_L_draw : mg "_law_draw" = some (.ref a_L_draw)
  a_L_machine : Addr
  fd_L_machine : FuncData
  F_L_machine : Fun K "_law_machine" "_law_machine" s_L_machine a_L_machine fd_L_machine
  b_L_machine : Binds K fd_L_machine ["_law_purse_here"] []
  m_L_machine : mg "_law_machine" = some (.ref a_L_machine)
  a_is_entry : Addr
  fd_is_entry : FuncData
  F_is_entry : Fun K "is_entry" "is_entry" s_is_entry a_is_entry fd_is_entry
  b_is_entry : Binds K fd_is_entry ["entry", "rows", "signs"] []
  m_is_entry : mg "is_entry" = some (.ref a_is_entry)
  a_is_machine : Addr
  fd_is_machine : FuncData
  F_is_machine : Fun K "is_machine" "is_machine" s_is_machine a_is_machine fd_is_machine
  b_is_machine : Binds K fd_is_machine ["machine"] []
  m_is_machine : mg "is_machine" = some (.ref a_is_machine)
  a_must_machine : Addr
  fd_must_machine : FuncData
  F_must_machine : Fun K "must_machine" "must_machine" s_must_machine a_must_machine fd_must_machine
  b_must_machine : Binds K fd_must_machine ["machine"] []
  m_must_machine : mg "must_machine" = some (.ref a_must_machine)
  a_Goer_init : Addr
  fd_Goer_init : FuncData
  F_Goer_init : Fun K "__init__" "Goer.__init__" s_Goer_init a_Goer_init fd_Goer_init
  b_Goer_init : Binds K fd_Goer_init ["self", "machine", "setup"] []
  a_told_strip : Addr
  fd_told_strip : FuncData
  F_told_strip : Fun K "told_strip" "told_strip" s_told_strip a_told_strip fd_told_strip
  b_told_strip : Binds K fd_told_strip ["signs"] []
  m_told_strip : mg "told_strip" = some (.ref a_told_strip)
  a_Goer_setup : Addr
  fd_Goer_setup : FuncData
  F_Goer_setup : Fun K "setup" "Goer.setup" s_Goer_setup a_Goer_setup fd_Goer_setup
  b_Goer_setup : Binds K fd_Goer_setup ["self"] []
  a_Goer_entry : Addr
  fd_Goer_entry : FuncData
  F_Goer_entry : Fun K "entry" "Goer.entry" s_Goer_entry a_Goer_entry fd_Goer_entry
  b_Goer_entry : Binds K fd_Goer_entry ["self"] []
  a_Goer_step : Addr
  fd_Goer_step : FuncData
  F_Goer_step : Fun K "step" "Goer.step" s_Goer_step a_Goer_step fd_Goer_step
  b_Goer_step : Binds K fd_Goer_step ["self"] []
  a_setups : Addr
  fd_setups : FuncData
  F_setups : Fun K "setups" "setups" s_setups a_setups fd_setups
  b_setups : Binds K fd_setups ["machine", "most"] []
  m_setups : mg "setups" = some (.ref a_setups)
  a_gone : Addr
  fd_gone : FuncData
  F_gone : Fun K "gone" "gone" s_gone a_gone fd_gone
  b_gone : Binds K fd_gone ["machine", "most"] []
  m_gone : mg "gone" = some (.ref a_gone)
  a_run : Addr
  fd_run : FuncData
  F_run : Fun K "run" "run" s_run a_run fd_run
  b_run : Binds K fd_run ["machine", "most"] []
  m_run : mg "run" = some (.ref a_run)
  a_touched : Addr
  fd_touched : FuncData
  F_touched : Fun K "touched" "touched" s_touched a_touched fd_touched
  b_touched : Binds K fd_touched ["machine", "most"] []
  m_touched : mg "touched" = some (.ref a_touched)
  a_L_mirrored : Addr
  fd_L_mirrored : FuncData
  F_L_mirrored : Fun K "_law_mirrored" "_law_mirrored" s_L_mirrored a_L_mirrored fd_L_mirrored
  b_L_mirrored : Binds K fd_L_mirrored ["_law_machine_here"] []
  m_L_mirrored : mg "_law_mirrored" = some (.ref a_L_mirrored)
  a_stepped : Addr
  fd_stepped : FuncData
  F_stepped : Fun K "stepped" "stepped" s_stepped a_stepped fd_stepped
  b_stepped : Binds K fd_stepped ["machine", "setup"] []
  m_stepped : mg "stepped" = some (.ref a_stepped)
  a_L_turned : Addr
  fd_L_turned : FuncData
  F_L_turned : Fun K "_law_turned" "_law_turned" s_L_turned a_L_turned fd_L_turned
  b_L_turned : Binds K fd_L_turned ["_law_setup"] []
  m_L_turned : mg "_law_turned" = some (.ref a_L_turned)
  a_law : Addr
  fd_law : FuncData
  F_law : Fun K "law" "law" s_law a_law fd_law
  b_law : Binds K fd_law ["_law_script"] []
  m_law : mg "law" = some (.ref a_law)
  C_NoMachine : Addr
  m_NoMachine : mg "NoMachine" = some (.ref C_NoMachine)
  C_Goer : Addr
  m_Goer : mg "Goer" = some (.ref C_Goer)
  cl_Goer : Cls K C_Goer
  M_Goer : Mk K C_Goer a_Goer_init
  M_Goer_entry : Meth K C_Goer "entry" a_Goer_entry
  M_Goer_step : Meth K C_Goer "step" a_Goer_step
  M_Goer_setup : Meth K C_Goer "setup" a_Goer_setup
  nA_Goer_table : NoAttr K C_Goer "table"
  nA_Goer_row : NoAttr K C_Goer "row"
  nA_Goer_spot : NoAttr K C_Goer "spot"
  nA_Goer_signs : NoAttr K C_Goer "signs"
  nA_Goer_steps : NoAttr K C_Goer "steps"
  tk_MOST_ROWS : Tok
  m_MOST_ROWS : mg "MOST_ROWS" = some (.int 4 tk_MOST_ROWS)
  tk_MOST_SIGNS : Tok
  m_MOST_SIGNS : mg "MOST_SIGNS" = some (.int 4 tk_MOST_SIGNS)
  n_range : mg "range" = none
  n_len : mg "len" = none
  n_abs : mg "abs" = none
  n_all : mg "all" = none
  n_dict : mg "dict" = none
  n_sorted : mg "sorted" = none
  n_min : mg "min" = none
  n_max : mg "max" = none
  n_tuple : mg "tuple" = none
  n_zip : mg "zip" = none
/-! ### the fields of a Goer -/
theorem ne_Goer_table_row : ¬ (("table" : Str) = "row") := by decide +kernel
theorem ne_Goer_table_spot : ¬ (("table" : Str) = "spot") := by decide +kernel
theorem ne_Goer_table_signs : ¬ (("table" : Str) = "signs") := by decide +kernel
theorem ne_Goer_table_steps : ¬ (("table" : Str) = "steps") := by decide +kernel
theorem ne_Goer_row_table : ¬ (("row" : Str) = "table") := by decide +kernel
theorem ne_Goer_row_spot : ¬ (("row" : Str) = "spot") := by decide +kernel
theorem ne_Goer_row_signs : ¬ (("row" : Str) = "signs") := by decide +kernel
theorem ne_Goer_row_steps : ¬ (("row" : Str) = "steps") := by decide +kernel
theorem ne_Goer_spot_table : ¬ (("spot" : Str) = "table") := by decide +kernel
theorem ne_Goer_spot_row : ¬ (("spot" : Str) = "row") := by decide +kernel
theorem ne_Goer_spot_signs : ¬ (("spot" : Str) = "signs") := by decide +kernel
theorem ne_Goer_spot_steps : ¬ (("spot" : Str) = "steps") := by decide +kernel
theorem ne_Goer_signs_table : ¬ (("signs" : Str) = "table") := by decide +kernel
theorem ne_Goer_signs_row : ¬ (("signs" : Str) = "row") := by decide +kernel
theorem ne_Goer_signs_spot : ¬ (("signs" : Str) = "spot") := by decide +kernel
theorem ne_Goer_signs_steps : ¬ (("signs" : Str) = "steps") := by decide +kernel
theorem ne_Goer_steps_table : ¬ (("steps" : Str) = "table") := by decide +kernel
theorem ne_Goer_steps_row : ¬ (("steps" : Str) = "row") := by decide +kernel
theorem ne_Goer_steps_spot : ¬ (("steps" : Str) = "spot") := by decide +kernel
theorem ne_Goer_steps_signs : ¬ (("steps" : Str) = "signs") := by decide +kernel
def Goer_F (v0 v1 v2 v3 v4 : V) : List (Str × V) := [("table", v0), ("row", v1), ("spot", v2), ("signs", v3), ("steps", v4)]
theorem Goer_mk0 (v0 : V) : putF "table" v0 ([] : List (Str × V)) = ([("table", v0)] : List (Str × V)) := by
  simp only [putF]
theorem Goer_mk1 (v0 v1 : V) : putF "row" v1 ([("table", v0)] : List (Str × V)) = ([("table", v0), ("row", v1)] : List (Str × V)) := by
  simp only [putF, if_neg ne_Goer_table_row]
theorem Goer_mk2 (v0 v1 v2 : V) : putF "spot" v2 ([("table", v0), ("row", v1)] : List (Str × V)) = ([("table", v0), ("row", v1), ("spot", v2)] : List (Str × V)) := by
  simp only [putF, if_neg ne_Goer_table_spot, if_neg ne_Goer_row_spot]
theorem Goer_mk3 (v0 v1 v2 v3 : V) : putF "signs" v3 ([("table", v0), ("row", v1), ("spot", v2)] : List (Str × V)) = ([("table", v0), ("row", v1), ("spot", v2), ("signs", v3)] : List (Str × V)) := by
  simp only [putF, if_neg ne_Goer_table_signs, if_neg ne_Goer_row_signs, if_neg ne_Goer_spot_signs]
theorem Goer_mk4 (v0 v1 v2 v3 v4 : V) : putF "steps" v4 ([("table", v0), ("row", v1), ("spot", v2), ("signs", v3)] : List (Str × V)) = ([("table", v0), ("row", v1), ("spot", v2), ("signs", v3), ("steps", v4)] : List (Str × V)) := by
  simp only [putF, if_neg ne_Goer_table_steps, if_neg ne_Goer_row_steps, if_neg ne_Goer_spot_steps, if_neg ne_Goer_signs_steps]
theorem Goer_get_table {v0 v1 v2 v3 v4 : V} : (Goer_F v0 v1 v2 v3 v4).lookup ("table" : Str) = some v0 := by
  have e : Goer_F v0 v1 v2 v3 v4 = putF "table" v0 (Goer_F v0 v1 v2 v3 v4) := by
    unfold Goer_F
    simp only [putF, if_true]
  rw [e, lookup_putF, if_pos rfl]
theorem Goer_put_table {v0 v1 v2 v3 v4 y : V} : putF "table" y (Goer_F v0 v1 v2 v3 v4) = Goer_F y v1 v2 v3 v4 := by
  unfold Goer_F
  simp only [putF, if_true]
theorem Goer_get_row {v0 v1 v2 v3 v4 : V} : (Goer_F v0 v1 v2 v3 v4).lookup ("row" : Str) = some v1 := by
  have e : Goer_F v0 v1 v2 v3 v4 = putF "row" v1 (Goer_F v0 v1 v2 v3 v4) := by
    unfold Goer_F
    simp only [putF, if_neg ne_Goer_table_row, if_true]
  rw [e, lookup_putF, if_pos rfl]
theorem Goer_put_row {v0 v1 v2 v3 v4 y : V} : putF "row" y (Goer_F v0 v1 v2 v3 v4) = Goer_F v0 y v2 v3 v4 := by
  unfold Goer_F
  simp only [putF, if_neg ne_Goer_table_row, if_true]
theorem Goer_get_spot {v0 v1 v2 v3 v4 : V} : (Goer_F v0 v1 v2 v3 v4).lookup ("spot" : Str) = some v2 := by
  have e : Goer_F v0 v1 v2 v3 v4 = putF "spot" v2 (Goer_F v0 v1 v2 v3 v4) := by
    unfold Goer_F
    simp only [putF, if_neg ne_Goer_table_spot, if_neg ne_Goer_row_spot, if_true]
  rw [e, lookup_putF, if_pos rfl]
theorem Goer_put_spot {v0 v1 v2 v3 v4 y : V} : putF "spot" y (Goer_F v0 v1 v2 v3 v4) = Goer_F v0 v1 y v3 v4 := by
  unfold Goer_F
  simp only [putF, if_neg ne_Goer_table_spot, if_neg ne_Goer_row_spot, if_true]
theorem Goer_get_signs {v0 v1 v2 v3 v4 : V} : (Goer_F v0 v1 v2 v3 v4).lookup ("signs" : Str) = some v3 := by
  have e : Goer_F v0 v1 v2 v3 v4 = putF "signs" v3 (Goer_F v0 v1 v2 v3 v4) := by
    unfold Goer_F
    simp only [putF, if_neg ne_Goer_table_signs, if_neg ne_Goer_row_signs, if_neg ne_Goer_spot_signs, if_true]
  rw [e, lookup_putF, if_pos rfl]
theorem Goer_put_signs {v0 v1 v2 v3 v4 y : V} : putF "signs" y (Goer_F v0 v1 v2 v3 v4) = Goer_F v0 v1 v2 y v4 := by
  unfold Goer_F
  simp only [putF, if_neg ne_Goer_table_signs, if_neg ne_Goer_row_signs, if_neg ne_Goer_spot_signs, if_true]
theorem Goer_get_steps {v0 v1 v2 v3 v4 : V} : (Goer_F v0 v1 v2 v3 v4).lookup ("steps" : Str) = some v4 := by
  have e : Goer_F v0 v1 v2 v3 v4 = putF "steps" v4 (Goer_F v0 v1 v2 v3 v4) := by
    unfold Goer_F
    simp only [putF, if_neg ne_Goer_table_steps, if_neg ne_Goer_row_steps, if_neg ne_Goer_spot_steps, if_neg ne_Goer_signs_steps, if_true]
  rw [e, lookup_putF, if_pos rfl]
theorem Goer_put_steps {v0 v1 v2 v3 v4 y : V} : putF "steps" y (Goer_F v0 v1 v2 v3 v4) = Goer_F v0 v1 v2 v3 y := by
  unfold Goer_F
  simp only [putF, if_neg ne_Goer_table_steps, if_neg ne_Goer_row_steps, if_neg ne_Goer_spot_steps, if_neg ne_Goer_signs_steps, if_true]
theorem Goer_no {v0 v1 v2 v3 v4 : V} {m : Str} (h0 : ¬ m = "table") (h1 : ¬ m = "row") (h2 : ¬ m = "spot") (h3 : ¬ m = "signs") (h4 : ¬ m = "steps") : (Goer_F v0 v1 v2 v3 v4).lookup m = none := by
  have h : ∀ (f : Str) (v : V) (r : List (Str × V)), ¬ m = f → r.lookup m = none → ((f, v) :: r).lookup m = none := fun f v r n q => by
    rw [List.lookup_cons, beq_eq_false_iff_ne.mpr n]; exact q
  unfold Goer_F
  exact h _ _ _ h0 (h _ _ _ h1 (h _ _ _ h2 (h _ _ _ h3 (h _ _ _ h4 rfl))))
theorem Goer_few {v0 v1 v2 v3 v4 : V} : (Goer_F v0 v1 v2 v3 v4).length < 1000 := by show 5 < 1000; decide
section
variable {P : Program} {w : World} {K : PySem.W.Frag} {mg : Str → Option Value} {base : Heap}
/-! ### draws -/
def sp_L_mixed : Sp := fun vs H Q _ => ∃ c k : Int, vs = [.int c, .int k] ∧ 0 ≤ k ∧ k < 1000 ∧ ∀ n : Int, 0 ≤ n → n < 2147483587 → Q (.int n) H
theorem ok_L_mixed (t : Tx K mg) : FnOk P w K mg base CX0 1 t.a_L_mixed t.fd_L_mixed ["_law_cell", "_law_k"] sp_L_mixed := by
  refine t.F_L_mixed.ok sc_L_mixed (fun vs H Q E h => ?_) (fun cdv A outer s H vs Q E hr h => ?_)
  · obtain ⟨c, k, rfl, _⟩ := h
    rfl
  · obtain ⟨c, k, rfl, k0, k1, q⟩ := h
    refine ⟨_, (pss_cons (ps_set (i := 2) sc_L_mixed.nd rfl (by first | exact Or.inl rfl | exact Or.inr rfl) (pe_op op_mod (pv 0) (pe_op op_pow pe_int pe_int)))
      (pss_cons (ps_set (i := 3) sc_L_mixed.nd rfl (by first | exact Or.inl rfl | exact Or.inr rfl) (pe_op op_mod (pe_op op_mul (pe_op op_add (pe_op op_add (pe_op op_add (pe_op op_mul (pv 2) (pv 2)) (pe_op op_mul pe_int (pv 2))) (pe_op op_mul pe_int (pv 1))) pe_int) pe_int) pe_int))
      (pss_one (ps_ret (pe_op op_mod (pe_op op_add (pe_op op_mul (pv 3) (pv 3)) pe_int) pe_int))))), ?_⟩
    have e15 : (10 : Int) ^ (15 : Int).toNat = 1000000000000000 := by decide
    refine ⟨_, rfl, _, _, rfl, rfl, ⟨by decide, by decide, by decide⟩, _, _, rfl, rfl, (by show (0 : Int) < 10 ^ (15 : Int).toNat; decide), ?_⟩
    rw [e15]
    have h0 : (0 : Int) ≤ c % 1000000000000000 := Int.emod_nonneg _ (by decide)
    have h1 : c % 1000000000000000 < 1000000000000000 := Int.emod_lt_of_pos _ (by decide)
    generalize c % 1000000000000000 = r at h0 h1
    refine ⟨_, rfl, _, rfl, _, _, rfl, rfl, .inl ⟨by omega, by omega⟩, _, rfl, _, _, rfl, rfl, .inl ⟨by decide, by decide⟩, _, _, rfl, rfl, _, rfl, _, _, rfl, rfl, .inl ⟨by decide, by decide⟩, _, _, rfl, rfl, _, _, rfl, rfl,
      _, _, rfl, rfl, .inr ⟨by decide, by decide⟩, _, _, rfl, rfl, (by show (0 : Int) < 2147483629; decide), ?_⟩
    have g0 := Int.emod_nonneg ((r * r + 3 * r + 7919 * k + 1) * 48271) (show (2147483629 : Int) ≠ 0 by decide)
    have g1 := Int.emod_lt_of_pos ((r * r + 3 * r + 7919 * k + 1) * 48271) (show (0 : Int) < 2147483629 by decide)
    generalize (r * r + 3 * r + 7919 * k + 1) * 48271 % 2147483629 = n at g0 g1
    refine ⟨_, rfl, _, rfl, _, _, rfl, rfl, .inl ⟨by omega, by omega⟩, _, _, rfl, rfl, _, _, rfl, rfl, (by show (0 : Int) < 2147483587; decide), ?_⟩
    exact q _ (Int.emod_nonneg _ (by decide)) (Int.emod_lt_of_pos _ (by decide))
/-- the purse: two numbers that aren't below 0 -/
def PurseO (a b : Int) : HO := .lst [.int a, .int b]
def sp_L_purse (K : PySem.W.Frag) : Sp := fun vs H Q _ => ∃ (l : Addr) (ns : List Int), vs = [.ref l] ∧ SqL K H l (ns.map V.int) ∧ ns.length ≤ 63 ∧
  ∀ (a b : Int) (p : Addr) (H' : Hp), 0 ≤ a → 0 ≤ b → Same H H' → H p = none → H' p = some (PurseO a b) → Q (.ref p) H'
theorem ok_L_purse (t : Tx K mg) : FnOk P w K mg base CX0 2 t.a_L_purse t.fd_L_purse ["_law_script"] (sp_L_purse K) := by
  refine t.F_L_purse.ok sc_L_purse (fun vs H Q E h => ?_) (fun cdv A outer s H vs Q E hr h => ?_)
  · obtain ⟨l, ns, rfl, _⟩ := h
    rfl
  · obtain ⟨l, ns, rfl, hS, hn, q⟩ := h
    refine ⟨_, (pss_cons (ps_set (i := 1) sc_L_purse.nd rfl (by first | exact Or.inl rfl | exact Or.inr rfl) (pe_op op_cat (pe_slice sl_list (pv 0) po_none (po_some pe_int)) (pe_lst (pa_cons pe_int pa_nil))))
      (pss_cons (ps_set (i := 2) sc_L_purse.nd rfl (by first | exact Or.inl rfl | exact Or.inr rfl) pe_int)
      (pss_cons (ps_for PassesOwn.never rfl (pi_range1 (by rfl) t.n_range (pa_cons pe_int pa_nil)) (pg_name (i := 3) sc_L_purse.nd rfl (by first | exact Or.inl rfl | exact Or.inr rfl)) (pss_one (ps_set (i := 2) sc_L_purse.nd rfl (by first | exact Or.inl rfl | exact Or.inr rfl) (pe_op op_add (pe_op op_mul (pv 2) pe_int) (pe_call (ok_L_mixed t) (hr.mono (by decide)) (by rfl) t.m_L_mixed t.F_L_mixed.kp t.b_L_mixed .nil pass0 (pa_cons (pe_ix ix_list (pv 1) (pe_op op_mod (pv 3) (pe_callB (id := "len") call_lenQ (by rfl) t.n_len (by decide +kernel) (pa_cons (pv 1) pa_nil))) (fun _ _ => rfl)) (pa_cons (pv 3) pa_nil)))))))
      (pss_cons (ps_if (pt_cmpR op_ge (pe_callB (id := "abs") call_abs (by rfl) t.n_abs (by decide +kernel) (pa_cons (pe_ix ix_list (pv 1) pe_int (fun _ _ => rfl)) pa_nil)) (pe_op op_pow pe_int pe_int) (nomark _)) (pss_one (ps_ret (pe_lst (pa_cons (pe_callB (id := "abs") call_abs (by rfl) t.n_abs (by decide +kernel) (pa_cons (pe_ix ix_list (pv 1) pe_int (fun _ _ => rfl)) pa_nil)) (pa_cons (pv 2) pa_nil))))) pss_nil)
      (pss_one (ps_ret (pe_lst (pa_cons (pv 2) (pa_cons (pv 2) pa_nil))))))))), ?_⟩
    refine ⟨_, rfl, _, rfl, l, _, rfl, hS, fun p np => ?_⟩
    rw [cut_63 hn]
    have e0 : ([V.int 0] : List V) = [(0 : Int)].map V.int := rfl
    refine ⟨by show 1 ≤ sizeLine; decide, fun p2 np2 => ⟨p, p2, _, _, rfl, rfl, (by rw [upd_ne (ne_of_none upd_same np2)]; exact upd_same), upd_same, (by show _ + 1 ≤ _; rw [List.length_map]; exact Nat.le_trans (Nat.add_le_add_right hn 1) (by decide)), fun p3 np3 => ?_⟩⟩
    rw [e0, ← List.map_append]
    have s3 : Same H (upd (upd (upd H p (.lst (ns.map V.int))) p2 (.lst ([(0 : Int)].map V.int))) p3 (.lst ((ns ++ [0]).map V.int))) := sm_new (sm_new (sm_new (Same.refl H) np) np2) np3
    have hl : 0 < (ns ++ [0]).length := by simp
    generalize ec : ns ++ [0] = cs at s3 hl
    have h3 : (upd (upd (upd H p (.lst (ns.map V.int))) p2 (.lst ([(0 : Int)].map V.int))) p3 (.lst (cs.map V.int))) p3 = some (.lst (cs.map V.int)) := upd_same
    generalize upd (upd (upd H p (.lst (ns.map V.int))) p2 (.lst ([(0 : Int)].map V.int))) p3 (.lst (cs.map V.int)) = H3 at s3 h3
    refine ⟨64, rfl, by decide, by decide, for_range (lo := 0) (n := 64) (fun i σ H2 => ∃ (n : Int) (v : Option V), σ = [some (.ref l), some (.ref p3), some (.int n), v] ∧ H2 = H3 ∧ 0 ≤ n) ⟨1, none, rfl, rfl, by decide⟩ ?_ ?_⟩
    · rintro i σ H2 hi ⟨n, v, rfl, rfl, hn0⟩
      refine ⟨_, rfl, _, _, rfl, rfl, .inr ⟨by decide, by decide⟩, ?_⟩
      have hm := Int.emod_nonneg (0 + (i : Int)) (show ((cs.map V.int).length : Int) ≠ 0 by rw [List.length_map]; omega)
      have hm1 := Int.emod_lt_of_pos (0 + (i : Int)) (show (0 : Int) < ((cs.map V.int).length : Int) by rw [List.length_map]; omega)
      have hj : (((0 + (i : Int)) % ((cs.map V.int).length : Int)).toNat : Int) = (0 + (i : Int)) % ((cs.map V.int).length : Int) := Int.toNat_of_nonneg hm
      have hj1 : ((0 + (i : Int)) % ((cs.map V.int).length : Int)).toNat < cs.length := by rw [List.length_map] at hm1 ⊢; omega
      refine ⟨_, rfl, _, rfl, _, rfl, p3, _, rfl, .inl (SqL.of h3), _, _, rfl, rfl, (by rw [List.length_map]; omega), p3, _, _, _, rfl, rfl, SqL.of h3, at_of hj.symm (by rw [List.getElem?_map, List.getElem?_eq_getElem hj1]; rfl), ?_⟩
      refine ⟨_, rfl, _, _, rfl, by omega, by omega, fun m m0 m1 => ⟨_, _, rfl, rfl, ?_⟩⟩
      exact ⟨_, _, rfl, rfl, by omega⟩
    · rintro σ H2 ⟨n, v, rfl, rfl, hn0⟩
      have h0 : (cs.map V.int)[0]? = some (.int (cs[0])) := by rw [List.getElem?_map, List.getElem?_eq_getElem hl]; rfl
      refine ⟨_, rfl, p3, _, _, _, rfl, rfl, SqL.of h3, atI_nat (j := 0) h0, _, rfl, _, _, rfl, rfl, ⟨by decide, by decide, by decide⟩, _, _, rfl, rfl, _, rfl, ?_⟩
      refine ite2 (fun c => ?_) (fun c => ?_)
      · refine ⟨_, rfl, p3, _, _, _, rfl, rfl, SqL.of h3, atI_nat (j := 0) h0, _, rfl, _, rfl, by show 2 ≤ sizeLine; decide, fun q0 nq => ?_⟩
        exact q _ _ q0 _ (by split <;> omega) hn0 (sm_new s3 nq) (s3.free nq) upd_same
      · refine ⟨_, rfl, _, rfl, by show 2 ≤ sizeLine; decide, fun q0 nq => ?_⟩
        exact q _ _ q0 _ hn0 hn0 (sm_new s3 nq) (s3.free nq) upd_same
def sp_L_draw : Sp := fun vs H Q _ => ∃ (p : Addr) (a b n : Int), vs = [.ref p, .int n] ∧ H p = some (PurseO a b) ∧ 0 ≤ a ∧ 0 ≤ b ∧ 0 < n ∧ n < 1267650600228229401496703205376 ∧
  ∀ d a' b' : Int, 0 ≤ d → d < n → 0 ≤ a' → 0 ≤ b' → Q (.int d) (upd H p (PurseO a' b'))
theorem ok_L_draw (t : Tx K mg) : FnOk P w K mg base CX0 1 t.a_L_draw t.fd_L_draw ["_law_purse_here", "_law_out_of"] sp_L_draw := by
  refine t.F_L_draw.ok sc_L_draw (fun vs H Q E h => ?_) (fun cdv A outer s H vs Q E hr h => ?_)
  · obtain ⟨p, a, b, n, rfl, _⟩ := h
    rfl
  · obtain ⟨p, a, b, n, rfl, hp, ha, hb, n0, n1, q⟩ := h
    refine ⟨_, (pss_cons (ps_if (pt_cmpR op_eq (pe_ix ix_list (pv 0) pe_int (fun _ _ => rfl)) pe_int (nomark _)) (pss_one (ps_asg (pe_ix ix_list (pv 0) pe_int (fun _ _ => rfl)) (pg_sub (pv 0) pe_int set_list))) pss_nil)
      (pss_cons (ps_set (i := 2) sc_L_draw.nd rfl (by first | exact Or.inl rfl | exact Or.inr rfl) (pe_op op_mod (pe_ix ix_list (pv 0) pe_int (fun _ _ => rfl)) (pv 1)))
      (pss_cons (ps_asg (pe_op op_fdivW (pe_ix ix_list (pv 0) pe_int (fun _ _ => rfl)) (pv 1)) (pg_sub (pv 0) pe_int set_list))
      (pss_one (ps_ret (pv 2)))))), ?_⟩
    refine ⟨_, rfl, p, _, _, _, rfl, rfl, SqL.of hp, atI_nat (j := 0) rfl, rfl, _, rfl, ?_⟩
    refine ite2 (fun c => ?_) (fun c => ?_)
    · refine ⟨_, rfl, p, _, _, _, rfl, rfl, SqL.of hp, atI_nat (j := 1) rfl, _, rfl, p, _, _, 0, rfl, rfl, hp, rfl, ?_⟩
      refine ⟨_, rfl, p, _, _, _, rfl, rfl, SqL.of upd_same, atI_nat (j := 0) rfl, _, rfl, _, _, rfl, rfl, n0, ?_⟩
      refine ⟨_, rfl, p, _, _, _, rfl, rfl, SqL.of upd_same, atI_nat (j := 0) rfl, _, rfl, _, _, rfl, rfl, wide_div n0 (b := 100) (by have e : (2 : Nat) ^ 100 = 1267650600228229401496703205376 := rfl; rw [e]; omega) (by decide) (by decide), _, rfl, p, _, _, 0, rfl, rfl, upd_same, rfl, _, rfl, ?_⟩
      rw [upd_upd]
      exact q _ _ _ (Int.emod_nonneg _ (by omega)) (Int.emod_lt_of_pos _ n0) (Int.ediv_nonneg hb (by omega)) hb
    · refine ⟨_, rfl, p, _, _, _, rfl, rfl, SqL.of hp, atI_nat (j := 0) rfl, _, rfl, _, _, rfl, rfl, n0, ?_⟩
      refine ⟨_, rfl, p, _, _, _, rfl, rfl, SqL.of hp, atI_nat (j := 0) rfl, _, rfl, _, _, rfl, rfl, wide_div n0 (b := 100) (by have e : (2 : Nat) ^ 100 = 1267650600228229401496703205376 := rfl; rw [e]; omega) (by decide) (by decide), _, rfl, p, _, _, 0, rfl, rfl, hp, rfl, _, rfl, ?_⟩
      exact q _ _ _ (Int.emod_nonneg _ (by omega)) (Int.emod_lt_of_pos _ n0) (Int.ediv_nonneg ha (by omega)) hb
/-! ### machines that are machines -/
structure EOk (R S : Nat) (e : Ent) : Prop where
  ok : ∀ p w r, e = .go p w r → (0 ≤ p ∧ p < S) ∧ (w = -1 ∨ w = 1) ∧ 0 ≤ r ∧ r < R
structure MOk (M : Mach) (R S : Nat) : Prop where
  r1 : 1 ≤ R
  r4 : R ≤ 4
  s2 : 2 ≤ S
  s4 : S ≤ 4
  len : M.length = R
  row : ∀ r ∈ M, r.length = S
  ent : ∀ r ∈ M, ∀ e ∈ r, EOk R S e
def sp_is_entry : Sp := fun vs H Q _ => ∃ (F : Hp) (v : V) (e : Ent) (R S : Nat), vs = [v, .int R, .int S] ∧ Same F H ∧ Is F v e ∧ EOk R S e ∧ ∀ H', Gr mu0 F H F H' → Q (.bl true) H'
theorem ok_is_entry (t : Tx K mg) : FnOk P w K mg base CX0 1 t.a_is_entry t.fd_is_entry ["entry", "rows", "signs"] sp_is_entry := by
  refine t.F_is_entry.ok sc_is_entry (fun vs H Q E h => ?_) (fun cdv A outer s H vs Q E hr h => ?_)
  · obtain ⟨F, v, e, R, S, rfl, _⟩ := h
    rfl
  · obtain ⟨F, v, e, R, S, rfl, sF, hv, he, q⟩ := h
    refine ⟨_, (pss_cons (ps_if (pt_cmpR (op_eqD hr.units) (pv 0) (pe_tup pa_nil) (nomark _)) (pss_one (ps_ret pe_bl)) pss_nil)
      (pss_one (ps_ret (pe_and (pe_cmpR op_eq (pe_callB (id := "len") call_lenQ (by rfl) t.n_len (by decide +kernel) (pa_cons (pv 0) pa_nil)) pe_int (nomark _)) (pe_and (pe_chain op_le op_lt pe_int (pe_ix ix_tup (pv 0) pe_int (fun _ _ => rfl)) (pv 2)) (pe_and (pe_cmpR op_in_seq (pe_ix ix_tup (pv 0) pe_int (fun _ _ => rfl)) (pe_lst (pa_cons (pe_un un_neg pe_int) (pa_cons pe_int pa_nil))) (by rfl)) (pe_one (pe_chain op_le op_lt pe_int (pe_ix ix_tup (pv 0) pe_int (fun _ _ => rfl)) (pv 1))))))))), ?_⟩
    have g0 : Gr mu0 F H F H := Gr.refl sF
    refine ⟨_, rfl, by show 0 ≤ sizeLine; decide, fun p np => ?_⟩
    have g1 : Gr mu0 F H F (upd H p (.tup [])) := g0.own np
    refine eq_dat (a := e) (b := Ent.emp) (hv.up g1.fh) ⟨p, rfl, upd_same⟩ ?_
    refine ⟨_, rfl, ?_⟩
    refine ite2 (fun c => ?_) (fun c => ?_)
    · exact q _ g1
    · cases e with
      | emp => exact absurd (decide_eq_true rfl) c
      | go pu wa ro =>
        obtain ⟨a, rfl, ha⟩ := hv
        obtain ⟨⟨o1, o2⟩, o3, o4, o5⟩ := he.ok _ _ _ rfl
        have h1 := g1.fh _ _ ha
        refine ⟨_, rfl, a, _, rfl, .inr (SqT.of h1), rfl, _, rfl, ifT rfl ?_⟩
        refine ⟨_, rfl, a, _, _, _, rfl, rfl, SqT.of h1, atI_nat (j := 0) rfl, _, _, rfl, rfl, _, rfl, ifT (decide_eq_true o1) ⟨_, rfl, _, _, rfl, rfl, _, rfl, ifT (decide_eq_true o2) ?_⟩⟩
        refine ⟨_, rfl, a, _, _, _, rfl, rfl, SqT.of h1, atI_nat (j := 1) rfl, _, rfl, two_le, fun l nl => ?_⟩
        have g2 := g1.own (o := .lst [.int (-1), .int 1]) nl
        have h2 := g2.fh _ _ ha
        refine ⟨l, _, rfl, .inl (SqL.of upd_same), rfl, rfl, _, rfl, ifT ?_ ?_⟩
        · rcases o3 with rfl | rfl <;> rfl
        · refine ⟨_, rfl, a, _, _, _, rfl, rfl, SqT.of h2, atI_nat (j := 2) rfl, _, _, rfl, rfl, _, rfl, ifT (decide_eq_true o4) ⟨_, rfl, _, _, rfl, rfl, ?_⟩⟩
          show Q (.bl (decide (ro < (R : Int)))) _
          rw [decide_eq_true o5]
          exact q _ g2
/-- all bools of a list of trues -/
theorem all_rep (n : Nat) : (List.replicate n true).all id = true := by simp
theorem map_rep (n : Nat) : (List.replicate n true).map V.bl = List.replicate n (V.bl true) := by simp
theorem rep_snoc (n : Nat) : List.replicate n (V.bl true) ++ [V.bl true] = List.replicate (n + 1) (V.bl true) := by
  rw [← List.replicate_succ']
def sp_is_machine : Sp := fun vs H Q _ => ∃ (F : Hp) (v : V) (M : Mach) (R S : Nat), vs = [v] ∧ Same F H ∧ Is F v M ∧ MOk M R S ∧ ∀ H', Gr mu0 F H F H' → Q (.bl true) H'
theorem ok_is_machine (t : Tx K mg) : FnOk P w K mg base CX0 2 t.a_is_machine t.fd_is_machine ["machine"] sp_is_machine := by
  refine t.F_is_machine.ok sc_is_machine (fun vs H Q E h => ?_) (fun cdv A outer s H vs Q E hr h => ?_)
  · obtain ⟨F, v, M, R, S, rfl, _⟩ := h
    rfl
  · obtain ⟨F, v, M, R, S, rfl, sF, hv, hM, q⟩ := h
    refine ⟨_, (pss_cons (ps_set (i := 1) sc_is_machine.nd rfl (by first | exact Or.inl rfl | exact Or.inr rfl) (pe_callB (id := "len") call_lenQ (by rfl) t.n_len (by decide +kernel) (pa_cons (pv 0) pa_nil)))
      (pss_cons (ps_if (pt_not (pt_chain op_le op_le pe_int (pv 1) (pe_glob (v := .int 4) (by rfl) t.m_MOST_ROWS ⟨_, rfl⟩))) (pss_one (ps_ret pe_bl)) pss_nil)
      (pss_cons (ps_set (i := 2) sc_is_machine.nd rfl (by first | exact Or.inl rfl | exact Or.inr rfl) (pe_callB (id := "len") call_lenQ (by rfl) t.n_len (by decide +kernel) (pa_cons (pe_ix ix_list (pv 0) pe_int (fun _ _ => rfl)) pa_nil)))
      (pss_cons (ps_if (PW.pt (pw_or (pt_not (pt_chain op_le op_le pe_int (pv 2) (pe_glob (v := .int 4) (by rfl) t.m_MOST_SIGNS ⟨_, rfl⟩))) (pw_or1 (pt_not (pt_val (pe_callB (id := "all") (cr_all rfl) (by rfl) t.n_all (by decide +kernel) (pa_cons (pe_lc (own := [("row", 3)]) (g := gName 3) (tt := tYes) rfl sc_is_machine.nd (pi_list (pv 0)) (blkOk_by (N := N_is_machine) (sc := defScope s_is_machine) (by decide +kernel)) (fun _ _ _ _ _ => (pg_name (i := 3) sc_is_machine.nd rfl (by first | exact Or.inl rfl | exact Or.inr rfl))) (fun _ _ _ _ _ => pts_nil) (fun _ _ _ _ _ => (pe_cmpR op_eq (pe_callB (id := "len") (crK (K := K) (r := rLenQ) rfl call_lenQ) (by rfl) t.n_len (by decide +kernel) (pa_cons (pv 3) pa_nil)) (pv 2) (nomark _)))) pa_nil))))))) (pss_one (ps_ret pe_bl)) pss_nil)
      (pss_one (ps_ret (pe_callB (id := "all") (cr_all rfl) (by rfl) t.n_all (by decide +kernel) (pa_cons (pe_lc (own := [("row", 3)]) (g := gName 3) (tt := tYes) rfl sc_is_machine.nd (pi_list (pv 0)) (blkOk_by (N := N_is_machine) (sc := defScope s_is_machine) (by decide +kernel)) (fun _ _ _ _ _ => (pg_name (i := 3) sc_is_machine.nd rfl (by first | exact Or.inl rfl | exact Or.inr rfl))) (fun _ _ _ _ _ => pts_nil) (fun _ _ _ _ _ => (pe_callB (id := "all") (crK (K := K) (r := rAll) rfl (cr_all rfl)) (by rfl) t.n_all (by decide +kernel) (pa_cons (pe_lc (own := [("entry", 4)]) (g := gName 4) (tt := tYes) rfl sc_is_machine.nd (pi_listK (K := K) rfl (pv 3)) (blkOk_by (N := N_is_machine) (sc := { kind := PySem.ScopeKind.function, names := [(PySem.Str.ofString ".0", PySem.NameKind.local), (PySem.Str.ofString "row", PySem.NameKind.local), (PySem.Str.ofString "all", PySem.NameKind.globalImplicit), (PySem.Str.ofString "rows", PySem.NameKind.cell), (PySem.Str.ofString "signs", PySem.NameKind.cell)], isGenerator := false, isCoroutine := false }) (by decide +kernel)) (fun _ _ _ _ _ => (pg_name (i := 4) sc_is_machine.nd rfl (by first | exact Or.inl rfl | exact Or.inr rfl))) (fun _ _ _ _ _ => pts_nil) (fun _ _ _ _ _ => (pe_call (ok_is_entry t) (hr.mono (by decide)) (by rfl) t.m_is_entry t.F_is_entry.kp t.b_is_entry .nil pass0 (pa_cons (pv 4) (pa_cons (pv 1) (pa_cons (pv 2) pa_nil)))))) pa_nil)))) pa_nil)))))))), ?_⟩
    have g0 : Gr mu0 F H F H := Gr.refl sF
    have r1 := hM.r1
    have r4 := hM.r4
    have s2 := hM.s2
    have s4 := hM.s4
    obtain ⟨a, rs, rfl, ha, hrs⟩ := hv
    have lrs : rs.length = R := hrs.1.trans hM.len
    have h0 := sF _ _ ha
    have l0 : 0 < rs.length := by omega
    have hx0 : rs[0]? = some rs[0] := List.getElem?_eq_getElem l0
    obtain ⟨row0, hM0, hr0⟩ := hrs.get' hx0
    obtain ⟨a0, es0, e0, ha0, hes0⟩ := hr0
    have ls0 : es0.length = S := hes0.1.trans (hM.row _ (List.mem_of_getElem? hM0))
    have hb0 := sF _ _ ha0
    -- rows = len(machine); signs = len(machine[0])
    refine ⟨_, rfl, a, rs, rfl, .inl (SqL.of h0), _, rfl, _, _, rfl, rfl, _, rfl, ifT (decide_eq_true (by omega)) ⟨_, _, rfl, rfl, _, rfl, ?_⟩⟩
    refine ifF (by rw [decide_eq_true (show (rs.length : Int) ≤ 4 by omega)]; rfl) ?_
    refine ⟨_, rfl, a, rs, _, _, rfl, rfl, SqL.of h0, atI_nat (j := 0) hx0, ?_⟩
    rw [e0]
    refine ⟨a0, es0, rfl, .inl (SqL.of hb0), _, rfl, _, _, rfl, rfl, _, rfl, ifT (decide_eq_true (by omega)) ⟨_, _, rfl, rfl, _, rfl, ?_⟩⟩
    refine ifF (by rw [decide_eq_true (show (es0.length : Int) ≤ 4 by omega)]; rfl) ?_
    -- all([len(row) == signs for row in machine])
    refine ⟨_, rfl, a, rfl, ⟨_, SqL.of h0⟩, fun D nD => lc_list (K := K) (a := a) (xs := rs) (fun i G => Gr mu0 F H F G ∧ G D = some (.lst (List.replicate i (V.bl true)))) ⟨g0.own nD, upd_same⟩ (fun i G _ p => SqL.of (p.1.fh _ _ ha)) ?_ ?_⟩
    · rintro i x G hi ⟨gG, hD⟩
      obtain ⟨row, hMi, b, es, rfl, hb, hes⟩ := hrs.get' hi
      have ls : es.length = S := hes.1.trans (hM.row _ (List.mem_of_getElem? hMi))
      have il : i < rs.length := (List.getElem?_eq_some_iff.mp hi).1
      refine ⟨rfl, ?_⟩
      refine yes ⟨_, rfl, b, es, rfl, .inl (SqL.of (gG.fh _ _ hb)), _, rfl, rfl, _, hD, by rw [List.length_replicate]; exact lt_size (by omega), ?_⟩
      have e : (V.bl (decide (V.int (es.length : Int) = V.int (es0.length : Int)))) = V.bl true := by rw [ls, ls0]; simp
      rw [e, rep_snoc]
      exact ⟨gG.set (ne_of_none' sF nD) (.inl nD), upd_same⟩
    · rintro G ⟨gG, hD⟩
      refine ⟨D, List.replicate rs.length true, rfl, SqL.of (by rw [map_rep]; exact hD), _, rfl, ifF (by rw [all_rep]; rfl) ?_⟩
      -- all([all([is_entry(entry, rows, signs) for entry in row]) for row in machine])
      refine ⟨_, rfl, a, rfl, ⟨_, SqL.of (gG.fh _ _ ha)⟩, fun D1 nD1 => lc_list (K := K) (a := a) (xs := rs) (fun i G1 => Gr mu0 F H F G1 ∧ H D1 = none ∧ G1 D1 = some (.lst (List.replicate i (V.bl true)))) ⟨gG.own nD1, gG.th _ nD1, upd_same⟩ (fun i G1 _ p => SqL.of (p.1.fh _ _ ha)) ?_ ?_⟩
      · rintro i x G1 hi ⟨gG1, nH, hD1⟩
        obtain ⟨row, hMi, b, es, rfl, hb, hes⟩ := hrs.get' hi
        have ls : es.length = S := hes.1.trans (hM.row _ (List.mem_of_getElem? hMi))
        have il : i < rs.length := (List.getElem?_eq_some_iff.mp hi).1
        refine ⟨rfl, yes ⟨_, rfl, b, rfl, ⟨_, SqL.of (gG1.fh _ _ hb)⟩, fun D2 nD2 => lc_list (K := K) (a := b) (xs := es) (fun j G2 => Gr mu0 F H F G2 ∧ H D2 = none ∧ D1 ≠ D2 ∧ G2 D1 = some (.lst (List.replicate i (V.bl true))) ∧ G2 D2 = some (.lst (List.replicate j (V.bl true))))
          ⟨gG1.own nD2, gG1.th _ nD2, ne_of_none hD1 nD2, by rw [upd_ne (ne_of_none hD1 nD2)]; exact hD1, upd_same⟩ (fun j G2 _ p => SqL.of (p.1.fh _ _ hb)) ?_ ?_⟩⟩
        · rintro j y G2 hj ⟨gG2, nH2, d12, h1, h2⟩
          obtain ⟨e, hej, hye⟩ := hes.get' hj
          have jl : j < es.length := (List.getElem?_eq_some_iff.mp hj).1
          refine ⟨rfl, yes ⟨_, rfl, _, rfl, _, rfl, F, y, e, R, S, ?_, gG2.fh, hye, hM.ent _ (List.mem_of_getElem? hMi) _ (List.mem_of_getElem? hej), fun G3 g3 => ?_⟩⟩
          · rw [lrs, ls0]
            rfl
          · have gH3 := gG2.trans g3
            refine ⟨_, g3.fr _ _ h2 (fun z => z), by rw [List.length_replicate]; exact lt_size (by omega), ?_⟩
            rw [rep_snoc]
            exact ⟨gH3.set (sF.free nH2) (.inl nH2), nH2, d12, by rw [upd_ne d12]; exact g3.fr _ _ h1 (fun z => z), upd_same⟩
        · rintro G2 ⟨gG2, nH2, d12, h1, h2⟩
          refine ⟨D2, List.replicate es.length true, rfl, SqL.of (by rw [map_rep]; exact h2), ?_⟩
          refine ⟨_, h1, by rw [List.length_replicate]; exact lt_size (by omega), ?_⟩
          rw [all_rep, rep_snoc]
          exact ⟨gG2.set (sF.free nH) (.inl nH), nH, upd_same⟩
      · rintro G1 ⟨gG1, nH, hD1⟩
        refine ⟨D1, List.replicate rs.length true, rfl, SqL.of (by rw [map_rep]; exact hD1), ?_⟩
        rw [all_rep]
        exact q _ gG1
def sp_must_machine : Sp := fun vs H Q _ => ∃ (F : Hp) (v : V) (M : Mach) (R S : Nat), vs = [v] ∧ Same F H ∧ Is F v M ∧ MOk M R S ∧ ∀ H', Gr mu0 F H F H' → Q .non H'
theorem ok_must_machine (t : Tx K mg) : FnOk P w K mg base CX0 3 t.a_must_machine t.fd_must_machine ["machine"] sp_must_machine := by
  refine t.F_must_machine.ok sc_must_machine (fun vs H Q E h => ?_) (fun cdv A outer s H vs Q E hr h => ?_)
  · obtain ⟨F, v, M, R, S, rfl, _⟩ := h
    rfl
  · obtain ⟨F, v, M, R, S, rfl, sF, hv, hM, q⟩ := h
    refine ⟨_, (pss_one (ps_if (pt_not (pt_val (pe_call (ok_is_machine t) (hr.mono (by decide)) (by rfl) t.m_is_machine t.F_is_machine.kp t.b_is_machine .nil pass0 (pa_cons (pv 0) pa_nil)))) (pss_one ps_never) pss_nil)), ?_⟩
    exact ⟨_, rfl, F, _, M, R, S, rfl, sF, hv, hM, fun H' g => ⟨_, rfl, ifF rfl (q _ g)⟩⟩
/-! ### a machine on its way -/
/-- a Goer stands at g, its dict at d -/
structure GoAt (C : Addr) (H : Hp) (g d : Addr) (tb : V) (r s : Int) (l : List PI) (n : Int) : Prop where
  ob : ∃ dx, H g = some (.ins C dx (Goer_F tb (.int r) (.int s) (.ref d) (.int n)))
  dc : H d = some (.dK (dI l))
theorem GoAt.ne {C : Addr} {H : Hp} {g d : Addr} {tb : V} {r s : Int} {l : List PI} {n : Int} (h : GoAt C H g d tb r s l n) : g ≠ d := by
  obtain ⟨dx, e⟩ := h.ob
  exact ne_of e h.dc (by intro z; cases z)
theorem GoAt.gr {mu : Addr → Prop} {C : Addr} {F H F' H' : Hp} {g d : Addr} {tb : V} {r s : Int} {l : List PI} {n : Int} (h : GoAt C H g d tb r s l n) (a : Gr mu F H F' H') (hg : ¬ mu g) (hd : ¬ mu d) : GoAt C H' g d tb r s l n := by
  obtain ⟨dx, e⟩ := h.ob
  exact ⟨⟨dx, a.fr _ _ e hg⟩, a.fr _ _ h.dc hd⟩
/-- places, and strips that are told, as a setup -/
abbrev Setup := T3 Int Int (List PI)
def sp_Goer_init (C : Addr) : Sp := fun vs H Q _ => ∃ (F : Hp) (g dx : Addr) (tb u : V) (x : Setup), vs = [.ref g, tb, u] ∧ H g = some (.ins C dx []) ∧ F g = none ∧ Same F H ∧ Is F u x ∧
  ∀ (d : Addr) (H' : Hp), H d = none → Gr (muP g) F H F H' → GoAt C H' g d tb x.a x.b (merge [] x.c) 0 → Q .non H'
theorem ok_Goer_init (t : Tx K mg) : FnOk P w K mg base CX0 1 t.a_Goer_init t.fd_Goer_init ["self", "machine", "setup"] (sp_Goer_init t.C_Goer) := by
  refine t.F_Goer_init.ok sc_Goer_init (fun vs H Q E h => ?_) (fun cdv A outer s H vs Q E hr h => ?_)
  · obtain ⟨F, g, dx, tb, u, x, rfl, _⟩ := h
    rfl
  · obtain ⟨F, g, dx, tb, u, x, rfl, hg, fg, sF, hu, q⟩ := h
    refine ⟨_, (pss_cons (ps_fld (pv 0) (pv 1) rfl)
      (pss_cons (ps_fld (pv 0) (pe_ix ix_tup (pv 2) pe_int (fun _ _ => rfl)) rfl)
      (pss_cons (ps_fld (pv 0) (pe_ix ix_tup (pv 2) pe_int (fun _ _ => rfl)) rfl)
      (pss_cons (ps_fld (pv 0) (pe_callTy (T := "dict") (call_dictQ rfl) (by rfl) t.n_dict (by decide +kernel) (pa_cons (pe_ix ix_tup (pv 2) pe_int (fun _ _ => rfl)) pa_nil)) rfl)
      (pss_one (ps_fld (pv 0) pe_int rfl)))))), ?_⟩
    obtain ⟨p, x1, x2, x3, rfl, hp, e1, e2, hl⟩ := hu
    have e1 : x1 = .int x.a := e1
    have e2 : x2 = .int x.b := e2
    subst e1
    subst e2
    obtain ⟨a, xs, rfl, ha, hxs⟩ := hl
    have g0 : Gr (muP g) F H F H := Gr.refl sF
    refine ⟨_, rfl, _, rfl, g, t.C_Goer, dx, [], rfl, hg, t.cl_Goer, t.nA_Goer_table, by show 0 < 1000; decide, ?_⟩
    have g1 := g0.set (o := .ins t.C_Goer dx [("table", tb)]) fg (.inr rfl)
    rw [Goer_mk0]
    refine ⟨_, rfl, p, _, _, _, rfl, rfl, SqT.of (g1.fh _ _ hp), atI_nat (j := 0) rfl, _, rfl, g, t.C_Goer, dx, _, rfl, upd_same, t.cl_Goer, t.nA_Goer_row, by show 1 < 1000; decide, ?_⟩
    have g2 := g1.set (o := .ins t.C_Goer dx [("table", tb), ("row", .int x.a)]) fg (.inr rfl)
    rw [Goer_mk1]
    refine ⟨_, rfl, p, _, _, _, rfl, rfl, SqT.of (g2.fh _ _ hp), atI_nat (j := 1) rfl, _, rfl, g, t.C_Goer, dx, _, rfl, upd_same, t.cl_Goer, t.nA_Goer_spot, by show 2 < 1000; decide, ?_⟩
    have g3 := g2.set (o := .ins t.C_Goer dx [("table", tb), ("row", .int x.a), ("spot", .int x.b)]) fg (.inr rfl)
    rw [Goer_mk2]
    refine ⟨_, rfl, p, _, _, _, rfl, rfl, SqT.of (g3.fh _ _ hp), atI_nat (j := 2) rfl, ?_⟩
    refine dict_pairs (hxs.up g3.fh) (SqL.of (g3.fh _ _ ha)) fun d nd => ?_
    have g4 := g3.own (o := .dK (dI (merge [] x.c))) nd
    have gd : g ≠ d := ne_of_none upd_same nd
    refine ⟨_, rfl, g, t.C_Goer, dx, _, rfl, (upd_ne gd).trans upd_same, t.cl_Goer, t.nA_Goer_signs, by show 3 < 1000; decide, ?_⟩
    have g5 := g4.set (o := .ins t.C_Goer dx [("table", tb), ("row", .int x.a), ("spot", .int x.b), ("signs", .ref d)]) fg (.inr rfl)
    rw [Goer_mk3]
    refine ⟨_, rfl, g, t.C_Goer, dx, _, rfl, upd_same, t.cl_Goer, t.nA_Goer_steps, by show 4 < 1000; decide, ?_⟩
    have g6 := g5.set (o := .ins t.C_Goer dx [("table", tb), ("row", .int x.a), ("spot", .int x.b), ("signs", .ref d), ("steps", .int 0)]) fg (.inr rfl)
    rw [Goer_mk4]
    exact q d _ (g3.th _ nd) g6 ⟨⟨dx, upd_same⟩, by rw [upd_ne gd.symm, upd_ne gd.symm, upd_same]⟩
def sp_Goer_entry (C : Addr) : Sp := fun vs H Q _ => ∃ (F : Hp) (g d : Addr) (tb : V) (M : Mach) (r s : Int) (l : List PI) (n : Int) (row : List Ent) (e : Ent), vs = [.ref g] ∧ Same F H ∧ Is F tb M ∧ GoAt C H g d tb r s l n ∧
  0 ≤ r ∧ M[r.toNat]? = some row ∧ 0 ≤ (look l s).getD 0 ∧ row[((look l s).getD 0).toNat]? = some e ∧ ∀ v, Is F v e → Q v H
theorem ok_Goer_entry (t : Tx K mg) : FnOk P w K mg base CX0 1 t.a_Goer_entry t.fd_Goer_entry ["self"] (sp_Goer_entry t.C_Goer) := by
  refine t.F_Goer_entry.ok sc_Goer_entry (fun vs H Q E h => ?_) (fun cdv A outer s H vs Q E hr h => ?_)
  · obtain ⟨F, g, d, tb, M, r, s, l, n, row, e, rfl, _⟩ := h
    rfl
  · obtain ⟨F, g, d, tb, M, r, s, l, n, row, e, rfl, sF, hM, hg, hr0, hrow, hs0, he, q⟩ := h
    refine ⟨_, (pss_one (ps_ret (pe_ix ix_list (pe_ix ix_list (pe_fld (pv 0) rfl) (pe_fld (pv 0) rfl) (fun _ _ => rfl)) (pe_dget2 (hu_of hr) (pe_fld (pv 0) rfl) (pe_fld (pv 0) rfl) pe_int ⟨by rfl, by rfl, by rfl, by rfl⟩) (fun _ _ => rfl)))), ?_⟩
    obtain ⟨⟨dx, ho⟩, hd⟩ := id hg
    obtain ⟨a, rs, rfl, ha, hrs⟩ := hM
    obtain ⟨x, hx, b, es, rfl, hb, hes⟩ := hrs.get hrow
    obtain ⟨y, hy, hye⟩ := hes.get he
    refine ⟨_, rfl, g, t.C_Goer, dx, _, _, rfl, ho, t.cl_Goer, t.nA_Goer_table, Goer_get_table, ?_⟩
    refine ⟨_, rfl, g, t.C_Goer, dx, _, _, rfl, ho, t.cl_Goer, t.nA_Goer_row, Goer_get_row, a, _, _, _, rfl, rfl, SqL.of (sF _ _ ha), at_of (Int.toNat_of_nonneg hr0).symm hx, ?_⟩
    refine ⟨_, rfl, g, t.C_Goer, dx, _, _, rfl, ho, t.cl_Goer, t.nA_Goer_signs, Goer_get_signs, d, rfl, .inl ⟨_, .inl hd⟩, _, rfl, g, t.C_Goer, dx, _, _, rfl, ho, t.cl_Goer, t.nA_Goer_spot, Goer_get_spot, _, DGet.k (k := Sum.inl s) hd, ?_⟩
    rw [dI_val]
    have e1 : ((look l s).map V.int).getD (.int 0) = .int ((look l s).getD 0) := by cases look l s <;> rfl
    rw [e1]
    exact ⟨b, _, _, _, rfl, rfl, SqL.of (sF _ _ hb), at_of (Int.toNat_of_nonneg hs0).symm hy, q _ hye⟩
/-- one step -/
def stepL (l : List PI) (s p : Int) : List PI := put l s p
def sp_Goer_step (C : Addr) : Sp := fun vs H Q _ => ∃ (F : Hp) (g d : Addr) (tb : V) (M : Mach) (r s : Int) (l : List PI) (n : Int) (row : List Ent) (e : Ent), vs = [.ref g] ∧ Same F H ∧ F g = none ∧ F d = none ∧ Is F tb M ∧ GoAt C H g d tb r s l n ∧
  0 ≤ r ∧ M[r.toNat]? = some row ∧ 0 ≤ (look l s).getD 0 ∧ row[((look l s).getD 0).toNat]? = some e ∧ l.length ≤ 100000 ∧
  (e = .emp → ∀ H', Gr mu0 F H F H' → Q (.bl false) H') ∧
  (∀ p w r', e = .go p w r' → ∀ H', Gr (fun c => c = g ∨ c = d) F H F H' → GoAt C H' g d tb r' (s + w) (put l s p) (n + 1) → Q (.bl true) H')
theorem ok_Goer_step (t : Tx K mg) : FnOk P w K mg base CX0 2 t.a_Goer_step t.fd_Goer_step ["self"] (sp_Goer_step t.C_Goer) := by
  refine t.F_Goer_step.ok sc_Goer_step (fun vs H Q E h => ?_) (fun cdv A outer s H vs Q E hr h => ?_)
  · obtain ⟨F, g, d, tb, M, r, s, l, n, row, e, rfl, _⟩ := h
    rfl
  · obtain ⟨F, g, d, tb, M, r, s, l, n, row, e, rfl, sF, fg, fd, hM, hg, hr0, hrow, hs0, he, hl, q1, q2⟩ := h
    refine ⟨_, (pss_cons (ps_set (i := 1) sc_Goer_step.nd rfl (by first | exact Or.inl rfl | exact Or.inr rfl) (pe_meth0 (pv 0) t.cl_Goer t.M_Goer_entry (ok_Goer_entry t) (hr.mono (by decide)) t.b_Goer_entry .nil pass0))
      (pss_cons (ps_if (pt_cmpR (op_eqD hr.units) (pv 1) (pe_tup pa_nil) (nomark _)) (pss_one (ps_ret pe_bl)) pss_nil)
      (pss_cons (ps_dput (hu_of hr) (pe_fld (pv 0) rfl) (pe_fld (pv 0) rfl) (pe_ix ix_tup (pv 1) pe_int (fun _ _ => rfl)) rfl)
      (pss_cons (ps_fldaug (pv 0) (pe_ix ix_tup (pv 1) pe_int (fun _ _ => rfl)) in_add)
      (pss_cons (ps_fld (pv 0) (pe_ix ix_tup (pv 1) pe_int (fun _ _ => rfl)) rfl)
      (pss_cons (ps_fldaug (pv 0) pe_int in_add)
      (pss_one (ps_ret pe_bl)))))))), ?_⟩
    obtain ⟨⟨dx, ho⟩, hd⟩ := id hg
    have gd := hg.ne
    have g0 : Gr (fun c => c = g ∨ c = d) F H F H := Gr.refl sF
    have g00 : Gr mu0 F H F H := Gr.refl sF
    refine ⟨_, rfl, g, dx, _, rfl, ho, Goer_no (by decide +kernel) (by decide +kernel) (by decide +kernel) (by decide +kernel) (by decide +kernel), F, g, d, tb, M, r, s, l, n, row, e, rfl, sF, hM, hg, hr0, hrow, hs0, he, fun v hv => ?_⟩
    refine ⟨_, rfl, nil_le, fun p np => ?_⟩
    refine eq_dat (a := e) (b := Ent.emp) (hv.up (g0.own np).fh) ⟨p, rfl, upd_same⟩ ?_
    refine ⟨_, rfl, ?_⟩
    refine ite2 (fun c => ?_) (fun c => ?_)
    · exact q1 (of_decide_eq_true c) _ (g00.own np)
    · cases e with
      | emp => exact absurd (decide_eq_true rfl) c
      | go pu wa ro =>
        obtain ⟨a, rfl, ha⟩ := hv
        have g1 := g0.own (o := .tup []) np
        have gp : g ≠ p := ne_of_none ho np
        have dp : d ≠ p := ne_of_none hd np
        have ho1 := (upd_ne (H := H) (o := .tup []) gp).trans ho
        have hd1 := (upd_ne (H := H) (o := .tup []) dp).trans hd
        -- self.signs[self.spot] = entry[0]
        refine ⟨_, rfl, a, _, _, _, rfl, rfl, SqT.of (g1.fh _ _ ha), atI_nat (j := 0) rfl, _, rfl, g, t.C_Goer, dx, _, _, rfl, ho1, t.cl_Goer, t.nA_Goer_signs, Goer_get_signs, _, rfl, g, t.C_Goer, dx, _, _, rfl, ho1, t.cl_Goer, t.nA_Goer_spot, Goer_get_spot, d, _, rfl, DPut.k (k := Sum.inl s) hd1 (by show (dI l).length < _; unfold dI; rw [List.length_map]; exact lt_size (by omega)), ?_⟩
        rw [dI_put]
        have g2 := g1.set (o := .dK (dI (put l s pu))) fd (.inr (.inr rfl))
        have ho2 := (upd_ne (H := upd H p (.tup [])) (o := .dK (dI (put l s pu))) gd).trans ho1
        -- self.spot += entry[1]
        refine ⟨_, rfl, g, t.C_Goer, dx, _, _, rfl, ho2, t.cl_Goer, t.nA_Goer_spot, Goer_get_spot, _, rfl, a, _, _, _, rfl, rfl, SqT.of (g2.fh _ _ ha), atI_nat (j := 1) rfl, _, _, rfl, rfl, _, _, ho2, Goer_few, ?_⟩
        rw [Goer_put_spot]
        have g3 := g2.set (o := .ins t.C_Goer dx (Goer_F tb (.int r) (.int (s + wa)) (.ref d) (.int n))) fg (.inr (.inl rfl))
        -- self.row = entry[2]
        refine ⟨_, rfl, a, _, _, _, rfl, rfl, SqT.of (g3.fh _ _ ha), atI_nat (j := 2) rfl, _, rfl, g, t.C_Goer, dx, _, rfl, upd_same, t.cl_Goer, t.nA_Goer_row, Goer_few, ?_⟩
        rw [Goer_put_row]
        have g4 := g3.set (o := .ins t.C_Goer dx (Goer_F tb (.int ro) (.int (s + wa)) (.ref d) (.int n))) fg (.inr (.inl rfl))
        -- self.steps += 1
        refine ⟨_, rfl, g, t.C_Goer, dx, _, _, rfl, upd_same, t.cl_Goer, t.nA_Goer_steps, Goer_get_steps, _, _, rfl, rfl, _, _, upd_same, Goer_few, ?_⟩
        rw [Goer_put_steps]
        have g5 := g4.set (o := .ins t.C_Goer dx (Goer_F tb (.int ro) (.int (s + wa)) (.ref d) (.int (n + 1)))) fg (.inr (.inl rfl))
        refine q2 _ _ _ rfl _ g5 ⟨⟨dx, upd_same⟩, ?_⟩
        rw [upd_ne gd.symm, upd_ne gd.symm, upd_ne gd.symm, upd_same]
def sp_told_strip : Sp := fun vs H Q _ => ∃ (F : Hp) (d : Addr) (l : List PI), vs = [.ref d] ∧ Same F H ∧ H d = some (.dK (dI l)) ∧ l.length ≤ 100000 ∧
  ∀ (F' H' : Hp) (p : Addr) (xs : List V), Gr mu0 F H F' H' → Ow H F' H' p (.lst xs) → IsAll F' xs (told l) → Q (.ref p) H'
theorem ok_told_strip (t : Tx K mg) : FnOk P w K mg base CX0 1 t.a_told_strip t.fd_told_strip ["signs"] sp_told_strip := by
  refine t.F_told_strip.ok sc_told_strip (fun vs H Q E h => ?_) (fun cdv A outer s H vs Q E hr h => ?_)
  · obtain ⟨F, d, l, rfl, _⟩ := h
    rfl
  · obtain ⟨F, d, l, rfl, sF, hd, hl, q⟩ := h
    refine ⟨_, (pss_one (ps_ret (pe_callB (id := "sorted") call_sortQ (by rfl) t.n_sorted (by decide +kernel) (pa_cons (pe_lock (pe_lc (own := [("place", 1), ("sign", 2)]) rfl sc_told_strip.nd (pi_items (pv 0)) (blkOk_by (N := N_told_strip) (sc := defScope s_told_strip) (by decide +kernel)) (fun _ _ _ _ _ => (pg_tupK (K := K) (n := 2) rfl rfl (pgs_cons (pg_name (i := 1) sc_told_strip.nd rfl (by first | exact Or.inl rfl | exact Or.inr rfl)) (pgs_cons (pg_name (i := 2) sc_told_strip.nd rfl (by first | exact Or.inl rfl | exact Or.inr rfl)) pgs_nil)))) (fun _ _ _ _ _ => (pts_one (pt_cmpR op_ne (pv 2) pe_int (nomark _)))) (fun _ _ _ _ _ => (pe_tup (pa_cons (pv 1) (pa_cons (pv 2) pa_nil)))))) pa_nil)))), ?_⟩
    refine ⟨d, _, hd, trivial, fun od => ?_⟩
    have sL := lock_in (d := d) (o := .frz od (.dK (dI l))) sF
    have g0 : Gr mu0 _ (upd H d (.frz od (.dK (dI l)))) _ (upd H d (.frz od (.dK (dI l)))) := Gr.refl sL
    have dl : (dI l).length = l.length := by unfold dI; rw [List.length_map]
    generalize eH1 : upd H d (.frz od (.dK (dI l))) = H1 at g0
    generalize eF1 : (fun c => if c = d then none else F c) = F1 at g0
    have hd1 : H1 d = some (.frz od (.dK (dI l))) := by rw [← eH1]; exact upd_same
    refine ⟨_, rfl, d, od, dI l, rfl, hd1, fun D nD => lc_it walk_items (fun i G => ∃ F2 xs, Gr mu0 F1 H1 F2 G ∧ Ow H1 F2 G D (.lst xs) ∧ IsAll F2 xs ((l.take i).filter nz)) ⟨F1, [], g0.own nD, Ow.mk1 g0 nD, All2.nil⟩ (fun i G _ ⟨F2, xs, g, _⟩ => g.fr _ _ hd1 (fun z => z)) ?_ ?_⟩
    · rintro i x G G' hi ⟨F2, xs, g, w, al⟩ ⟨T, x1, x2, rfl, nT, rfl, e1, e2⟩
      rw [dl] at hi
      have e1 : (dI l)[i]?.map (fun kv => kV kv.1) = some x1 := e1
      have e2 : (dI l)[i]?.map Prod.snd = some x2 := e2
      rw [dI_get hi] at e1 e2
      cases e1
      cases e2
      have g1 := g.new (o := .tup [.int l[i].a, .int l[i].b]) nT
      have w1 := w.new (u := .tup [.int l[i].a, .int l[i].b]) nT
      refine ⟨T, _, rfl, SqT.of upd_same, rfl, _, _, rfl, _, _, rfl, rfl, rfl, _, rfl, rfl, _, rfl, ?_⟩
      rw [filter_take_succ hi]
      refine ite2 (fun c => ?_) (fun c => ?_)
      · have c' : nz l[i] = true := by
          refine decide_eq_true fun z => ?_
          have c : (!decide (V.int l[i].b = V.int 0)) = true := c
          rw [z, decide_eq_true rfl] at c
          cases c
        rw [if_pos c']
        refine ⟨_, rfl, _, rfl, two_le, fun T2 nT2 => ⟨xs, (w1.new nT2).h, ?_, ?_⟩⟩
        · rw [al.1]
          exact lt_size (Nat.le_trans (List.length_filter_le _ _) (by rw [List.length_take]; omega))
        · have g2 := g1.new (o := .tup [.int l[i].a, .int l[i].b]) nT2
          have w2 := w1.new (u := .tup [.int l[i].a, .int l[i].b]) nT2
          refine ⟨_, _, g2.set w2.f (.inl w2.n), w2.set, (al.up (fun c o h => ?_)).app (All2.one ⟨T2, _, _, rfl, upd_same, rfl, rfl⟩)⟩
          rw [upd_ne (ne_of_none (g1.fh _ _ ((Gr.refl (mu := mu0) g.fh).new nT |>.ff c o h)) nT2)]
          exact (Gr.refl (mu := mu0) g.fh).new nT |>.ff c o h
      · have c' : ¬ nz l[i] = true := fun z => by
          refine c ?_
          have z := of_decide_eq_true z
          show (!decide (V.int l[i].b = V.int 0)) = true
          rw [decide_eq_false (fun e => z (V.int.inj e))]; rfl
        rw [if_neg c', List.append_nil]
        exact ⟨_, xs, g1, w1, al.up ((Gr.refl (mu := mu0) g.fh).new nT).ff⟩
    · rintro G ⟨F2, xs, g, w, al⟩
      rw [dl, List.take_length] at al
      subst eH1
      subst eF1
      obtain ⟨h1, h2, h3⟩ := lock_out sF hd g
      refine ⟨h1, ?_⟩
      have hDd : D ≠ d := by
        rintro rfl
        rw [w.h] at h1; cases h1
      refine sort_pairs (K := K) (l := l.filter nz) (xs := xs) h3.fh (al.up h2) (SqL.of (by rw [upd_ne hDd]; exact w.h)) fun ys p np hys => ?_
      exact q _ _ p ys (h3.own np) (Ow.mk1 h3 np) hys
def sp_Goer_setup (C : Addr) : Sp := fun vs H Q _ => ∃ (F : Hp) (g d : Addr) (tb : V) (r s : Int) (l : List PI) (n : Int), vs = [.ref g] ∧ Same F H ∧ GoAt C H g d tb r s l n ∧ l.length ≤ 100000 ∧
  ∀ (F' H' : Hp) (p u : Addr) (xs : List V), Gr mu0 F H F' H' → Ow H F' H' p (.lst xs) → IsAll F' xs (told l) → Ow H F' H' u (.tup [.int r, .int s, .ref p]) → Q (.ref u) H'
theorem ok_Goer_setup (t : Tx K mg) : FnOk P w K mg base CX0 2 t.a_Goer_setup t.fd_Goer_setup ["self"] (sp_Goer_setup t.C_Goer) := by
  refine t.F_Goer_setup.ok sc_Goer_setup (fun vs H Q E h => ?_) (fun cdv A outer s H vs Q E hr h => ?_)
  · obtain ⟨F, g, d, tb, r, s, l, n, rfl, _⟩ := h
    rfl
  · obtain ⟨F, g, d, tb, r, s, l, n, rfl, sF, hg, hl, q⟩ := h
    refine ⟨_, (pss_one (ps_ret (pe_tup (pa_cons (pe_fld (pv 0) rfl) (pa_cons (pe_fld (pv 0) rfl) (pa_cons (pe_call (ok_told_strip t) (hr.mono (by decide)) (by rfl) t.m_told_strip t.F_told_strip.kp t.b_told_strip .nil pass0 (pa_cons (pe_fld (pv 0) rfl) pa_nil)) pa_nil)))))), ?_⟩
    obtain ⟨⟨dx, ho⟩, hd⟩ := id hg
    refine ⟨_, rfl, g, t.C_Goer, dx, _, _, rfl, ho, t.cl_Goer, t.nA_Goer_row, Goer_get_row, _, rfl, g, t.C_Goer, dx, _, _, rfl, ho, t.cl_Goer, t.nA_Goer_spot, Goer_get_spot, _, rfl, g, t.C_Goer, dx, _, _, rfl, ho, t.cl_Goer, t.nA_Goer_signs, Goer_get_signs, ?_⟩
    refine ⟨F, d, l, rfl, sF, hd, hl, fun F' H' p xs gr w al => ⟨three_le, fun u nu => ?_⟩⟩
    exact q F' _ p u xs (gr.own nu) (w.own nu) al (Ow.mk1 gr nu)
def sp_stepped : Sp := fun vs H Q _ => ∃ (F : Hp) (m u : V) (M : Mach) (R S : Nat) (x : Setup) (row : List Ent) (e : Ent), vs = [m, u] ∧ Same F H ∧ Is F m M ∧ MOk M R S ∧ Is F u x ∧ Nd x.c ∧ x.c.length ≤ 1000 ∧
  0 ≤ x.a ∧ M[x.a.toNat]? = some row ∧ 0 ≤ (look x.c x.b).getD 0 ∧ row[((look x.c x.b).getD 0).toNat]? = some e ∧
  (e = .emp → ∀ H', Gr mu0 F H F H' → Q .non H') ∧
  (∀ p w r', e = .go p w r' → ∀ (F' H' : Hp) (l v : Addr) (xs : List V), Gr mu0 F H F' H' → Ow H F' H' l (.lst xs) → IsAll F' xs (told (put x.c x.b p)) → Ow H F' H' v (.tup [.int r', .int (x.b + w), .ref l]) → Q (.ref v) H')
theorem ok_stepped (t : Tx K mg) : FnOk P w K mg base CX0 4 t.a_stepped t.fd_stepped ["machine", "setup"] sp_stepped := by
  refine t.F_stepped.ok sc_stepped (fun vs H Q E h => ?_) (fun cdv A outer s H vs Q E hr h => ?_)
  · obtain ⟨F, m, u, M, R, S, x, row, e, rfl, _⟩ := h
    rfl
  · obtain ⟨F, m, u, M, R, S, x, row, e, rfl, sF, hm, hM, hu, nd, hl, hr0, hrow, hs0, he, q1, q2⟩ := h
    refine ⟨_, (pss_cons (ps_expr (pe_call (ok_must_machine t) (hr.mono (by decide)) (by rfl) t.m_must_machine t.F_must_machine.kp t.b_must_machine .nil pass0 (pa_cons (pv 0) pa_nil)))
      (pss_cons (ps_set (i := 2) sc_stepped.nd rfl (by first | exact Or.inl rfl | exact Or.inr rfl) (pe_make t.M_Goer (ok_Goer_init t) (hr.mono (by decide)) (by rfl) t.m_Goer t.b_Goer_init .nil pass0 (pa_cons (pv 0) (pa_cons (pv 1) pa_nil))))
      (pss_cons (ps_if (pt_val (pe_meth0 (pv 2) t.cl_Goer t.M_Goer_step (ok_Goer_step t) (hr.mono (by decide)) t.b_Goer_step .nil pass0)) (pss_one (ps_ret (pe_meth0 (pv 2) t.cl_Goer t.M_Goer_setup (ok_Goer_setup t) (hr.mono (by decide)) t.b_Goer_setup .nil pass0))) pss_nil)
      (pss_one (ps_ret pe_non))))), ?_⟩
    refine ⟨_, rfl, F, m, M, R, S, rfl, sF, hm, hM, fun H1 g1 => ?_⟩
    refine ⟨_, rfl, _, rfl, fun y dy ny ndy ney => ?_⟩
    have g2 := (g1.own (o := .own y) ndy)
    have ny2 : (upd H1 dy (.own y)) y = none := by rw [upd_ne ney.symm]; exact ny
    have g3 := g2.own (o := .ins t.C_Goer dy []) ny2
    have n1 : H y = none := g1.th _ ny
    have f3 : F y = none := sF.free n1
    refine ⟨F, y, dy, m, u, x, rfl, upd_same, f3, g3.fh, hu, fun d H4 nd4 g4 ga => ⟨rfl, ?_⟩⟩
    have e0 : merge [] x.c = x.c := merge_nd nd
    rw [e0] at ga
    have g5 := g3.thn g4 fun c z => .inr (by rw [show c = y from z]; exact n1)
    have nd0 : H d = none := g3.th _ nd4
    have fd : F d = none := sF.free nd0
    obtain ⟨⟨dx, ho⟩, hd⟩ := id ga
    refine ⟨_, rfl, y, dx, _, rfl, ho, Goer_no (by decide +kernel) (by decide +kernel) (by decide +kernel) (by decide +kernel) (by decide +kernel), F, y, d, m, M, x.a, x.b, x.c, 0, row, e, rfl, g5.fh, f3, fd, hm, ga, hr0, hrow, hs0, he, by omega, fun ee H6 g6 => ⟨_, rfl, iteF ?_⟩, fun p w r' ee H6 g6 gb => ⟨_, rfl, iteT ?_⟩⟩
    · exact q1 ee _ (g5.trans g6)
    · have g7 := g5.thn g6 fun c z => .inr (by rcases z with rfl | rfl <;> assumption)
      obtain ⟨⟨dx6, ho6⟩, _⟩ := id gb
      refine ⟨_, rfl, y, dx6, _, rfl, ho6, Goer_no (by decide +kernel) (by decide +kernel) (by decide +kernel) (by decide +kernel) (by decide +kernel), F, y, d, m, r', x.b + w, put x.c x.b p, 0 + 1, rfl, g7.fh, gb, by have := put_len x.c x.b p; omega, fun F' H' l v xs g8 w1 al w2 => ?_⟩
      exact q2 p w r' ee F' H' l v xs (g7.trans g8) ⟨g7.th _ w1.n, w1.f, w1.h⟩ al ⟨g7.th _ w2.n, w2.f, w2.h⟩
/-! ### machines drawn: lists that may be changed yet -/
structure MaO (H F1 H1 : Hp) (m : Addr) (rs : List Addr) (ess : List (List V)) (M : Mach) : Prop where
  ow : Ow H F1 H1 m (.lst (rs.map V.ref))
  nd : rs.Nodup
  ne : m ∉ rs
  len : rs.length = ess.length
  rows : ∀ (i : Nat) r es, rs[i]? = some r → ess[i]? = some es → Ow H F1 H1 r (.lst es)
  dat : All2 (fun es row => IsAll F1 es row) ess M
section
variable {mu mu' : Addr → Prop} {H F F1 H1 F2 H2 : Hp} {m : Addr} {rs : List Addr} {ess : List (List V)} {M : Mach}
theorem MaO.row (x : MaO H F1 H1 m rs ess M) {r : Addr} (h : r ∈ rs) : ∃ es, Ow H F1 H1 r (.lst es) := by
  obtain ⟨i, hi⟩ := List.getElem?_of_mem h
  have l := (List.getElem?_eq_some_iff.mp hi).1
  exact ⟨ess[i]'(by rw [← x.len]; exact l), x.rows i r _ hi (List.getElem?_eq_getElem _)⟩
theorem MaO.gr (x : MaO H F1 H1 m rs ess M) (g : Gr mu F1 H1 F2 H2) (k : ∀ c, mu c → c ≠ m ∧ c ∉ rs) : MaO H F2 H2 m rs ess M where
  ow := x.ow.call g fun z => (k m z).1 rfl
  nd := x.nd
  ne := x.ne
  len := x.len
  rows := fun i r es h1 h2 => (x.rows i r es h1 h2).call g fun z => (k r z).2 (List.mem_of_getElem? h1)
  dat := x.dat.imp fun es row z => z.up g.ff
theorem MaO.off (x : MaO H F1 H1 m rs ess M) {p : Addr} {o : HO} (h : H p = some o) : ∀ c, muP p c → c ≠ m ∧ c ∉ rs := fun c e => by
  rw [show c = p from e]
  refine ⟨fun z => ?_, fun z => ?_⟩
  · rw [z, x.ow.n] at h; cases h
  · obtain ⟨es, w⟩ := x.row z
    rw [w.n] at h; cases h
theorem MaO.offn (x : MaO H F1 H1 m rs ess M) {p : Addr} (h : H1 p = none) : p ≠ m ∧ p ∉ rs := by
  refine ⟨fun z => ?_, fun z => ?_⟩
  · rw [z, x.ow.h] at h; cases h
  · obtain ⟨es, w⟩ := x.row z
    rw [w.h] at h; cases h
/-- a row that is done comes in -/
theorem MaO.add (x : MaO H F1 H1 m rs ess M) {r : Addr} {es : List V} {row : List Ent} (w : Ow H F1 H1 r (.lst es)) (k : r ≠ m ∧ r ∉ rs) (d : IsAll F1 es row) : MaO H F1 (upd H1 m (.lst ((rs ++ [r]).map V.ref))) m (rs ++ [r]) (ess ++ [es]) (M ++ [row]) where
  ow := x.ow.set
  nd := nd_snoc x.nd k.2
  ne := fun z => by
    rcases List.mem_append.mp z with z | z
    · exact x.ne z
    · exact k.1 (List.mem_singleton.mp z).symm
  len := by rw [List.length_append, List.length_append, x.len]; rfl
  rows := fun i r' es' h1 h2 => by
    by_cases l : i < rs.length
    · rw [List.getElem?_append_left l] at h1
      rw [List.getElem?_append_left (by rw [← x.len]; exact l)] at h2
      exact (x.rows i r' es' h1 h2).other fun z => x.ne (by rw [← z]; exact List.mem_of_getElem? h1)
    · rw [List.getElem?_append_right (by omega)] at h1
      rw [List.getElem?_append_right (by rw [← x.len]; omega), ← x.len] at h2
      cases e : i - rs.length with
      | zero =>
        rw [e] at h1 h2
        cases h1; cases h2
        exact w.other k.1
      | succ n => rw [e] at h1; cases h1
  dat := x.dat.app (All2.one d)
/-- an entry of it is changed -/
theorem MaO.put (x : MaO H F1 H1 m rs ess M) {i j : Nat} {r : Addr} {es : List V} {row : List Ent} {v : V} {e : Ent} (hr : rs[i]? = some r) (hes : ess[i]? = some es) (hrow : M[i]? = some row) (hv : Is F1 v e) :
    MaO H F1 (upd H1 r (.lst (es.set j v))) m rs (ess.set i (es.set j v)) (M.set i (row.set j e)) where
  ow := x.ow.other fun z => x.ne (by rw [z]; exact List.mem_of_getElem? hr)
  nd := x.nd
  ne := x.ne
  len := by rw [List.length_set]; exact x.len
  rows := fun i' r' es' h1 h2 => by
    by_cases e : i = i'
    · subst e
      rw [hr] at h1
      cases h1
      rw [List.getElem?_set_self (List.getElem?_eq_some_iff.mp hes).1] at h2
      cases h2
      exact (x.rows i r es hr hes).set
    · rw [List.getElem?_set_ne e] at h2
      exact (x.rows i' r' es' h1 h2).other fun z => e (nd_ix x.nd hr (by rw [← z]; exact h1))
  dat := x.dat.set ((x.dat.2 i es row hes hrow).set hv j) i
/-- it is changed no more -/
theorem MaO.frz (x : MaO H F1 H1 m rs ess M) (g : Gr mu F H F1 H1) : ∃ F2, Gr mu F H F2 H1 ∧ Same F1 F2 ∧ Is F2 (.ref m) M ∧ (∀ c, c ≠ m → c ∉ rs → F2 c = F1 c) ∧ ∀ c, c = m ∨ c ∈ rs → F2 c = H1 c := by
  have own : ∀ c, (c = m ∨ c ∈ rs) → H c = none ∧ F1 c = none ∧ ∃ o, H1 c = some o := fun c h => by
    rcases h with rfl | h
    · exact ⟨x.ow.n, x.ow.f, _, x.ow.h⟩
    · obtain ⟨es, w⟩ := x.row h
      exact ⟨w.n, w.f, _, w.h⟩
  have s : Same F1 (fun c => if c = m ∨ c ∈ rs then H1 c else F1 c) := fun c o h => by
    by_cases e : c = m ∨ c ∈ rs
    · rw [(own c e).2.1] at h; cases h
    · simp only [e, if_false]; exact h
  refine ⟨fun c => if c = m ∨ c ∈ rs then H1 c else F1 c, ⟨fun c o h => s c o (g.ff c o h), fun c o h => ?_, fun c o h => ?_, g.fr, g.th⟩, s, ⟨m, rs.map V.ref, rfl, ?_, by rw [List.length_map, x.len]; exact x.dat.1, fun i v row h1 h2 => ?_⟩, fun c h1 h2 => if_neg fun z => z.elim h1 h2, fun c h => if_pos h⟩
  · by_cases e : c = m ∨ c ∈ rs
    · simp only [e, if_true] at h; exact h
    · simp only [e, if_false] at h; exact g.fh c o h
  · by_cases e : c = m ∨ c ∈ rs
    · exact .inr (own c e).1
    · simp only [e, if_false] at h; exact g.nw c o h
  · show (if m = m ∨ m ∈ rs then H1 m else F1 m) = _
    rw [if_pos (.inl rfl)]; exact x.ow.h
  · rw [List.getElem?_map] at h1
    cases hr : rs[i]? with
    | none => rw [hr] at h1; cases h1
    | some r =>
      rw [hr] at h1
      cases h1
      obtain ⟨es, hes, hd⟩ := x.dat.get h2
      refine ⟨r, es, rfl, ?_, hd.up s⟩
      show (if r = m ∨ r ∈ rs then H1 r else F1 r) = _
      rw [if_pos (.inr (List.mem_of_getElem? hr))]
      exact (x.rows i r es hr hes).h
/-- it may be changed again -/
theorem MaO.thaw {F0 F3 G : Hp} (s0 : Same F0 H) (x : MaO H F1 H1 m rs ess M) (s : Same F1 F2) (on : ∀ c, c = m ∨ c ∈ rs → F2 c = H1 c) (s' : Same F2 F3) (g : Gr mu F0 H F3 G) : ∃ F', Gr mu F0 H F' G ∧ Same F1 F' ∧ MaO H F' G m rs ess M := by
  have own : ∀ c, (c = m ∨ c ∈ rs) → H c = none ∧ F1 c = none ∧ ∀ o, H1 c = some o → G c = some o := fun c h => by
    have k : ∀ o, H1 c = some o → G c = some o := fun o e => g.fh _ _ (s' _ _ ((on c h).trans e))
    rcases id h with rfl | h
    · exact ⟨x.ow.n, x.ow.f, k⟩
    · obtain ⟨es, w⟩ := x.row h
      exact ⟨w.n, w.f, k⟩
  have sa : Same F1 (fun c => if c = m ∨ c ∈ rs then none else F3 c) := fun c o h => by
    by_cases e : c = m ∨ c ∈ rs
    · rw [(own c e).2.1] at h; cases h
    · simp only [e, if_false]; exact s' _ _ (s _ _ h)
  have sb : Same (fun c => if c = m ∨ c ∈ rs then none else F3 c) F3 := fun c o h => by
    by_cases e : c = m ∨ c ∈ rs
    · simp only [e, if_true] at h; cases h
    · simp only [e, if_false] at h; exact h
  have no : ∀ c, (c = m ∨ c ∈ rs) → (fun c => if c = m ∨ c ∈ rs then none else F3 c) c = none := fun c e => if_pos e
  refine ⟨fun c => if c = m ∨ c ∈ rs then none else F3 c, ⟨fun c o h => ?_, fun c o h => g.fh _ _ (sb _ _ h), fun c o h => g.nw _ _ (sb _ _ h), g.fr, g.th⟩, sa, ⟨⟨x.ow.n, no _ (.inl rfl), (own _ (.inl rfl)).2.2 _ x.ow.h⟩, x.nd, x.ne, x.len, fun i r es h1 h2 => ?_, x.dat.imp fun es row z => z.up sa⟩⟩
  · by_cases e : c = m ∨ c ∈ rs
    · have z := s0 c o h
      rw [(own c e).1] at z; cases z
    · simp only [e, if_false]; exact g.ff c o h
  · have w := x.rows i r es h1 h2
    have m' : r = m ∨ r ∈ rs := .inr (List.mem_of_getElem? h1)
    exact ⟨w.n, no _ m', (own _ m').2.2 _ w.h⟩
theorem MaO.at (x : MaO H F1 H1 m rs ess M) {i : Nat} {row : List Ent} (h : M[i]? = some row) : ∃ r es, rs[i]? = some r ∧ ess[i]? = some es ∧ Ow H F1 H1 r (.lst es) ∧ IsAll F1 es row := by
  obtain ⟨es, hes, al⟩ := x.dat.get h
  have l : i < rs.length := by rw [x.len]; exact (List.getElem?_eq_some_iff.mp hes).1
  exact ⟨_, es, List.getElem?_eq_getElem l, hes, x.rows i _ es (List.getElem?_eq_getElem l) hes, al⟩
end
theorem ixN_of {n : Nat} {k : Int} (h0 : 0 ≤ k) (h1 : k < n) : ixN n k = some k.toNat := by
  unfold ixN
  rw [if_pos h0, if_pos h1]
theorem Gr.pf {mu : Addr → Prop} {F H F1 H1 : Hp} {p : Addr} {o : HO} (g : Gr mu F H F1 H1) (f : F p = none) (h : H p = some o) : F1 p = none := by
  cases e : F1 p with
  | none => rfl
  | some z =>
    rcases g.nw p z e with k | k
    · rw [f] at k; cases k
    · rw [h] at k; cases k
/-- a draw: the purse alone is another one -/
theorem Gr.drw {F H F1 H1 : Hp} {p : Addr} {o : HO} {a b : Int} (g : Gr (muP p) F H F1 H1) (f : F p = none) (h : H p = some o) : Gr (muP p) F H F1 (upd H1 p (PurseO a b)) ∧ Gr (muP p) F1 H1 F1 (upd H1 p (PurseO a b)) :=
  ⟨g.set (g.pf f h) (.inr rfl), (Gr.refl g.fh).set (g.pf f h) (.inr rfl)⟩
theorem MOk.set {M : Mach} {R S i j : Nat} {row : List Ent} {e : Ent} (h : MOk M R S) (hr : M[i]? = some row) (he : EOk R S e) : MOk (M.set i (row.set j e)) R S := by
  have mr := List.mem_of_getElem? hr
  refine ⟨h.r1, h.r4, h.s2, h.s4, by rw [List.length_set]; exact h.len, fun r z => ?_, fun r z e' z' => ?_⟩
  · rcases List.mem_or_eq_of_mem_set z with z | rfl
    · exact h.row r z
    · rw [List.length_set]; exact h.row row mr
  · rcases List.mem_or_eq_of_mem_set z with z | rfl
    · exact h.ent r z e' z'
    · rcases List.mem_or_eq_of_mem_set z' with z' | rfl
      · exact h.ent row mr e' z'
      · exact he
def sp_L_machine : Sp := fun vs H Q _ => ∃ (F : Hp) (p : Addr) (a b : Int), vs = [.ref p] ∧ Same F H ∧ F p = none ∧ H p = some (PurseO a b) ∧ 0 ≤ a ∧ 0 ≤ b ∧
  ∀ (F' H' : Hp) (m : Addr) (rs : List Addr) (ess : List (List V)) (M : Mach) (R S : Nat) (a' b' : Int), Gr (muP p) F H F' H' → H' p = some (PurseO a' b') → 0 ≤ a' → 0 ≤ b' → MOk M R S → MaO H F' H' m rs ess M → Q (.ref m) H'
theorem ok_L_machine (t : Tx K mg) : FnOk P w K mg base CX0 2 t.a_L_machine t.fd_L_machine ["_law_purse_here"] sp_L_machine := by
  refine t.F_L_machine.ok sc_L_machine (fun vs H Q E h => ?_) (fun cdv A outer s H vs Q E hr h => ?_)
  · obtain ⟨F, p, a, b, rfl, _⟩ := h
    rfl
  · obtain ⟨F, p, a, b, rfl, sF, fp, hp, ha, hb, q⟩ := h
    refine ⟨_, (pss_cons (ps_set (i := 1) sc_L_machine.nd rfl (by first | exact Or.inl rfl | exact Or.inr rfl) (pe_op op_add pe_int (pe_call (ok_L_draw t) (hr.mono (by decide)) (by rfl) t.m_L_draw t.F_L_draw.kp t.b_L_draw .nil pass0 (pa_cons (pv 0) (pa_cons pe_int pa_nil)))))
      (pss_cons (ps_set (i := 2) sc_L_machine.nd rfl (by first | exact Or.inl rfl | exact Or.inr rfl) (pe_op op_add pe_int (pe_call (ok_L_draw t) (hr.mono (by decide)) (by rfl) t.m_L_draw t.F_L_draw.kp t.b_L_draw .nil pass0 (pa_cons (pv 0) (pa_cons pe_int pa_nil)))))
      (pss_cons (ps_set (i := 3) sc_L_machine.nd rfl (by first | exact Or.inl rfl | exact Or.inr rfl) (pe_call (ok_L_draw t) (hr.mono (by decide)) (by rfl) t.m_L_draw t.F_L_draw.kp t.b_L_draw .nil pass0 (pa_cons (pv 0) (pa_cons pe_int pa_nil))))
      (pss_cons (ps_set (i := 4) sc_L_machine.nd rfl (by first | exact Or.inl rfl | exact Or.inr rfl) (pe_lst pa_nil))
      (pss_cons (ps_for PassesOwn.never rfl (pi_range1 (by rfl) t.n_range (pa_cons (pv 1) pa_nil)) (pg_name (i := 5) sc_L_machine.nd rfl (by first | exact Or.inl rfl | exact Or.inr rfl)) (pss_cons (ps_set (i := 6) sc_L_machine.nd rfl (by first | exact Or.inl rfl | exact Or.inr rfl) (pe_lst pa_nil))
      (pss_cons (ps_for PassesOwn.never rfl (pi_range1 (by rfl) t.n_range (pa_cons (pv 2) pa_nil)) (pg_name (i := 7) sc_L_machine.nd rfl (by first | exact Or.inl rfl | exact Or.inr rfl)) (pss_cons (ps_set (i := 8) sc_L_machine.nd rfl (by first | exact Or.inl rfl | exact Or.inr rfl) (pe_tup (pa_cons (pe_call (ok_L_draw t) (hr.mono (by decide)) (by rfl) t.m_L_draw t.F_L_draw.kp t.b_L_draw .nil pass0 (pa_cons (pv 0) (pa_cons (pv 2) pa_nil))) (pa_cons (pe_op op_sub (pe_op op_mul pe_int (pe_call (ok_L_draw t) (hr.mono (by decide)) (by rfl) t.m_L_draw t.F_L_draw.kp t.b_L_draw .nil pass0 (pa_cons (pv 0) (pa_cons pe_int pa_nil)))) pe_int) (pa_cons (pe_call (ok_L_draw t) (hr.mono (by decide)) (by rfl) t.m_L_draw t.F_L_draw.kp t.b_L_draw .nil pass0 (pa_cons (pv 0) (pa_cons (pv 1) pa_nil))) pa_nil)))))
      (pss_cons (ps_if (PW.pt (pw_and (pt_cmpR op_gt (pv 3) pe_int (nomark _)) (pw_and1 (pt_cmpR op_eq (pe_call (ok_L_draw t) (hr.mono (by decide)) (by rfl) t.m_L_draw t.F_L_draw.kp t.b_L_draw .nil pass0 (pa_cons (pv 0) (pa_cons (pe_op op_add pe_int (pe_op op_mul pe_int (pv 3))) pa_nil))) pe_int (nomark _))))) (pss_one (ps_set (i := 8) sc_L_machine.nd rfl (by first | exact Or.inl rfl | exact Or.inr rfl) (pe_tup pa_nil))) pss_nil)
      (pss_one (ps_expr (pe_bm PySem.F.plainAttrs_list PySem.F.slot_list_append PySem.F.type_list_append mt_append (pv 6) (pa_cons (pv 8) pa_nil)))))))
      (pss_one (ps_expr (pe_bm PySem.F.plainAttrs_list PySem.F.slot_list_append PySem.F.type_list_append mt_append (pv 4) (pa_cons (pv 6) pa_nil)))))))
      (pss_cons (ps_if (pt_cmpR op_eq (pv 3) pe_int (nomark _)) (pss_one (ps_asg (pe_tup pa_nil) (pg_sub (pe_ix ix_list (pv 4) (pe_call (ok_L_draw t) (hr.mono (by decide)) (by rfl) t.m_L_draw t.F_L_draw.kp t.b_L_draw .nil pass0 (pa_cons (pv 0) (pa_cons (pv 1) pa_nil))) (fun _ _ => rfl)) (pe_call (ok_L_draw t) (hr.mono (by decide)) (by rfl) t.m_L_draw t.F_L_draw.kp t.b_L_draw .nil pass0 (pa_cons (pv 0) (pa_cons (pv 2) pa_nil))) set_list))) pss_nil)
      (pss_one (ps_ret (pv 4))))))))), ?_⟩
    have g0 : Gr (muP p) F H F H := Gr.refl sF
    -- rows, signs, kind
    refine ⟨_, rfl, p, a, b, 4, rfl, hp, ha, hb, by decide, by decide, fun d1 a1 b1 d10 d11 ha1 hb1 => ⟨_, _, rfl, rfl, ?_⟩⟩
    have g1 := g0.set (o := PurseO a1 b1) fp (.inr rfl)
    refine ⟨_, rfl, p, a1, b1, 3, rfl, upd_same, ha1, hb1, by decide, by decide, fun d2 a2 b2 d20 d21 ha2 hb2 => ⟨_, _, rfl, rfl, ?_⟩⟩
    have g2 := g1.set (o := PurseO a2 b2) fp (.inr rfl)
    refine ⟨_, rfl, p, a2, b2, 4, rfl, upd_same, ha2, hb2, by decide, by decide, fun d3 a3 b3 d30 d31 ha3 hb3 => ?_⟩
    have g3 := g2.set (o := PurseO a3 b3) fp (.inr rfl)
    generalize eH3 : upd (upd (upd H p (PurseO a1 b1)) p (PurseO a2 b2)) p (PurseO a3 b3) = H3 at g3
    have hp3 : H3 p = some (PurseO a3 b3) := by rw [← eH3]; exact upd_same
    have eR : ((1 + d1).toNat : Int) = 1 + d1 := Int.toNat_of_nonneg (by omega)
    have eS : ((2 + d2).toNat : Int) = 2 + d2 := Int.toNat_of_nonneg (by omega)
    generalize hR : (1 + d1).toNat = R at eR
    generalize hS : (2 + d2).toNat = S at eS
    dsimp only
    rw [← eR, ← eS]
    have R4 : R ≤ 4 := by omega
    have R1 : 1 ≤ R := by omega
    have S4 : S ≤ 4 := by omega
    have S2 : 2 ≤ S := by omega
    -- found = []
    refine ⟨nil_le, fun D nD => ?_⟩
    have x0 : MaO H F (upd H3 D (.lst [])) D [] [] [] := ⟨Ow.mk1 g3 nD, List.nodup_nil, (fun z => nomatch z), rfl, fun i r es h _ => (by cases h), All2.nil⟩
    have g4 := g3.own (o := .lst []) nD
    refine ⟨_, rfl, (R : Int), rfl, by omega, by omega, for_range (lo := 0) (n := ((R : Int)).toNat) (fun i σ G => ∃ (F1 : Hp) (rs : List Addr) (ess : List (List V)) (M : Mach) (a b : Int) (v5 v6 v7 v8 : Option V), σ = [some (.ref p), some (.int R), some (.int S), some (.int d3), some (.ref D), v5, v6, v7, v8] ∧
      Gr (muP p) F H F1 G ∧ G p = some (PurseO a b) ∧ 0 ≤ a ∧ 0 ≤ b ∧ MaO H F1 G D rs ess M ∧ M.length = i ∧ ∀ row ∈ M, row.length = S ∧ ∀ e ∈ row, EOk R S e) ⟨F, [], [], [], a3, b3, none, none, none, none, rfl, g4, ?_, ha3, hb3, x0, rfl, fun row z => nomatch z⟩ ?_ ?_⟩
    · rw [upd_ne (ne_of_none hp3 nD)]; exact hp3
    · rintro i σ G hi ⟨F1, rs, ess, M, a, b, v5, v6, v7, v8, rfl, g, hpG, ha, hb, x, hl, hM⟩
      -- row = []
      refine ⟨nil_le, fun r nr => ?_⟩
      have gr := g.own (o := .lst []) nr
      have wr : Ow H F1 (upd G r (.lst [])) r (.lst []) := Ow.mk1 g nr
      have xr := x.gr ((Gr.refl (mu := mu0) g.fh).own (o := .lst []) nr) fun c z => z.elim
      have offr := x.offn nr
      have hpr : (upd G r (.lst [])) p = some (PurseO a b) := by rw [upd_ne (ne_of_none hpG nr)]; exact hpG
      refine ⟨_, rfl, (S : Int), rfl, by omega, by omega, for_range (lo := 0) (n := ((S : Int)).toNat) (fun j σ G => ∃ (F1 : Hp) (es : List V) (row : List Ent) (a b : Int) (v7 v8 : Option V), σ = [some (.ref p), some (.int R), some (.int S), some (.int d3), some (.ref D), some (.int (0 + i)), some (.ref r), v7, v8] ∧
        Gr (muP p) F H F1 G ∧ G p = some (PurseO a b) ∧ 0 ≤ a ∧ 0 ≤ b ∧ MaO H F1 G D rs ess M ∧ Ow H F1 G r (.lst es) ∧ IsAll F1 es row ∧ row.length = j ∧ ∀ e ∈ row, EOk R S e) ⟨F1, [], [], a, b, v7, v8, rfl, gr, hpr, ha, hb, xr, wr, All2.nil, rfl, fun e z => nomatch z⟩ ?_ ?_⟩
      · rintro j σ G hj ⟨F1, es, row, a, b, v7, v8, rfl, g, hpG, ha, hb, x, w, al, hl, hrow⟩
        have wp : r ≠ p := fun z => by rw [z] at w; rw [w.n] at hp; cases hp
        have wD : r ≠ D := offr.1
        -- the entry
        refine ⟨_, rfl, _, rfl, p, a, b, (S : Int), rfl, hpG, ha, hb, by omega, by omega, fun e1 a1 b1 e10 e11 ha1 hb1 => ?_⟩
        obtain ⟨g1, k1⟩ := g.drw (a := a1) (b := b1) fp hp
        refine ⟨_, rfl, p, a1, b1, 2, rfl, upd_same, ha1, hb1, by decide, by decide, fun e2 a2 b2 e20 e21 ha2 hb2 => ⟨_, _, rfl, rfl, .inl ⟨by decide, by decide⟩, _, _, rfl, rfl, ?_⟩⟩
        obtain ⟨g2, k2⟩ := g1.drw (a := a2) (b := b2) fp hp
        refine ⟨_, rfl, _, rfl, p, a2, b2, (R : Int), rfl, upd_same, ha2, hb2, by omega, by omega, fun e3 a3 b3 e30 e31 ha3 hb3 => ⟨three_le, fun q0 nq => ?_⟩⟩
        obtain ⟨g3, k3⟩ := g2.drw (a := a3) (b := b3) fp hp
        have k := (k1.trans k2).trans k3
        have x3 := x.gr k (x.off hp)
        have w3 := w.call k wp
        have hp3 : (upd (upd (upd G p (PurseO a1 b1)) p (PurseO a2 b2)) p (PurseO a3 b3)) p = some (PurseO a3 b3) := upd_same
        generalize upd (upd (upd G p (PurseO a1 b1)) p (PurseO a2 b2)) p (PurseO a3 b3) = G3 at g3 k x3 w3 hp3 nq
        have g4 := g3.new (o := .tup [.int e1, .int (2 * e2 - 1), .int e3]) nq
        have k4 := (Gr.refl (mu := mu0) g3.fh).new (o := .tup [.int e1, .int (2 * e2 - 1), .int e3]) nq
        have x4 := x3.gr k4 fun c z => z.elim
        have w4 := w3.call k4 fun z => z
        have hp4 := k4.fr _ _ hp3 fun z => z
        have ee : Is (upd F1 q0 (.tup [.int e1, .int (2 * e2 - 1), .int e3])) (.ref q0) (Ent.go e1 (2 * e2 - 1) e3) := ⟨q0, rfl, upd_same⟩
        have eo : EOk R S (Ent.go e1 (2 * e2 - 1) e3) := ⟨fun p w r z => by cases z; exact ⟨⟨e10, e11⟩, by omega, e30, e31⟩⟩
        have al4 := al.up k4.ff
        generalize upd F1 q0 (.tup [.int e1, .int (2 * e2 - 1), .int e3]) = F4 at g4 k4 x4 w4 ee al4
        generalize upd G3 q0 (.tup [.int e1, .int (2 * e2 - 1), .int e3]) = G4 at g4 k4 x4 w4 hp4
        -- what is the same in both ways: the entry comes in
        have fin : ∀ (F5 G5 : Hp) (q5 : Addr) (e5 : Ent) (a5 b5 : Int), Gr (muP p) F H F5 G5 → G5 p = some (PurseO a5 b5) → 0 ≤ a5 → 0 ≤ b5 → MaO H F5 G5 D rs ess M → Ow H F5 G5 r (.lst es) → IsAll F5 es row → Is F5 (.ref q5) e5 → EOk R S e5 →
            ∃ (F1 : Hp) (es1 : List V) (row : List Ent) (a b : Int) (v7 v8 : Option V), [some (.ref p), some (.int R), some (.int S), some (.int d3), some (.ref D), some (.int (0 + i)), some (.ref r), some (.int (0 + j)), some (.ref q5)] = [some (.ref p), some (.int R), some (.int S), some (.int d3), some (.ref D), some (.int (0 + i)), some (.ref r), v7, v8] ∧
              Gr (muP p) F H F1 (upd G5 r (.lst (es ++ [.ref q5]))) ∧ (upd G5 r (.lst (es ++ [.ref q5]))) p = some (PurseO a b) ∧ 0 ≤ a ∧ 0 ≤ b ∧ MaO H F1 (upd G5 r (.lst (es ++ [.ref q5]))) D rs ess M ∧ Ow H F1 (upd G5 r (.lst (es ++ [.ref q5]))) r (.lst es1) ∧ IsAll F1 es1 row ∧ row.length = j + 1 ∧ ∀ e ∈ row, EOk R S e := by
          intro F5 G5 q5 e5 a5 b5 g5 hp5 ha5 hb5 x5 w5 al5 ie5 eo5
          refine ⟨F5, es ++ [.ref q5], row ++ [e5], a5, b5, _, _, rfl, g5.set w5.f (.inl w5.n), by rw [upd_ne (Ne.symm wp)]; exact hp5, ha5, hb5, x5.gr (mu := fun c => c = r) ((Gr.refl g5.fh).set w5.f (.inr rfl)) (fun c z => by rw [show c = r from z]; exact offr), w5.set, al5.app (All2.one ie5), by rw [List.length_append, hl]; rfl, fun e z => ?_⟩
          rcases List.mem_append.mp z with z | z
          · exact hrow e z
          · rw [List.mem_singleton.mp z]; exact eo5
        have ll : ∀ G5 F5 : Hp, IsAll F5 es row → es.length < sizeLine := fun _ _ z => by rw [z.1, hl]; exact lt_size (by omega)
        refine ⟨_, rfl, _, _, rfl, rfl, _, rfl, ?_⟩
        refine ite2 (fun c => ?_) (fun c => ?_)
        · refine ⟨_, rfl, _, rfl, _, _, rfl, rfl, .inl ⟨by decide, by decide⟩, _, _, rfl, rfl, p, a3, b3, _, rfl, hp4, ha3, hb3, by omega, by omega, fun e4 a4 b4 e40 e41 ha4 hb4 => ⟨rfl, _, rfl, ?_⟩⟩
          obtain ⟨g5, k5⟩ := g4.drw (a := a4) (b := b4) fp hp
          have x5 := x4.gr k5 (x4.off hp)
          have w5 := w4.call k5 wp
          have al5 := al4.up k5.ff
          have hp5 : (upd G4 p (PurseO a4 b4)) p = some (PurseO a4 b4) := upd_same
          generalize upd G4 p (PurseO a4 b4) = G5 at g5 k5 x5 w5 hp5
          refine ite2 (fun c => ?_) (fun c => ?_)
          · refine ⟨nil_le, fun q2 nq2 => ?_⟩
            have g6 := g5.new (o := .tup []) nq2
            have k6 := (Gr.refl (mu := mu0) g5.fh).new (o := .tup []) nq2
            have x6 := x5.gr k6 fun c z => z.elim
            have w6 := w5.call k6 fun z => z
            refine ⟨_, rfl, .inl ⟨rfl, _, SqL.of w6.h⟩, _, rfl, r, _, _, rfl, rfl, w6.h, ll G5 _ al5, ?_⟩
            exact fin _ _ q2 .emp a4 b4 g6 (k6.fr _ _ hp5 fun z => z) ha4 hb4 x6 w6 (al5.up k6.ff) ⟨q2, rfl, upd_same⟩ ⟨fun p w r z => by cases z⟩
          · refine ⟨_, rfl, .inl ⟨rfl, _, SqL.of w5.h⟩, _, rfl, r, _, _, rfl, rfl, w5.h, ll G5 _ al5, ?_⟩
            exact fin _ _ q0 _ a4 b4 g5 hp5 ha4 hb4 x5 w5 al5 (ee.up k5.ff) eo
        · refine ifF rfl ?_
          refine ⟨_, rfl, .inl ⟨rfl, _, SqL.of w4.h⟩, _, rfl, r, _, _, rfl, rfl, w4.h, ll G4 _ al4, ?_⟩
          exact fin _ _ q0 _ a3 b3 g4 hp4 ha3 hb3 x4 w4 al4 ee eo
      · rintro σ G ⟨F1, es, row, a, b, v7, v8, rfl, g, hpG, ha, hb, x, w, al, hl2, hrow⟩
        have hl2 : row.length = S := by rw [hl2]; exact Int.toNat_natCast S
        refine ⟨_, rfl, .inl ⟨rfl, _, SqL.of x.ow.h⟩, _, rfl, D, _, _, rfl, rfl, x.ow.h, by rw [List.length_map, x.len, x.dat.1, hl]; exact lt_size (by omega), ?_⟩
        have e1 : rs.map V.ref ++ [V.ref r] = (rs ++ [r]).map V.ref := by rw [List.map_append]; rfl
        rw [e1]
        have pD : p ≠ D := fun z => by rw [z] at hp; rw [x.ow.n] at hp; cases hp
        refine ⟨F1, rs ++ [r], ess ++ [es], M ++ [row], a, b, _, _, _, _, rfl, g.set x.ow.f (.inl x.ow.n), by rw [upd_ne pD]; exact hpG, ha, hb, x.add w offr al, by rw [List.length_append, hl]; rfl, fun row' z => ?_⟩
        rcases List.mem_append.mp z with z | z
        · exact hM row' z
        · rw [List.mem_singleton.mp z]; exact ⟨hl2, hrow⟩
    · rintro σ G ⟨F1, rs, ess, M, a, b, v5, v6, v7, v8, rfl, g, hpG, ha, hb, x, hl, hM⟩
      have hl : M.length = R := by rw [hl]; exact Int.toNat_natCast R
      have mok : ∀ M' : Mach, M'.length = R → (∀ row ∈ M', row.length = S ∧ ∀ e ∈ row, EOk R S e) → MOk M' R S := fun M' h1 h2 => ⟨R1, R4, S2, S4, h1, fun r z => (h2 r z).1, fun r z => (h2 r z).2⟩
      refine ⟨_, rfl, rfl, _, rfl, ?_⟩
      refine ite2 (fun c => ?_) (fun c => ?_)
      · refine ⟨nil_le, fun q2 nq2 => ?_⟩
        have g6 := g.new (o := .tup []) nq2
        have k6 := (Gr.refl (mu := mu0) g.fh).new (o := .tup []) nq2
        have x6 := x.gr k6 fun c z => z.elim
        have hp6 := k6.fr _ _ hpG fun z => z
        have i6 : Is (upd F1 q2 (.tup [])) (.ref q2) Ent.emp := ⟨q2, rfl, upd_same⟩
        generalize upd F1 q2 (.tup []) = F6 at g6 k6 x6 i6
        generalize upd G q2 (.tup []) = G6 at g6 k6 x6 hp6
        refine ⟨_, rfl, _, rfl, _, rfl, p, a, b, (R : Int), rfl, hp6, ha, hb, by omega, by omega, fun i1 a1 b1 i10 i11 ha1 hb1 => ?_⟩
        obtain ⟨g7, k7⟩ := g6.drw (a := a1) (b := b1) fp hp
        have x7 := x6.gr k7 (x6.off hp)
        have hi : i1.toNat < rs.length := by rw [x.len, x.dat.1, hl]; omega
        have hrs : rs[i1.toNat]? = some rs[i1.toNat] := List.getElem?_eq_getElem hi
        have hes : ess[i1.toNat]? = some (ess[i1.toNat]'(by rw [← x.len]; exact hi)) := List.getElem?_eq_getElem _
        obtain ⟨row, hrow, al⟩ := x7.dat.get' hes
        have w7 := x7.rows _ _ _ hrs hes
        refine ⟨D, _, i1, _, rfl, rfl, SqL.of x7.ow.h, at_of (Int.toNat_of_nonneg i10).symm (by rw [List.getElem?_map, hrs]; rfl), ?_⟩
        refine ⟨_, rfl, _, rfl, p, a1, b1, (S : Int), rfl, upd_same, ha1, hb1, by omega, by omega, fun i2 a2 b2 i20 i21 ha2 hb2 => ?_⟩
        obtain ⟨g8, k8⟩ := g7.drw (a := a2) (b := b2) fp hp
        have x8 := x7.gr k8 (x7.off hp)
        have w8 := x8.rows _ _ _ hrs hes
        have ml : row ∈ M := List.mem_of_getElem? hrow
        have lr := (hM row ml).1
        refine ⟨_, _, i2, i2.toNat, rfl, rfl, w8.h, ixN_of i20 (by rw [al.1, lr]; exact i21), ?_⟩
        have hp8 : (upd (upd G6 p (PurseO a1 b1)) p (PurseO a2 b2)) p = some (PurseO a2 b2) := upd_same
        generalize upd (upd G6 p (PurseO a1 b1)) p (PurseO a2 b2) = G8 at g8 k8 x8 w8 hp8
        have pr : p ≠ rs[i1.toNat] := fun z => by rw [z] at hp; rw [w8.n] at hp; cases hp
        refine ⟨_, rfl, ?_⟩
        refine q F6 _ D rs _ _ R S a2 b2 (g8.set w8.f (.inl w8.n)) (by rw [upd_ne pr]; exact hp8) ha2 hb2 (mok _ (by rw [List.length_set]; exact hl) fun row' z => ?_) (x8.put (j := i2.toNat) hrs hes hrow i6)
        rcases List.mem_or_eq_of_mem_set z with z | rfl
        · exact hM row' z
        · refine ⟨by rw [List.length_set]; exact lr, fun e z => ?_⟩
          rcases List.mem_or_eq_of_mem_set z with z | rfl
          · exact (hM row ml).2 e z
          · exact ⟨fun p w r z => by cases z⟩
      · exact ⟨_, rfl, q F1 G D rs ess M R S a b g hpG ha hb (mok M hl hM) x⟩
/-! ### small things -/
theorem ln {H : Hp} {p q : Addr} {o u : HO} (n : H q = none) (h : H p = some o) : upd H q u p = some o := (upd_ne (ne_of_none h n)).trans h
theorem kt_int_int {K : PySem.W.Frag} : PySem.W.kitOne K (.type "int") (.type "int") = some true := kit_ty (by decide +kernel)
theorem kt_int_bool {K : PySem.W.Frag} : PySem.W.kitOne K (.type "int") (.type "bool") = some false := kit_ty (by decide +kernel)
theorem kt_tup {K : PySem.W.Frag} : PySem.W.kitOne K (.type "tuple") (.type "tuple") = some true := kit_ty (by decide +kernel)
theorem kt_list {K : PySem.W.Frag} : PySem.W.kitOne K (.type "list") (.type "list") = some true := kit_ty (by decide +kernel)
theorem gr_purse {H H1 : Hp} (s : Same H H1) : Gr mu0 H H H H1 := ⟨fun _ _ h => h, s, fun _ _ h => .inl h, fun c o h _ => s c o h, fun c h => s.free h⟩
theorem at_end {xs : List V} {k : Nat} {v : V} (l : xs.length = k + 1) (h : xs[k]? = some v) : atI xs (-1) = some v := by
  have e : ixN xs.length (-1) = some k := by
    unfold ixN
    rw [if_neg (by decide), if_pos (by omega)]
    congr 1
    omega
  unfold atI
  rw [e]
  exact h
theorem cut_all {xs : List V} {j : Nat} (h : xs.length ≤ j) : cutV xs none (some (j : Int)) = xs := by
  unfold cutV
  have e1 : HT.sIx xs.length 0 none = 0 := rfl
  have e2 : HT.sIx xs.length xs.length (some (j : Int)) = xs.length := by
    simp only [HT.sIx]
    rw [if_neg (by omega), Int.toNat_natCast]
    omega
  rw [e1, e2, List.drop_zero, Nat.sub_zero, List.take_length]
theorem map_take_succ {α β : Type} {f : α → β} {xs : List α} {i : Nat} {x : α} (h : xs[i]? = some x) : (xs.take (i + 1)).map f = (xs.take i).map f ++ [f x] := by
  rw [List.take_add_one, h, List.map_append]; rfl
theorem cut_1 {xs : List V} : cutV xs (some 1) none = xs.drop 1 := by
  unfold cutV
  have e2 : HT.sIx xs.length xs.length none = xs.length := rfl
  rw [e2]
  cases xs with
  | nil => simp
  | cons x xs =>
    have e1 : HT.sIx (x :: xs).length 0 (some 1) = 1 := by
      simp only [HT.sIx, List.length_cons]
      rw [if_neg (by decide), show (1 : Int).toNat = 1 from rfl]
      omega
    rw [e1]
    show (xs.take (xs.length + 1 - 1)) = xs
    rw [Nat.add_sub_cancel, List.take_length]
theorem cut32 : ¬ (HT.sIx 3 0 none = 0 ∧ HT.sIx 3 3 (some 2) = 3) := by decide
/-! ### what a machine does -/
structure Cfg where
  r : Int
  s : Int
  l : List PI
def entOf (M : Mach) (c : Cfg) : Ent := ((M[c.r.toNat]?.getD [])[((look c.l c.s).getD 0).toNat]?).getD .emp
def stepC (M : Mach) (c : Cfg) : Option Cfg := match entOf M c with
  | .emp => none
  | .go p w r => some ⟨r, c.s + w, put c.l c.s p⟩
structure CfOk (R S : Nat) (c : Cfg) : Prop where
  r0 : 0 ≤ c.r
  r1 : c.r < R
  nd : Nd c.l
  sg : ∀ q ∈ c.l, 0 ≤ q.b ∧ q.b < S
theorem CfOk.look {R S : Nat} {c : Cfg} (h : CfOk R S c) (s1 : 1 ≤ S) (x : Int) : 0 ≤ (look c.l x).getD 0 ∧ (look c.l x).getD 0 < S := by
  cases e : E.look c.l x with
  | none => simp only [Option.getD_none]; omega
  | some v => exact h.sg _ (mem_look e)
theorem CfOk.ent {M : Mach} {R S : Nat} {c : Cfg} (hM : MOk M R S) (h : CfOk R S c) : ∃ row, M[c.r.toNat]? = some row ∧ 0 ≤ (E.look c.l c.s).getD 0 ∧ row[((E.look c.l c.s).getD 0).toNat]? = some (entOf M c) ∧ EOk R S (entOf M c) := by
  have hr : c.r.toNat < M.length := by have := h.r0; have := h.r1; have := hM.len; omega
  have h1 : M[c.r.toNat]? = some M[c.r.toNat] := List.getElem?_eq_getElem hr
  have m1 := List.mem_of_getElem? h1
  obtain ⟨s0, s1⟩ := h.look (by have := hM.s2; omega) c.s
  have hs : ((E.look c.l c.s).getD 0).toNat < M[c.r.toNat].length := by rw [hM.row _ m1]; omega
  have h2 : M[c.r.toNat][((E.look c.l c.s).getD 0).toNat]? = some _ := List.getElem?_eq_getElem hs
  have e : entOf M c = M[c.r.toNat][((E.look c.l c.s).getD 0).toNat] := by
    unfold entOf
    rw [h1, Option.getD_some, h2, Option.getD_some]
  exact ⟨_, h1, s0, by rw [e]; exact h2, by rw [e]; exact hM.ent _ m1 _ (List.mem_of_getElem? h2)⟩
theorem CfOk.step {M : Mach} {R S : Nat} {c c' : Cfg} (hM : MOk M R S) (h : CfOk R S c) (e : stepC M c = some c') : CfOk R S c' := by
  obtain ⟨row, _, _, _, eo⟩ := h.ent hM
  unfold stepC at e
  split at e
  · cases e
  · rename_i p w r he
    cases e
    obtain ⟨o1, _, o3, o4⟩ := eo.ok _ _ _ he
    refine ⟨o3, o4, nd_put h.nd _ _, fun q m => ?_⟩
    rcases mem_put m with m | rfl
    · exact h.sg q m
    · exact o1
/-- the setups behind 0, 1, .. n steps, up to the end -/
def trace (M : Mach) : Nat → Cfg → List Cfg
  | 0, c => [c]
  | n + 1, c => c :: (match stepC M c with | none => [] | some c' => trace M n c')
/-- a setup with its signs in a dict -/
def cfAt (H : Hp) (v : V) (c : Cfg) : Prop := ∃ t d, v = .ref t ∧ H t = some (.tup [.int c.r, .int c.s, .ref d]) ∧ H d = some (.dK (dI c.l))
theorem cfAt.up {H H' : Hp} {v : V} {c : Cfg} (h : cfAt H v c) (s : Same H H') : cfAt H' v c := by
  obtain ⟨t, d, e, h1, h2⟩ := h
  exact ⟨t, d, e, s _ _ h1, s _ _ h2⟩
theorem dict_copy {H : Hp} {a : Addr} {l : List PI} (h : H a = some (.dK (dI l))) : Rd H a (.dK (dI l)) := .inl h
theorem stepC_none {M : Mach} {c : Cfg} : stepC M c = none ↔ entOf M c = .emp := by
  unfold stepC
  cases entOf M c with
  | emp => exact ⟨fun _ => rfl, fun _ => rfl⟩
  | go p w r => exact ⟨(fun h => nomatch h), (fun h => nomatch h)⟩
theorem stepC_go {M : Mach} {c : Cfg} {p w r : Int} (h : entOf M c = .go p w r) : stepC M c = some ⟨r, c.s + w, put c.l c.s p⟩ := by
  unfold stepC
  rw [h]
theorem mach_ent {F : Hp} {m : V} {M : Mach} {i j : Nat} {row : List Ent} {e : Ent} (hm : Is F m M) (h1 : M[i]? = some row) (h2 : row[j]? = some e) : ∃ am rs ra es v, m = .ref am ∧ F am = some (.lst rs) ∧ rs[i]? = some (.ref ra) ∧ F ra = some (.lst es) ∧ es[j]? = some v ∧ Is F v e := by
  obtain ⟨am, rs, e1, ham, hrs⟩ := hm
  obtain ⟨x, hx, ra, es, rfl, hra, hes⟩ := hrs.get h1
  obtain ⟨v, hv, hve⟩ := hes.get h2
  exact ⟨am, rs, ra, es, v, e1, ham, hx, hra, hv, hve⟩
theorem getD_int (o : Option Int) (x : Int) : (o.map V.int).getD (.int x) = .int (o.getD x) := by cases o <;> rfl
theorem trace_end {M : Mach} {c : Cfg} (h : stepC M c = none) : ∀ n, trace M n c = [c]
  | 0 => rfl
  | n + 1 => by
    unfold trace
    rw [h]
theorem trace_go {M : Mach} {c c' : Cfg} (h : stepC M c = some c') (n : Nat) : trace M (n + 1) c = c :: trace M n c' := by
  show c :: (match stepC M c with | none => [] | some c' => trace M n c') = _
  rw [h]
theorem size_dI {l : List PI} {n : Nat} (h : l.length ≤ n) (k : n ≤ 1000000) : (dI l).length < sizeLine := by
  unfold dI; rw [List.length_map]; exact lt_size (by omega)
/-! ### runs from the empty strip -/
def c0 : Cfg := ⟨0, 0, []⟩
def stepsC (M : Mach) : Nat → Option Cfg
  | 0 => some c0
  | k + 1 => (stepsC M k).bind (stepC M)
theorem stepsC_next {M : Mach} {k : Nat} {c : Cfg} (h : stepsC M k = some c) : stepsC M (k + 1) = stepC M c := by
  show (stepsC M k).bind (stepC M) = _
  rw [h]; rfl
theorem stepsC_back {M : Mach} {k : Nat} {c : Cfg} (h : stepsC M (k + 1) = some c) : ∃ b, stepsC M k = some b ∧ stepC M b = some c := Option.bind_eq_some_iff.mp h
theorem stepsC_end {M : Mach} {k : Nat} {c : Cfg} (h : stepsC M k = some c) (e : stepC M c = none) : ∀ j, stepsC M (k + 1 + j) = none
  | 0 => by rw [Nat.add_zero, stepsC_next h]; exact e
  | j + 1 => by
    show (stepsC M (k + 1 + j)).bind (stepC M) = _
    rw [stepsC_end h e j]; rfl
theorem c0_ok {R S : Nat} (r1 : 1 ≤ R) : CfOk R S c0 := ⟨Int.le_refl _, by show (0 : Int) < R; omega, nd_nil, fun z m => nomatch m⟩
theorem stepC_len {M : Mach} {c c' : Cfg} (e : stepC M c = some c') : c'.l.length ≤ c.l.length + 1 := by
  unfold stepC at e
  split at e
  · cases e
  · cases e
    exact put_len _ _ _
theorem stepsC_ok {M : Mach} {R S : Nat} (hM : MOk M R S) : ∀ {k : Nat} {c : Cfg}, stepsC M k = some c → CfOk R S c ∧ c.l.length ≤ k
  | 0, c, h => by
    cases h
    exact ⟨c0_ok hM.r1, Nat.le_refl _⟩
  | k + 1, c, h => by
    obtain ⟨b, hb, e⟩ := stepsC_back h
    obtain ⟨i1, i2⟩ := stepsC_ok hM hb
    have := stepC_len e
    exact ⟨i1.step hM e, by omega⟩
/-- where a run of at most n steps stands: behind k of them, at c -/
structure Gone (M : Mach) (n k : Nat) (c : Cfg) : Prop where
  le : k ≤ n
  stp : stepsC M k = some c
  fin : stepC M c = none ∨ k = n
theorem Gone.lt {M : Mach} {n k k' : Nat} {c c' : Cfg} (a : Gone M n k c) (b : Gone M n k' c') : ¬ k < k' := fun l => by
  rcases a.fin with e | e
  · have h := stepsC_end a.stp e (k' - (k + 1))
    rw [show k + 1 + (k' - (k + 1)) = k' by omega, b.stp] at h
    cases h
  · have := b.le; omega
theorem Gone.uniq {M : Mach} {n k k' : Nat} {c c' : Cfg} (a : Gone M n k c) (b : Gone M n k' c') : k = k' ∧ c = c' := by
  have e : k = k' := by have := a.lt b; have := b.lt a; omega
  subst e
  have h := a.stp
  rw [b.stp] at h
  cases h
  exact ⟨rfl, rfl⟩
/-! ### a strip without noughts -/
def pop (l : List PI) (x : Int) : List PI := l.filter fun p => decide (p.a ≠ x)
theorem dI_pop (l : List PI) (x : Int) : dropK (dI l) (Sum.inl x) = dI (pop l x) := by
  unfold dropK dI pop
  rw [List.filter_map]
  congr 2
  funext p
  have e : ((Sum.inl p.a : Key) ≠ Sum.inl x) = (p.a ≠ x) := propext ⟨fun h z => h (by rw [z]), fun h z => h (Sum.inl.inj z)⟩
  simp only [Function.comp, e]
theorem look_pop (x y : Int) : ∀ l : List PI, look (pop l x) y = if y = x then none else look l y
  | [] => by show look [] y = _; rw [look_nil]; split <;> rfl
  | p :: l => by
    have ih := look_pop x y l
    unfold pop at ih ⊢
    rw [List.filter_cons, look_cons]
    by_cases e : p.a = x
    · rw [if_neg (by simp [e]), ih]
      by_cases f : y = x
      · rw [if_pos f, if_pos f]
      · rw [if_neg f, if_neg f, if_neg (by rw [e]; exact fun z => f z.symm)]
    · rw [if_pos (by simp [e]), look_cons, ih]
      by_cases f : p.a = y
      · rw [if_pos f, if_pos f, if_neg (by rw [← f]; exact e)]
      · rw [if_neg f, if_neg f]
theorem nd_pop {l : List PI} (h : Nd l) (x : Int) : Nd (pop l x) := List.Sublist.nodup (List.Sublist.map _ List.filter_sublist) h
theorem nd_nodup {l : List PI} (h : Nd l) : l.Nodup := (List.pairwise_map.mp h).imp fun z e => z (by rw [e])
structure ZRel (l l' : List PI) : Prop where
  n : Nd l
  n' : Nd l'
  z : ∀ q ∈ l', q.b ≠ 0
  lk : ∀ x, (look l x).getD 0 = (look l' x).getD 0
theorem ZRel.nil : ZRel [] [] := ⟨nd_nil, nd_nil, fun q m => (nomatch m), fun x => rfl⟩
theorem ZRel.put {l l' : List PI} (h : ZRel l l') (x : Int) {v : Int} (e : v ≠ 0) : ZRel (put l x v) (put l' x v) := by
  refine ⟨nd_put h.n _ _, nd_put h.n' _ _, fun q m => ?_, fun y => ?_⟩
  · rcases mem_put m with m | rfl
    · exact h.z q m
    · exact e
  · rw [look_put, look_put]
    split
    · rfl
    · exact h.lk y
theorem ZRel.pop {l l' : List PI} (h : ZRel l l') (x : Int) : ZRel (E.put l x 0) (pop (E.put l' x 0) x) := by
  refine ⟨nd_put h.n _ _, nd_pop (nd_put h.n' _ _) _, fun q m => ?_, fun y => ?_⟩
  · obtain ⟨m, e⟩ := List.mem_filter.mp m
    have e : q.a ≠ x := of_decide_eq_true e
    rcases mem_put m with m | rfl
    · exact h.z q m
    · exact absurd rfl e
  · rw [look_put, look_pop, look_put]
    split
    · rfl
    · exact h.lk y
theorem ZRel.perm {l l' : List PI} (h : ZRel l l') : (l.filter nz).Perm l' := by
  refine (List.perm_ext_iff_of_nodup (List.Sublist.nodup List.filter_sublist (nd_nodup h.n)) (nd_nodup h.n')).mpr fun q => ?_
  have k := h.lk q.a
  rw [List.mem_filter]
  constructor
  · rintro ⟨m, e⟩
    have e : q.b ≠ 0 := of_decide_eq_true e
    rw [look_mem h.n m, Option.getD_some] at k
    cases f : look l' q.a with
    | none => rw [f] at k; exact absurd k e
    | some z =>
      rw [f, Option.getD_some] at k
      have m' := mem_look f
      rw [← k] at m'
      exact m'
  · intro m
    have e := h.z q m
    rw [look_mem h.n' m, Option.getD_some] at k
    cases f : look l q.a with
    | none => rw [f] at k; exact absurd k.symm e
    | some z =>
      rw [f, Option.getD_some] at k
      have m' := mem_look f
      rw [k] at m'
      exact ⟨m', decide_eq_true e⟩
theorem ZRel.told {l l' : List PI} (h : ZRel l l') : told l = srt l' :=
  srt_uniq (srt_srt _) (srt_srt _) (((srt_perm _).trans h.perm).trans (srt_perm _).symm)
theorem ZRel.len {l l' : List PI} (h : ZRel l l') : l'.length ≤ l.length := by
  rw [← h.perm.length_eq]; exact List.length_filter_le _ _
/-- a setup with its signs other than 0 in a dict -/
def zAt (H : Hp) (v : V) (c : Cfg) : Prop := ∃ t d l', v = .ref t ∧ H t = some (.tup [.int c.r, .int c.s, .ref d]) ∧ H d = some (.dK (dI l')) ∧ ZRel c.l l'
theorem zAt.up {H H' : Hp} {v : V} {c : Cfg} (h : zAt H v c) (s : Same H H') : zAt H' v c := by
  obtain ⟨t, d, l', e, h1, h2, h3⟩ := h
  exact ⟨t, d, l', e, s _ _ h1, s _ _ h2, h3⟩
/-- the setups behind 0, 1, .. k steps -/
def ZAll (H : Hp) (M : Mach) (xs : List V) (k : Nat) : Prop := xs.length = k + 1 ∧ ∀ i v, xs[i]? = some v → ∃ c, stepsC M i = some c ∧ zAt H v c
theorem ZAll.up {H H' : Hp} {M : Mach} {xs : List V} {k : Nat} (h : ZAll H M xs k) (s : Same H H') : ZAll H' M xs k :=
  ⟨h.1, fun i v e => by obtain ⟨c, a, b⟩ := h.2 i v e; exact ⟨c, a, b.up s⟩⟩
theorem ZAll.one {H : Hp} {M : Mach} {v : V} (h : zAt H v c0) : ZAll H M [v] 0 := ⟨rfl, fun i u e => by
  cases i with
  | zero => cases e; exact ⟨c0, rfl, h⟩
  | succ n => cases e⟩
theorem ZAll.app {H : Hp} {M : Mach} {xs : List V} {k : Nat} {v : V} {c : Cfg} (h : ZAll H M xs k) (e : stepsC M (k + 1) = some c) (z : zAt H v c) : ZAll H M (xs ++ [v]) (k + 1) := by
  refine ⟨by rw [List.length_append, h.1]; rfl, fun i u hu => ?_⟩
  by_cases l : i < xs.length
  · rw [List.getElem?_append_left l] at hu
    exact h.2 i u hu
  · rw [List.getElem?_append_right (by omega)] at hu
    cases j : i - xs.length with
    | zero =>
      rw [j] at hu
      cases hu
      have := h.1
      rw [show i = k + 1 by omega]
      exact ⟨c, e, z⟩
    | succ n => rw [j] at hu; cases hu
theorem ZAll.get {H : Hp} {M : Mach} {xs : List V} {k i : Nat} {c : Cfg} (h : ZAll H M xs k) (l : i ≤ k) (e : stepsC M i = some c) : ∃ v, xs[i]? = some v ∧ zAt H v c := by
  have l' : i < xs.length := by rw [h.1]; omega
  obtain ⟨c', e', z⟩ := h.2 i _ (List.getElem?_eq_getElem l')
  rw [e] at e'
  cases e'
  exact ⟨_, List.getElem?_eq_getElem l', z⟩
/-- the entry at c, looked up by a strip of the same signs -/
theorem CfOk.ent' {M : Mach} {R S : Nat} {c : Cfg} {l' : List PI} (hM : MOk M R S) (h : CfOk R S c) (z : ZRel c.l l') : ∃ row, M[c.r.toNat]? = some row ∧ 0 ≤ (E.look l' c.s).getD 0 ∧ row[((E.look l' c.s).getD 0).toNat]? = some (entOf M c) ∧ EOk R S (entOf M c) := by
  rw [← z.lk]
  exact h.ent hM
/-! ### words -/
/-- a text that may stand in a datum -/
structure TStr where
  x : Str
  ok : PyData.strOk x = true
  deriving DecidableEq
instance : Dat TStr where
  rep := fun _ v d => v = .str d.x
  mono := fun _ h => h
  py := fun d => .str d.x
  dp := fun h => h ▸ .str _
  can := fun d => d.ok
  dep := 0
  depth := fun _ => Nat.le_refl _
  eqv := fun a b => by
    obtain ⟨a, _⟩ := a; obtain ⟨b, _⟩ := b
    simp [PyData.eqv]
/-- what is due of a run -/
abbrev Res := T3 TStr Int Setup
def tEnds : TStr := ⟨"ends", by decide +kernel⟩
def tOn : TStr := ⟨"on", by decide +kernel⟩
def dueOf (M : Mach) (n k : Nat) (c : Cfg) : Res := if entOf M c = Ent.emp then ⟨tEnds, k, c.r, c.s, told c.l⟩ else ⟨tOn, n, c.r, c.s, told c.l⟩
def sp_gone (C : Addr) : Sp := fun vs H Q _ => ∃ (F : Hp) (m : V) (M : Mach) (R S n : Nat), vs = [m, .int n] ∧ Same F H ∧ Is F m M ∧ MOk M R S ∧ n ≤ 5000 ∧
  ∀ (F' H' : Hp) (u g d : Addr) (k : Nat) (c : Cfg), Gr mu0 F H F' H' → F' u = some (.tup [.ref g, .bl (decide (entOf M c = Ent.emp))]) → H g = none → H d = none → F' g = none → F' d = none → GoAt C H' g d m c.r c.s c.l k → Gone M n k c → Q (.ref u) H'
theorem ok_gone (t : Tx K mg) : FnOk P w K mg base CX0 3 t.a_gone t.fd_gone ["machine", "most"] (sp_gone t.C_Goer) := by
  refine t.F_gone.ok sc_gone (fun vs H Q E h => ?_) (fun cdv A outer s H vs Q E hr h => ?_)
  · obtain ⟨F, m, M, R, S, n, rfl, _⟩ := h
    rfl
  · obtain ⟨F, m, M, R, S, n, rfl, sF, hm, hM, hn, q⟩ := h
    refine ⟨_, (pss_cons (ps_set (i := 2) sc_gone.nd rfl (by first | exact Or.inl rfl | exact Or.inr rfl) (pe_make t.M_Goer (ok_Goer_init t) (hr.mono (by decide)) (by rfl) t.m_Goer t.b_Goer_init .nil pass0 (pa_cons (pv 0) (pa_cons (pe_tup (pa_cons pe_int (pa_cons pe_int (pa_cons (pe_lst pa_nil) pa_nil)))) pa_nil))))
      (pss_cons (ps_set (i := 3) sc_gone.nd rfl (by first | exact Or.inl rfl | exact Or.inr rfl) pe_bl)
      (pss_cons (ps_while PassesOwn.never (PW.pt (pw_and (pt_val (pv 3)) (pw_and1 (pt_cmpR op_lt (pe_fld (pv 2) rfl) (pv 1) (nomark _))))) (pss_one (ps_set (i := 3) sc_gone.nd rfl (by first | exact Or.inl rfl | exact Or.inr rfl) (pe_meth0 (pv 2) t.cl_Goer t.M_Goer_step (ok_Goer_step t) (hr.mono (by decide)) t.b_Goer_step .nil pass0))))
      (pss_one (ps_ret (pe_tup (pa_cons (pv 2) (pa_cons (pe_cmpR (op_eqD hr.units) (pe_meth0 (pv 2) t.cl_Goer t.M_Goer_entry (ok_Goer_entry t) (hr.mono (by decide)) t.b_Goer_entry .nil pass0) (pe_tup pa_nil) (nomark _)) pa_nil)))))))), ?_⟩
    have g0 : Gr mu0 F H F H := Gr.refl sF
    -- walk = Goer(machine, (0, 0, []))
    refine ⟨_, rfl, nil_le, fun l nl => ⟨three_le, fun u nu => ?_⟩⟩
    have g1 := g0.new (o := .lst []) nl
    have g2 := g1.new (o := .tup [.int 0, .int 0, .ref l]) nu
    have hx : Is (upd (upd F l (.lst [])) u (.tup [.int 0, .int 0, .ref l])) (.ref u) (⟨0, 0, []⟩ : Setup) := ⟨u, _, _, _, rfl, upd_same, rfl, rfl, l, [], rfl, ln (g1.fh.free nu) upd_same, All2.nil⟩
    generalize upd (upd F l (.lst [])) u (.tup [.int 0, .int 0, .ref l]) = F2 at g2 hx
    generalize upd (upd H l (.lst [])) u (.tup [.int 0, .int 0, .ref l]) = H2 at g2
    refine fun y dy ny ndy ney => ?_
    have g3 := g2.own (o := .own y) ndy
    have ny2 : (upd H2 dy (.own y)) y = none := by rw [upd_ne ney.symm]; exact ny
    have g4 := g3.own (o := .ins t.C_Goer dy []) ny2
    have hy : H y = none := g2.th _ ny
    have fy : F2 y = none := g2.fh.free ny
    refine ⟨F2, y, dy, m, .ref u, _, rfl, upd_same, fy, g4.fh, hx, fun d H5 nd5 g5 ga => ⟨rfl, ?_⟩⟩
    have g6 := g4.thn g5 fun c z => .inr (by rw [show c = y from z]; exact hy)
    have hd : H d = none := g4.th _ nd5
    have fd : F2 d = none := g4.fh.free nd5
    have hm2 := hm.up g2.ff
    -- going = True; while going and walk.steps < most
    refine ⟨fun k σ G => ∃ (F1 : Hp) (j : Nat) (c : Cfg) (b : Bool), k = 2 * (n - j) + b.toNat ∧ σ = [some m, some (.int n), some (.ref y), some (.bl b)] ∧ Gr mu0 F H F1 G ∧ F1 y = none ∧ F1 d = none ∧ Same F2 F1 ∧ GoAt t.C_Goer G y d m c.r c.s c.l j ∧ stepsC M j = some c ∧ j ≤ n ∧ (b = false → stepC M c = none),
      ⟨_, F2, 0, c0, true, rfl, rfl, g6, fy, fd, Same.refl _, ga, rfl, Nat.zero_le _, (fun z => nomatch z)⟩, ?_⟩
    rintro k σ G ⟨F1, j, c, b, rfl, rfl, g, fy, fd, s2, ga, st, lj, hb⟩
    obtain ⟨ok, ll⟩ := stepsC_ok hM st
    have hm1 := hm2.up s2
    obtain ⟨row, er, s0, ee, eo⟩ := ok.ent hM
    have gy := g.th
    have fin : ∀ G1, Gr mu0 F H F1 G1 → GoAt t.C_Goer G1 y d m c.r c.s c.l j → (stepC M c = none ∨ j = n) → ∀ p, G1 p = none → ∀ u, (upd G1 p (.tup [])) u = none → Q (.ref u) (upd (upd G1 p (.tup [])) u (.tup [.ref y, .bl (decide (entOf M c = Ent.emp))])) := by
      intro G1 g1 ga1 hend p np u nu
      have g2 := g1.own (o := .tup []) np
      have g3 := g2.new (o := .tup [.ref y, .bl (decide (entOf M c = Ent.emp))]) nu
      obtain ⟨⟨dx, ho⟩, hdc⟩ := id ga1
      have yu : y ≠ u := fun z => by rw [← z, upd_ne (ne_of_none ho np), ho] at nu; cases nu
      have du : d ≠ u := fun z => by rw [← z, upd_ne (ne_of_none hdc np), hdc] at nu; cases nu
      refine q _ _ u y d j c g3 upd_same hy hd (by rw [upd_ne yu]; exact fy) (by rw [upd_ne du]; exact fd) ⟨⟨dx, ln nu (ln np ho)⟩, ln nu (ln np hdc)⟩ ⟨lj, st, hend⟩
    obtain ⟨⟨dx, ho⟩, hdc⟩ := id ga
    refine ⟨_, rfl, _, rfl, ?_⟩
    refine ite2 (fun cb => ?_) (fun cb => ?_)
    · refine ⟨_, rfl, y, t.C_Goer, dx, _, _, rfl, ho, t.cl_Goer, t.nA_Goer_steps, Goer_get_steps, _, rfl, _, _, rfl, rfl, _, rfl, ?_⟩
      refine ite2 (fun cl => ?_) (fun cl => ?_)
      · have cl : (j : Int) < n := of_decide_eq_true cl
        refine ⟨_, fun _ _ h => h, ?_⟩
        refine ⟨_, rfl, y, dx, _, rfl, ho, Goer_no (by decide +kernel) (by decide +kernel) (by decide +kernel) (by decide +kernel) (by decide +kernel), F1, y, d, m, M, c.r, c.s, c.l, j, row, entOf M c, rfl, g.fh, fy, fd, hm1, ga, ok.r0, er, s0, ee, by omega, fun he H6 g6 => ?_, fun p w r' he H6 g6 gb => ?_⟩
        · exact ⟨2 * (n - j), by rw [cb]; show _ < 2 * (n - j) + 1; omega, F1, j, c, false, rfl, rfl, g.trans g6, fy, fd, s2, ga.gr g6 (fun z => z) (fun z => z), st, lj, fun _ => stepC_none.mpr he⟩
        · have st1 := stepC_go he
          exact ⟨2 * (n - (j + 1)) + 1, by rw [cb]; show _ < 2 * (n - j) + 1; omega, F1, j + 1, ⟨r', c.s + w, put c.l c.s p⟩, true, rfl, rfl, g.thn g6 (fun c z => .inr (by rcases z with rfl | rfl <;> assumption)), fy, fd, s2, gb, (stepsC_next st).trans st1, by omega, fun z => nomatch z⟩
      · have cl : ¬ (j : Int) < n := fun z => cl (decide_eq_true z)
        refine ⟨_, rfl, _, rfl, y, dx, _, rfl, ho, Goer_no (by decide +kernel) (by decide +kernel) (by decide +kernel) (by decide +kernel) (by decide +kernel), F1, y, d, m, M, c.r, c.s, c.l, j, row, entOf M c, rfl, g.fh, hm1, ga, ok.r0, er, s0, ee, fun v hv => ⟨nil_le, fun p np => ?_⟩⟩
        refine eq_dat (a := entOf M c) (b := Ent.emp) (hv.up (g.own np).fh) ⟨p, rfl, upd_same⟩ ⟨two_le, fun u nu => ?_⟩
        exact fin G g ga (.inr (by omega)) p np u nu
    · refine ifF rfl ?_
      have cb : b = false := by cases b with | false => rfl | true => exact absurd rfl cb
      refine ⟨_, rfl, _, rfl, y, dx, _, rfl, ho, Goer_no (by decide +kernel) (by decide +kernel) (by decide +kernel) (by decide +kernel) (by decide +kernel), F1, y, d, m, M, c.r, c.s, c.l, j, row, entOf M c, rfl, g.fh, hm1, ga, ok.r0, er, s0, ee, fun v hv => ⟨nil_le, fun p np => ?_⟩⟩
      refine eq_dat (a := entOf M c) (b := Ent.emp) (hv.up (g.own np).fh) ⟨p, rfl, upd_same⟩ ⟨two_le, fun u nu => ?_⟩
      exact fin G g ga (.inl (hb cb)) p np u nu
def sp_run : Sp := fun vs H Q _ => ∃ (F : Hp) (m : V) (M : Mach) (R S n : Nat), vs = [m, .int n] ∧ Same F H ∧ Is F m M ∧ MOk M R S ∧ n ≤ 5000 ∧
  ∀ (F' H' : Hp) (l u v : Addr) (xs : List V) (k : Nat) (c : Cfg), Gr mu0 F H F' H' → Gone M n k c → Ow H F' H' l (.lst xs) → IsAll F' xs (told c.l) → Ow H F' H' u (.tup [.int c.r, .int c.s, .ref l]) → Ow H F' H' v (.tup [.str (dueOf M n k c).a.x, .int (dueOf M n k c).b, .ref u]) → Q (.ref v) H'
theorem due_c {M : Mach} {n k : Nat} {c : Cfg} : (dueOf M n k c).c = ⟨c.r, c.s, told c.l⟩ := by unfold dueOf; split <;> rfl
theorem run_is {M : Mach} {n k : Nat} {c : Cfg} {F G : Hp} {l u v : Addr} {xs : List V} (s : Same F G) (hl : G l = some (.lst xs)) (al : IsAll F xs (told c.l)) (hu : G u = some (.tup [.int c.r, .int c.s, .ref l])) (hv : G v = some (.tup [.str (dueOf M n k c).a.x, .int (dueOf M n k c).b, .ref u])) : Is G (.ref v) (dueOf M n k c) := by
  refine ⟨v, _, _, _, rfl, hv, rfl, rfl, ?_⟩
  rw [due_c]
  exact ⟨u, _, _, _, rfl, hu, rfl, rfl, l, xs, rfl, hl, al.up s⟩
theorem ok_run (t : Tx K mg) : FnOk P w K mg base CX0 4 t.a_run t.fd_run ["machine", "most"] sp_run := by
  refine t.F_run.ok sc_run (fun vs H Q E h => ?_) (fun cdv A outer s H vs Q E hr h => ?_)
  · obtain ⟨F, m, M, R, S, n, rfl, _⟩ := h
    rfl
  · obtain ⟨F, m, M, R, S, n, rfl, sF, hm, hM, hn, q⟩ := h
    refine ⟨_, (pss_cons (ps_expr (pe_call (ok_must_machine t) (hr.mono (by decide)) (by rfl) t.m_must_machine t.F_must_machine.kp t.b_must_machine .nil pass0 (pa_cons (pv 0) pa_nil)))
      (pss_cons (ps_asg (pe_call (ok_gone t) (hr.mono (by decide)) (by rfl) t.m_gone t.F_gone.kp t.b_gone .nil pass0 (pa_cons (pv 0) (pa_cons (pv 1) pa_nil))) (pg_tup rfl (pgs_cons (pg_name (i := 2) sc_run.nd rfl (by first | exact Or.inl rfl | exact Or.inr rfl)) (pgs_cons (pg_name (i := 3) sc_run.nd rfl (by first | exact Or.inl rfl | exact Or.inr rfl)) pgs_nil))))
      (pss_cons (ps_if (pt_val (pv 3)) (pss_one (ps_ret (pe_tup (pa_cons pe_str (pa_cons (pe_fld (pv 2) rfl) (pa_cons (pe_meth0 (pv 2) t.cl_Goer t.M_Goer_setup (ok_Goer_setup t) (hr.mono (by decide)) t.b_Goer_setup .nil pass0) pa_nil)))))) pss_nil)
      (pss_one (ps_ret (pe_tup (pa_cons pe_str (pa_cons (pv 1) (pa_cons (pe_meth0 (pv 2) t.cl_Goer t.M_Goer_setup (ok_Goer_setup t) (hr.mono (by decide)) t.b_Goer_setup .nil pass0) pa_nil))))))))), ?_⟩
    refine ⟨_, rfl, F, m, M, R, S, rfl, sF, hm, hM, fun H1 g1 => ?_⟩
    refine ⟨_, rfl, _, rfl, F, m, M, R, S, n, rfl, g1.fh, hm, hM, hn, fun F2 H2 w g d k c g2 hw ng nd fg fd ga go => ?_⟩
    have g12 := g1.trans g2
    refine ⟨w, _, rfl, SqT.of (g2.fh _ _ hw), rfl, _, _, rfl, _, _, rfl, rfl, ?_⟩
    obtain ⟨ok, ll⟩ := stepsC_ok hM go.stp
    have gle := go.le
    obtain ⟨⟨dx, ho⟩, hdc⟩ := id ga
    have key : ∀ (x : Str) (i : Int), (dueOf M n k c).a.x = x → (dueOf M n k c).b = i → ∀ (F' H' : Hp) (p u : Addr) (xs : List V), Gr mu0 F2 H2 F' H' → Ow H2 F' H' p (.lst xs) → IsAll F' xs (told c.l) → Ow H2 F' H' u (.tup [.int c.r, .int c.s, .ref p]) → ∀ v, H' v = none → Q (.ref v) (upd H' v (.tup [.str x, .int i, .ref u])) := by
      intro x i ex ei F' H' p u xs g3 w1 al w2 v nv
      have g13 := g12.trans g3
      refine q F' _ p u v xs k c (g13.own nv) go ⟨g12.th _ w1.n, w1.f, ln nv w1.h⟩ al ⟨g12.th _ w2.n, w2.f, ln nv w2.h⟩ ?_
      rw [ex, ei]
      exact Ow.mk1 g13 nv
    by_cases e : entOf M c = Ent.emp
    · refine ⟨_, rfl, _, rfl, ifT (decide_eq_true e) ?_⟩
      refine ⟨_, rfl, g, t.C_Goer, dx, _, _, rfl, ho, t.cl_Goer, t.nA_Goer_steps, Goer_get_steps, _, rfl, g, dx, _, rfl, ho, Goer_no (by decide +kernel) (by decide +kernel) (by decide +kernel) (by decide +kernel) (by decide +kernel), F2, g, d, m, c.r, c.s, c.l, k, rfl, g2.fh, ga, by omega, fun F' H' p u xs g3 w1 al w2 => ⟨three_le, fun v nv => ?_⟩⟩
      exact key tEnds.x k (by unfold dueOf; rw [if_pos e]) (by unfold dueOf; rw [if_pos e]) F' H' p u xs g3 w1 al w2 v nv
    · refine ⟨_, rfl, _, rfl, ifF (decide_eq_false e) ?_⟩
      refine ⟨_, rfl, _, rfl, g, dx, _, rfl, ho, Goer_no (by decide +kernel) (by decide +kernel) (by decide +kernel) (by decide +kernel) (by decide +kernel), F2, g, d, m, c.r, c.s, c.l, k, rfl, g2.fh, ga, by omega, fun F' H' p u xs g3 w1 al w2 => ⟨three_le, fun v nv => ?_⟩⟩
      exact key tOn.x n (by unfold dueOf; rw [if_neg e]) (by unfold dueOf; rw [if_neg e]) F' H' p u xs g3 w1 al w2 v nv
/-! ### all setups of a run -/
theorem get_snoc {α : Type} {xs : List α} {x y : α} {i : Nat} (h : (xs ++ [x])[i]? = some y) : (i < xs.length ∧ xs[i]? = some y) ∨ (i = xs.length ∧ y = x) := by
  by_cases l : i < xs.length
  · rw [List.getElem?_append_left l] at h
    exact .inl ⟨l, h⟩
  · rw [List.getElem?_append_right (by omega)] at h
    cases e : i - xs.length with
    | zero => rw [e] at h; cases h; exact .inr ⟨by omega, rfl⟩
    | succ n => rw [e] at h; cases h
def Hist (M : Mach) (k : Nat) (cs : List Cfg) : Prop := cs.length = k + 1 ∧ ∀ i c, cs[i]? = some c → stepsC M i = some c
theorem Hist.uniq {M : Mach} {k : Nat} {cs cs' : List Cfg} (a : Hist M k cs) (b : Hist M k cs') : cs = cs' := by
  refine List.ext_getElem? fun i => ?_
  by_cases l : i < k + 1
  · have h1 : cs[i]? = some _ := List.getElem?_eq_getElem (by rw [a.1]; exact l)
    have h2 : cs'[i]? = some _ := List.getElem?_eq_getElem (by rw [b.1]; exact l)
    have e1 := a.2 i _ h1
    have e2 := b.2 i _ h2
    rw [e1] at e2
    rw [h1, h2, e2]
  · rw [List.getElem?_eq_none_iff.mpr (by rw [a.1]; omega), List.getElem?_eq_none_iff.mpr (by rw [b.1]; omega)]
theorem Hist.one {M : Mach} : Hist M 0 [c0] := ⟨rfl, fun i c h => by
  cases i with
  | zero => cases h; rfl
  | succ n => cases h⟩
theorem Hist.app {M : Mach} {k : Nat} {cs : List Cfg} {c : Cfg} (h : Hist M k cs) (e : stepsC M (k + 1) = some c) : Hist M (k + 1) (cs ++ [c]) := by
  refine ⟨by rw [List.length_append, h.1]; rfl, fun i b hb => ?_⟩
  rcases get_snoc hb with ⟨_, hb⟩ | ⟨rfl, rfl⟩
  · exact h.2 i b hb
  · rw [h.1]; exact e
theorem Hist.last {M : Mach} {k : Nat} {cs : List Cfg} {c : Cfg} (h : Hist M k cs) (e : stepsC M k = some c) : cs[k]? = some c := by
  have h1 : cs[k]? = some _ := List.getElem?_eq_getElem (by rw [h.1]; omega)
  have e1 := h.2 k _ h1
  rw [e] at e1
  rw [h1, ← e1]
def suOf (c : Cfg) : Setup := ⟨c.r, c.s, told c.l⟩
/-- a told list of setups, of which nothing is anybody else's -/
structure SeO (H F1 H1 : Hp) (D : Addr) (us ps : List Addr) (yss : List (List V)) (cs : List Cfg) : Prop where
  ow : Ow H F1 H1 D (.lst (us.map V.ref))
  l1 : us.length = cs.length
  l2 : ps.length = cs.length
  l3 : yss.length = cs.length
  tup : ∀ (i : Nat) u p c, us[i]? = some u → ps[i]? = some p → cs[i]? = some c → F1 u = some (.tup [.int c.r, .int c.s, .ref p])
  lst : ∀ (i : Nat) p ys, ps[i]? = some p → yss[i]? = some ys → Ow H F1 H1 p (.lst ys)
  dat : ∀ (i : Nat) ys c, yss[i]? = some ys → cs[i]? = some c → IsAll F1 ys (told c.l)
  nd : ps.Nodup
  ne : D ∉ ps
section
variable {mu : Addr → Prop} {H F H1 F1 H2 F2 : Hp} {D : Addr} {us ps : List Addr} {yss : List (List V)} {cs : List Cfg}
theorem SeO.list (x : SeO H F1 H1 D us ps yss cs) {p : Addr} (h : p ∈ ps) : ∃ ys, Ow H F1 H1 p (.lst ys) := by
  obtain ⟨i, hi⟩ := List.getElem?_of_mem h
  have l := (List.getElem?_eq_some_iff.mp hi).1
  exact ⟨_, x.lst i p _ hi (List.getElem?_eq_getElem (by rw [x.l3, ← x.l2]; exact l))⟩
theorem SeO.gr (x : SeO H F1 H1 D us ps yss cs) (g : Gr mu F1 H1 F2 H2) (k : ∀ c, mu c → c ≠ D ∧ c ∉ ps) : SeO H F2 H2 D us ps yss cs where
  ow := x.ow.call g fun z => (k D z).1 rfl
  l1 := x.l1
  l2 := x.l2
  l3 := x.l3
  tup := fun i u p c h1 h2 h3 => g.ff _ _ (x.tup i u p c h1 h2 h3)
  lst := fun i p ys h1 h2 => (x.lst i p ys h1 h2).call g fun z => (k p z).2 (List.mem_of_getElem? h1)
  dat := fun i ys c h1 h2 => (x.dat i ys c h1 h2).up g.ff
  nd := x.nd
  ne := x.ne
theorem SeO.off (x : SeO H F1 H1 D us ps yss cs) {c : Addr} {o : HO} (h : H1 c = some o) (k : ∀ xs, o ≠ .lst xs) : c ≠ D ∧ c ∉ ps := by
  refine ⟨fun z => ?_, fun z => ?_⟩
  · rw [z, x.ow.h] at h; cases h; exact k _ rfl
  · obtain ⟨ys, w⟩ := x.list z
    rw [w.h] at h; cases h; exact k _ rfl
theorem SeO.offn (x : SeO H F1 H1 D us ps yss cs) {c : Addr} (h : H1 c = none) : c ≠ D ∧ c ∉ ps := by
  refine ⟨fun z => ?_, fun z => ?_⟩
  · rw [z, x.ow.h] at h; cases h
  · obtain ⟨ys, w⟩ := x.list z
    rw [w.h] at h; cases h
theorem SeO.app (x : SeO H F1 H1 D us ps yss cs) {u p : Addr} {ys : List V} {c : Cfg} (hu : F1 u = some (.tup [.int c.r, .int c.s, .ref p])) (w : Ow H F1 H1 p (.lst ys)) (k : p ≠ D ∧ p ∉ ps) (al : IsAll F1 ys (told c.l)) :
    SeO H F1 (upd H1 D (.lst ((us ++ [u]).map V.ref))) D (us ++ [u]) (ps ++ [p]) (yss ++ [ys]) (cs ++ [c]) where
  ow := x.ow.set
  l1 := by rw [List.length_append, List.length_append, x.l1]; rfl
  l2 := by rw [List.length_append, List.length_append, x.l2]; rfl
  l3 := by rw [List.length_append, List.length_append, x.l3]; rfl
  tup := fun i u' p' c' h1 h2 h3 => by
    have := x.l1; have := x.l2
    rcases get_snoc h1 with ⟨_, h1⟩ | ⟨e1, rfl⟩
    · rcases get_snoc h2 with ⟨_, h2⟩ | ⟨e2, rfl⟩
      · rcases get_snoc h3 with ⟨_, h3⟩ | ⟨e3, rfl⟩
        · exact x.tup i u' p' c' h1 h2 h3
        · omega
      · omega
    · rcases get_snoc h2 with ⟨_, h2⟩ | ⟨e2, rfl⟩
      · omega
      · rcases get_snoc h3 with ⟨_, h3⟩ | ⟨e3, rfl⟩
        · omega
        · exact hu
  lst := fun i p' ys' h1 h2 => by
    have := x.l2; have := x.l3
    rcases get_snoc h1 with ⟨_, h1⟩ | ⟨e1, rfl⟩
    · rcases get_snoc h2 with ⟨_, h2⟩ | ⟨e2, rfl⟩
      · exact (x.lst i p' ys' h1 h2).other fun z => x.ne (by rw [← z]; exact List.mem_of_getElem? h1)
      · omega
    · rcases get_snoc h2 with ⟨_, h2⟩ | ⟨e2, rfl⟩
      · omega
      · exact w.other k.1
  dat := fun i ys' c' h1 h2 => by
    have := x.l3
    rcases get_snoc h1 with ⟨_, h1⟩ | ⟨e1, rfl⟩
    · rcases get_snoc h2 with ⟨_, h2⟩ | ⟨e2, rfl⟩
      · exact x.dat i ys' c' h1 h2
      · omega
    · rcases get_snoc h2 with ⟨_, h2⟩ | ⟨e2, rfl⟩
      · omega
      · exact al
  nd := nd_snoc x.nd k.2
  ne := fun z => by
    rcases List.mem_append.mp z with z | z
    · exact x.ne z
    · exact k.1 (List.mem_singleton.mp z).symm
theorem SeO.nil (w : Ow H F1 H1 D (.lst [])) : SeO H F1 H1 D [] [] [] [] :=
  ⟨w, rfl, rfl, rfl, (fun i u p c h => by cases h), (fun i p ys h => by cases h), (fun i ys c h => by cases h), List.nodup_nil, fun z => nomatch z⟩
/-- as it is read -/
theorem SeO.is (x : SeO H F1 H1 D us ps yss cs) (s : Same F1 H1) : Is H1 (.ref D) (cs.map suOf) := by
  refine ⟨D, _, rfl, x.ow.h, by rw [List.length_map, List.length_map, x.l1], fun i v d h1 h2 => ?_⟩
  rw [List.getElem?_map] at h1 h2
  cases hu : us[i]? with
  | none => rw [hu] at h1; cases h1
  | some u =>
    cases hc : cs[i]? with
    | none => rw [hc] at h2; cases h2
    | some c =>
      rw [hu] at h1; rw [hc] at h2
      cases h1; cases h2
      have l := (List.getElem?_eq_some_iff.mp hc).1
      have hp : ps[i]? = some _ := List.getElem?_eq_getElem (by rw [x.l2]; exact l)
      have hy : yss[i]? = some _ := List.getElem?_eq_getElem (by rw [x.l3]; exact l)
      exact ⟨u, _, _, _, rfl, s _ _ (x.tup i u _ c hu hp hc), rfl, rfl, _, _, rfl, (x.lst i _ _ hp hy).h, (x.dat i _ c hy hc).up s⟩
end
def sp_setups : Sp := fun vs H Q _ => ∃ (F : Hp) (m : V) (M : Mach) (R S n : Nat), vs = [m, .int n] ∧ Same F H ∧ Is F m M ∧ MOk M R S ∧ n ≤ 5000 ∧
  ∀ (F' H' : Hp) (D : Addr) (us ps : List Addr) (yss : List (List V)) (cs : List Cfg) (k : Nat) (c : Cfg), Gr mu0 F H F' H' → Gone M n k c → Hist M k cs → SeO H F' H' D us ps yss cs → Q (.ref D) H'
theorem ok_setups (t : Tx K mg) : FnOk P w K mg base CX0 4 t.a_setups t.fd_setups ["machine", "most"] sp_setups := by
  refine t.F_setups.ok sc_setups (fun vs H Q E h => ?_) (fun cdv A outer s H vs Q E hr h => ?_)
  · obtain ⟨F, m, M, R, S, n, rfl, _⟩ := h
    rfl
  · obtain ⟨F, m, M, R, S, n, rfl, sF, hm, hM, hn, q⟩ := h
    refine ⟨_, (pss_cons (ps_expr (pe_call (ok_must_machine t) (hr.mono (by decide)) (by rfl) t.m_must_machine t.F_must_machine.kp t.b_must_machine .nil pass0 (pa_cons (pv 0) pa_nil)))
      (pss_cons (ps_set (i := 2) sc_setups.nd rfl (by first | exact Or.inl rfl | exact Or.inr rfl) (pe_make t.M_Goer (ok_Goer_init t) (hr.mono (by decide)) (by rfl) t.m_Goer t.b_Goer_init .nil pass0 (pa_cons (pv 0) (pa_cons (pe_tup (pa_cons pe_int (pa_cons pe_int (pa_cons (pe_lst pa_nil) pa_nil)))) pa_nil))))
      (pss_cons (ps_set (i := 3) sc_setups.nd rfl (by first | exact Or.inl rfl | exact Or.inr rfl) (pe_lst (pa_cons (pe_meth0 (pv 2) t.cl_Goer t.M_Goer_setup (ok_Goer_setup t) (hr.mono (by decide)) t.b_Goer_setup .nil pass0) pa_nil)))
      (pss_cons (ps_while PassesOwn.never (PW.pt (pw_and (pt_cmpR op_lt (pe_fld (pv 2) rfl) (pv 1) (nomark _)) (pw_and1 (pt_val (pe_meth0 (pv 2) t.cl_Goer t.M_Goer_step (ok_Goer_step t) (hr.mono (by decide)) t.b_Goer_step .nil pass0))))) (pss_one (ps_expr (pe_bm PySem.F.plainAttrs_list PySem.F.slot_list_append PySem.F.type_list_append mt_append (pv 3) (pa_cons (pe_meth0 (pv 2) t.cl_Goer t.M_Goer_setup (ok_Goer_setup t) (hr.mono (by decide)) t.b_Goer_setup .nil pass0) pa_nil)))))
      (pss_one (ps_ret (pv 3))))))), ?_⟩
    refine ⟨_, rfl, F, m, M, R, S, rfl, sF, hm, hM, fun Ha ga0 => ?_⟩
    -- walk = Goer(machine, (0, 0, []))
    refine ⟨_, rfl, nil_le, fun l nl => ⟨three_le, fun u nu => ?_⟩⟩
    have g1 := ga0.new (o := .lst []) nl
    have g2 := g1.new (o := .tup [.int 0, .int 0, .ref l]) nu
    have hx : Is (upd (upd F l (.lst [])) u (.tup [.int 0, .int 0, .ref l])) (.ref u) (⟨0, 0, []⟩ : Setup) := ⟨u, _, _, _, rfl, upd_same, rfl, rfl, l, [], rfl, ln (g1.fh.free nu) upd_same, All2.nil⟩
    generalize upd (upd F l (.lst [])) u (.tup [.int 0, .int 0, .ref l]) = F2 at g2 hx
    generalize upd (upd Ha l (.lst [])) u (.tup [.int 0, .int 0, .ref l]) = H2 at g2
    refine fun y dy ny ndy ney => ?_
    have g3 := g2.own (o := .own y) ndy
    have ny2 : (upd H2 dy (.own y)) y = none := by rw [upd_ne ney.symm]; exact ny
    have g4 := g3.own (o := .ins t.C_Goer dy []) ny2
    have hy : H y = none := g2.th _ ny
    have fy : F2 y = none := g2.fh.free ny
    refine ⟨F2, y, dy, m, .ref u, _, rfl, upd_same, fy, g4.fh, hx, fun d H5 nd5 g5 ga => ⟨rfl, ?_⟩⟩
    have g6 := g4.thn g5 fun c z => .inr (by rw [show c = y from z]; exact hy)
    have hd : H d = none := g4.th _ nd5
    have fd : F2 d = none := g4.fh.free nd5
    have hm2 := hm.up g2.ff
    -- found = [walk.setup()]
    obtain ⟨⟨dx, ho⟩, hdc⟩ := id ga
    refine ⟨_, rfl, y, dx, _, rfl, ho, Goer_no (by decide +kernel) (by decide +kernel) (by decide +kernel) (by decide +kernel) (by decide +kernel), F2, y, d, m, 0, 0, [], 0, rfl, g6.fh, ga, Nat.zero_le _, fun F7 H7 p u7 xs g7 wp al wu => ⟨one_le, fun D nD => ?_⟩⟩
    have g67 := g6.trans g7
    have fy7 := g7.pf fy ho
    have fd7 := g7.pf fd hdc
    have ga7 := ga.gr g7 (fun z => z) (fun z => z)
    have pu : p ≠ u7 := ne_of wp.h wu.h (by intro z; cases z)
    have g8 := g67.frz wu.h (g6.th _ wu.n) wu.f
    have wp8 : Ow H (upd F7 u7 (.tup [.int 0, .int 0, .ref p])) H7 p (.lst xs) := ⟨g6.th _ wp.n, by rw [upd_ne pu]; exact wp.f, wp.h⟩
    have s78 : Same F7 (upd F7 u7 (.tup [.int 0, .int 0, .ref p])) := sm_new (Same.refl F7) wu.f
    obtain ⟨⟨dx7, ho7⟩, hdc7⟩ := id ga7
    have yu : y ≠ u7 := ne_of ho7 wu.h (by intro z; cases z)
    have du : d ≠ u7 := ne_of hdc7 wu.h (by intro z; cases z)
    have fu8 : (upd F7 u7 (.tup [.int 0, .int 0, .ref p])) u7 = some (.tup [.int 0, .int 0, .ref p]) := upd_same
    have fy8 : (upd F7 u7 (.tup [.int 0, .int 0, .ref p])) y = none := by rw [upd_ne yu]; exact fy7
    have fd8 : (upd F7 u7 (.tup [.int 0, .int 0, .ref p])) d = none := by rw [upd_ne du]; exact fd7
    have al8 := al.up s78
    have hm8 := (hm2.up g7.ff).up s78
    generalize upd F7 u7 (.tup [.int 0, .int 0, .ref p]) = F8 at g8 wp8 s78 fu8 fy8 fd8 al8 hm8
    have x0 : SeO H F8 (upd (upd H7 D (.lst [])) D (.lst (([] ++ [u7]).map V.ref))) D ([] ++ [u7]) ([] ++ [p]) ([] ++ [xs]) ([] ++ [c0]) := SeO.app (SeO.nil (Ow.mk1 g8 nD)) fu8 (wp8.own nD) ⟨wp8.ne nD, fun z => nomatch z⟩ al8
    have e0 : upd (upd H7 D (.lst [])) D (.lst (([] ++ [u7]).map V.ref)) = upd H7 D (.lst [.ref u7]) := by
      funext c
      by_cases e : c = D
      · rw [e, upd_same, upd_same]; rfl
      · rw [upd_ne e, upd_ne e, upd_ne e]
    rw [e0] at x0
    have g9 := g8.own (o := .lst [.ref u7]) nD
    have ga9 := ga7.gr (mu := mu0) ((Gr.refl g8.fh).own (o := .lst [.ref u7]) nD) (fun z => z) (fun z => z)
    -- while walk.steps < most and walk.step()
    refine ⟨fun k σ G => ∃ (F1 : Hp) (j : Nat) (c : Cfg) (us ps : List Addr) (yss : List (List V)) (cs : List Cfg), k = n - j ∧ σ = [some m, some (.int n), some (.ref y), some (.ref D)] ∧ Gr mu0 F H F1 G ∧ F1 y = none ∧ F1 d = none ∧ Same F8 F1 ∧ GoAt t.C_Goer G y d m c.r c.s c.l j ∧ stepsC M j = some c ∧ j ≤ n ∧ Hist M j cs ∧ SeO H F1 G D us ps yss cs,
      ⟨_, F8, 0, c0, _, _, _, _, rfl, rfl, g9, fy8, fd8, Same.refl _, ga9, rfl, Nat.zero_le _, Hist.one, x0⟩, ?_⟩
    rintro k σ G ⟨F1, j, c, us, ps, yss, cs, rfl, rfl, g, fy, fd, s2, ga, st, lj, hi, x⟩
    obtain ⟨ok, ll⟩ := stepsC_ok hM st
    have hm1 := hm8.up s2
    obtain ⟨row, er, s0, ee, eo⟩ := ok.ent hM
    obtain ⟨⟨dx, ho⟩, hdc⟩ := id ga
    refine ⟨_, rfl, y, t.C_Goer, dx, _, _, rfl, ho, t.cl_Goer, t.nA_Goer_steps, Goer_get_steps, _, rfl, _, _, rfl, rfl, _, rfl, ?_⟩
    refine ite2 (fun cl => ?_) (fun cl => ?_)
    · have cl : (j : Int) < n := of_decide_eq_true cl
      refine ⟨_, rfl, y, dx, _, rfl, ho, Goer_no (by decide +kernel) (by decide +kernel) (by decide +kernel) (by decide +kernel) (by decide +kernel), F1, y, d, m, M, c.r, c.s, c.l, j, row, entOf M c, rfl, g.fh, fy, fd, hm1, ga, ok.r0, er, s0, ee, by omega, fun he H6 g6 => ⟨_, rfl, iteF ?_⟩, fun p w r' he H6 g6 gb => ⟨_, rfl, iteT ?_⟩⟩
      · refine ⟨_, rfl, ?_⟩
        exact q F1 H6 D us ps yss cs j c (g.trans g6) ⟨lj, st, .inl (stepC_none.mpr he)⟩ hi (x.gr g6 fun c z => z.elim)
      · refine ⟨_, fun _ _ h => h, ?_⟩
        have st1 := stepC_go he
        have st2 := (stepsC_next st).trans st1
        have offy := x.off ho (fun xs z => by cases z)
        have offd := x.off hdc (fun xs z => by cases z)
        have x6 := x.gr g6 fun c z => by rcases z with rfl | rfl <;> assumption
        have g16 := g.thn g6 (fun c z => .inr (by rcases z with rfl | rfl <;> assumption))
        obtain ⟨⟨dx6, ho6⟩, hdc6⟩ := id gb
        -- found.append(walk.setup())
        refine ⟨_, rfl, .inl ⟨rfl, _, SqL.of x6.ow.h⟩, _, rfl, y, dx6, _, rfl, ho6, Goer_no (by decide +kernel) (by decide +kernel) (by decide +kernel) (by decide +kernel) (by decide +kernel), F1, y, d, m, r', c.s + w, put c.l c.s p, j + 1, rfl, g16.fh, gb, by have := put_len c.l c.s p; omega, fun F7 H7 p7 u7 xs g7 wp al wu => ?_⟩
        have x7 := x6.gr g7 fun c z => z.elim
        have g17 := g16.trans g7
        have fy7 := g7.pf fy ho6
        have fd7 := g7.pf fd hdc6
        have ga7 := gb.gr g7 (fun z => z) (fun z => z)
        have pu : p7 ≠ u7 := ne_of wp.h wu.h (by intro z; cases z)
        have k8 := (Gr.refl (mu := mu0) g7.fh)
        have nu : H u7 = none := g16.th _ wu.n
        have g8 := g17.frz wu.h nu wu.f
        have wp8 : Ow H (upd F7 u7 (.tup [.int r', .int (c.s + w), .ref p7])) H7 p7 (.lst xs) := ⟨g16.th _ wp.n, by rw [upd_ne pu]; exact wp.f, wp.h⟩
        have s78 : Same F7 (upd F7 u7 (.tup [.int r', .int (c.s + w), .ref p7])) := sm_new (Same.refl F7) wu.f
        have offu := x6.offn wu.n
        have offp := x6.offn wp.n
        obtain ⟨⟨dx7, ho7⟩, hdc7⟩ := id ga7
        have yu : y ≠ u7 := ne_of ho7 wu.h (by intro z; cases z)
        have du : d ≠ u7 := ne_of hdc7 wu.h (by intro z; cases z)
        have x8 : SeO H (upd F7 u7 (.tup [.int r', .int (c.s + w), .ref p7])) H7 D us ps yss cs := by
          refine ⟨⟨x7.ow.n, by rw [upd_ne offu.1.symm]; exact x7.ow.f, x7.ow.h⟩, x7.l1, x7.l2, x7.l3, fun i u p c h1 h2 h3 => s78 _ _ (x7.tup i u p c h1 h2 h3), fun i p ys h1 h2 => ?_, fun i ys c h1 h2 => (x7.dat i ys c h1 h2).up s78, x7.nd, x7.ne⟩
          have w := x7.lst i p ys h1 h2
          exact ⟨w.n, by rw [upd_ne (fun z => offu.2 (by rw [← z]; exact List.mem_of_getElem? h1))]; exact w.f, w.h⟩
        refine ⟨D, _, _, rfl, rfl, x8.ow.h, ?_, ?_⟩
        · rw [List.length_map, x.l1, hi.1]; exact lt_size (by omega)
        · have fu8 : (upd F7 u7 (.tup [.int r', .int (c.s + w), .ref p7])) u7 = some (.tup [.int r', .int (c.s + w), .ref p7]) := upd_same
          have x9 := x8.app (c := ⟨r', c.s + w, put c.l c.s p⟩) fu8 wp8 offp (al.up s78)
          have e9 : us.map V.ref ++ [V.ref u7] = (us ++ [u7]).map V.ref := by rw [List.map_append]; rfl
          rw [e9]
          have g9 := g8.set (o := .lst ((us ++ [u7]).map V.ref)) x8.ow.f (.inl x8.ow.n)
          have nyD : y ≠ D := offy.1
          have ndD : d ≠ D := offd.1
          refine ⟨n - (j + 1), by omega, _, j + 1, ⟨r', c.s + w, put c.l c.s p⟩, _, _, _, _, rfl, rfl, g9, by rw [upd_ne yu]; exact fy7, by rw [upd_ne du]; exact fd7, (fun c o h => s78 _ _ (g7.ff _ _ (s2 _ _ h))), ⟨⟨dx7, (upd_ne nyD).trans ho7⟩, (upd_ne ndD).trans hdc7⟩, st2, by omega, hi.app st2, x9⟩
    · have cl : ¬ (j : Int) < n := fun z => cl (decide_eq_true z)
      refine ifF rfl ⟨_, rfl, ?_⟩
      exact q F1 G D us ps yss cs j c g ⟨lj, st, .inr (by omega)⟩ hi x
/-! ### the stretch -/
def IsLo (cs : List Cfg) (x : Int) : Prop := x ∈ cs.map (·.s) ∧ ∀ y ∈ cs.map (·.s), x ≤ y
def IsHi (cs : List Cfg) (x : Int) : Prop := x ∈ cs.map (·.s) ∧ ∀ y ∈ cs.map (·.s), y ≤ x
theorem IsLo.uniq {cs : List Cfg} {x y : Int} (a : IsLo cs x) (b : IsLo cs y) : x = y := by
  have := a.2 y b.1; have := b.2 x a.1; omega
theorem IsHi.uniq {cs : List Cfg} {x y : Int} (a : IsHi cs x) (b : IsHi cs y) : x = y := by
  have := a.2 y b.1; have := b.2 x a.1; omega
theorem IsLo.one : IsLo [c0] 0 := ⟨List.mem_singleton.mpr rfl, fun y m => by rw [List.mem_singleton.mp m]; exact Int.le_refl _⟩
theorem IsHi.one : IsHi [c0] 0 := ⟨List.mem_singleton.mpr rfl, fun y m => by rw [List.mem_singleton.mp m]; exact Int.le_refl _⟩
theorem IsLo.app {cs : List Cfg} {x : Int} (h : IsLo cs x) (c : Cfg) : IsLo (cs ++ [c]) (if c.s < x then c.s else x) := by
  refine ⟨?_, fun y m => ?_⟩
  · rw [List.map_append]
    split
    · exact List.mem_append_right _ (List.mem_singleton.mpr rfl)
    · exact List.mem_append_left _ h.1
  · rw [List.map_append] at m
    rcases List.mem_append.mp m with m | m
    · have := h.2 y m
      split <;> omega
    · rw [show y = c.s from List.mem_singleton.mp m]
      split <;> omega
theorem IsHi.app {cs : List Cfg} {x : Int} (h : IsHi cs x) (c : Cfg) : IsHi (cs ++ [c]) (if c.s > x then c.s else x) := by
  refine ⟨?_, fun y m => ?_⟩
  · rw [List.map_append]
    split
    · exact List.mem_append_right _ (List.mem_singleton.mpr rfl)
    · exact List.mem_append_left _ h.1
  · rw [List.map_append] at m
    rcases List.mem_append.mp m with m | m
    · have := h.2 y m
      split <;> omega
    · rw [show y = c.s from List.mem_singleton.mp m]
      split <;> omega
def sp_touched : Sp := fun vs H Q _ => ∃ (F : Hp) (m : V) (M : Mach) (R S n : Nat), vs = [m, .int n] ∧ Same F H ∧ Is F m M ∧ MOk M R S ∧ n ≤ 5000 ∧
  ∀ (F' H' : Hp) (u : Addr) (lo hi : Int) (cs : List Cfg) (k : Nat) (c : Cfg), Gr mu0 F H F' H' → Gone M n k c → Hist M k cs → IsLo cs lo → IsHi cs hi → Is F' (.ref u) (⟨lo, hi⟩ : PI) → Q (.ref u) H'
theorem ok_touched (t : Tx K mg) : FnOk P w K mg base CX0 4 t.a_touched t.fd_touched ["machine", "most"] sp_touched := by
  refine t.F_touched.ok sc_touched (fun vs H Q E h => ?_) (fun cdv A outer s H vs Q E hr h => ?_)
  · obtain ⟨F, m, M, R, S, n, rfl, _⟩ := h
    rfl
  · obtain ⟨F, m, M, R, S, n, rfl, sF, hm, hM, hn, q⟩ := h
    refine ⟨_, (pss_cons (ps_expr (pe_call (ok_must_machine t) (hr.mono (by decide)) (by rfl) t.m_must_machine t.F_must_machine.kp t.b_must_machine .nil pass0 (pa_cons (pv 0) pa_nil)))
      (pss_cons (ps_set (i := 2) sc_touched.nd rfl (by first | exact Or.inl rfl | exact Or.inr rfl) (pe_make t.M_Goer (ok_Goer_init t) (hr.mono (by decide)) (by rfl) t.m_Goer t.b_Goer_init .nil pass0 (pa_cons (pv 0) (pa_cons (pe_tup (pa_cons pe_int (pa_cons pe_int (pa_cons (pe_lst pa_nil) pa_nil)))) pa_nil))))
      (pss_cons (ps_set (i := 3) sc_touched.nd rfl (by first | exact Or.inl rfl | exact Or.inr rfl) pe_int)
      (pss_cons (ps_set (i := 4) sc_touched.nd rfl (by first | exact Or.inl rfl | exact Or.inr rfl) pe_int)
      (pss_cons (ps_while PassesOwn.never (PW.pt (pw_and (pt_cmpR op_lt (pe_fld (pv 2) rfl) (pv 1) (nomark _)) (pw_and1 (pt_val (pe_meth0 (pv 2) t.cl_Goer t.M_Goer_step (ok_Goer_step t) (hr.mono (by decide)) t.b_Goer_step .nil pass0))))) (pss_cons (ps_set (i := 3) sc_touched.nd rfl (by first | exact Or.inl rfl | exact Or.inr rfl) (pe_callB (id := "min") (call_min2 rfl) (by rfl) t.n_min (by decide +kernel) (pa_cons (pv 3) (pa_cons (pe_fld (pv 2) rfl) pa_nil))))
      (pss_one (ps_set (i := 4) sc_touched.nd rfl (by first | exact Or.inl rfl | exact Or.inr rfl) (pe_callB (id := "max") (call_max2 rfl) (by rfl) t.n_max (by decide +kernel) (pa_cons (pv 4) (pa_cons (pe_fld (pv 2) rfl) pa_nil)))))))
      (pss_one (ps_ret (pe_tup (pa_cons (pv 3) (pa_cons (pv 4) pa_nil)))))))))), ?_⟩
    refine ⟨_, rfl, F, m, M, R, S, rfl, sF, hm, hM, fun Ha ga0 => ?_⟩
    -- walk = Goer(machine, (0, 0, []))
    refine ⟨_, rfl, nil_le, fun l nl => ⟨three_le, fun u nu => ?_⟩⟩
    have g1 := ga0.new (o := .lst []) nl
    have g2 := g1.new (o := .tup [.int 0, .int 0, .ref l]) nu
    have hx : Is (upd (upd F l (.lst [])) u (.tup [.int 0, .int 0, .ref l])) (.ref u) (⟨0, 0, []⟩ : Setup) := ⟨u, _, _, _, rfl, upd_same, rfl, rfl, l, [], rfl, ln (g1.fh.free nu) upd_same, All2.nil⟩
    generalize upd (upd F l (.lst [])) u (.tup [.int 0, .int 0, .ref l]) = F2 at g2 hx
    generalize upd (upd Ha l (.lst [])) u (.tup [.int 0, .int 0, .ref l]) = H2 at g2
    refine fun y dy ny ndy ney => ?_
    have g3 := g2.own (o := .own y) ndy
    have ny2 : (upd H2 dy (.own y)) y = none := by rw [upd_ne ney.symm]; exact ny
    have g4 := g3.own (o := .ins t.C_Goer dy []) ny2
    have hy : H y = none := g2.th _ ny
    have fy : F2 y = none := g2.fh.free ny
    refine ⟨F2, y, dy, m, .ref u, _, rfl, upd_same, fy, g4.fh, hx, fun d H5 nd5 g5 ga => ⟨rfl, ?_⟩⟩
    have g6 := g4.thn g5 fun c z => .inr (by rw [show c = y from z]; exact hy)
    have hd : H d = none := g4.th _ nd5
    have fd : F2 d = none := g4.fh.free nd5
    have hm2 := hm.up g2.ff
    refine ⟨fun k σ G => ∃ (j : Nat) (c : Cfg) (lo hi : Int) (cs : List Cfg), k = n - j ∧ σ = [some m, some (.int n), some (.ref y), some (.int lo), some (.int hi)] ∧ Gr mu0 F H F2 G ∧ GoAt t.C_Goer G y d m c.r c.s c.l j ∧ stepsC M j = some c ∧ j ≤ n ∧ Hist M j cs ∧ IsLo cs lo ∧ IsHi cs hi,
      ⟨_, 0, c0, 0, 0, _, rfl, rfl, g6, ga, rfl, Nat.zero_le _, Hist.one, IsLo.one, IsHi.one⟩, ?_⟩
    rintro k σ G ⟨j, c, lo, hi, cs, rfl, rfl, g, ga, st, lj, hh, il, ih⟩
    obtain ⟨ok, ll⟩ := stepsC_ok hM st
    obtain ⟨row, er, s0, ee, eo⟩ := ok.ent hM
    obtain ⟨⟨dx, ho⟩, hdc⟩ := id ga
    have fin : ∀ G1, Gr mu0 F H F2 G1 → (stepC M c = none ∨ j = n) → ∀ v, G1 v = none → Q (.ref v) (upd G1 v (.tup [.int lo, .int hi])) := fun G1 g1 e v nv =>
      q _ _ v lo hi cs j c (g1.new nv) ⟨lj, st, e⟩ hh il ih ⟨v, _, _, rfl, upd_same, rfl, rfl⟩
    refine ⟨_, rfl, y, t.C_Goer, dx, _, _, rfl, ho, t.cl_Goer, t.nA_Goer_steps, Goer_get_steps, _, rfl, _, _, rfl, rfl, _, rfl, ?_⟩
    refine ite2 (fun cl => ?_) (fun cl => ?_)
    · have cl : (j : Int) < n := of_decide_eq_true cl
      refine ⟨_, rfl, y, dx, _, rfl, ho, Goer_no (by decide +kernel) (by decide +kernel) (by decide +kernel) (by decide +kernel) (by decide +kernel), F2, y, d, m, M, c.r, c.s, c.l, j, row, entOf M c, rfl, g.fh, fy, fd, hm2, ga, ok.r0, er, s0, ee, by omega, fun he H6 g6 => ⟨_, rfl, iteF ?_⟩, fun p w r' he H6 g6 gb => ⟨_, rfl, iteT ?_⟩⟩
      · exact ⟨_, rfl, _, rfl, two_le, fin H6 (g.trans g6) (.inl (stepC_none.mpr he))⟩
      · refine ⟨_, fun _ _ h => h, ?_⟩
        have st1 := stepC_go he
        have st2 := (stepsC_next st).trans st1
        have g16 := g.thn g6 (fun c z => .inr (by rcases z with rfl | rfl <;> assumption))
        obtain ⟨⟨dx6, ho6⟩, hdc6⟩ := id gb
        refine ⟨_, rfl, _, rfl, y, t.C_Goer, dx6, _, _, rfl, ho6, t.cl_Goer, t.nA_Goer_spot, Goer_get_spot, _, _, rfl, ?_⟩
        refine ⟨_, rfl, _, rfl, y, t.C_Goer, dx6, _, _, rfl, ho6, t.cl_Goer, t.nA_Goer_spot, Goer_get_spot, _, _, rfl, ?_⟩
        exact ⟨n - (j + 1), by omega, j + 1, ⟨r', c.s + w, put c.l c.s p⟩, _, _, _, rfl, rfl, g16, gb, st2, by omega, hh.app st2, il.app _, ih.app _⟩
    · have cl : ¬ (j : Int) < n := fun z => cl (decide_eq_true z)
      exact ifF rfl ⟨_, rfl, _, rfl, two_le, fin G g (.inr (by omega))⟩
/-! ### the mirrored machine -/
def mirE : Ent → Ent
  | .emp => .emp
  | .go p w r => .go p (0 - w) r
def mirM (M : Mach) : Mach := M.map fun row => row.map mirE
theorem MOk.mir {M : Mach} {R S : Nat} (h : MOk M R S) : MOk (mirM M) R S := by
  refine ⟨h.r1, h.r4, h.s2, h.s4, by unfold mirM; rw [List.length_map]; exact h.len, fun r m => ?_, fun r m e k => ?_⟩
  · obtain ⟨r0, m0, rfl⟩ := List.mem_map.mp m
    rw [List.length_map]; exact h.row r0 m0
  · obtain ⟨r0, m0, rfl⟩ := List.mem_map.mp m
    obtain ⟨e0, k0, rfl⟩ := List.mem_map.mp k
    have o := h.ent r0 m0 e0 k0
    cases e0 with
    | emp => exact ⟨fun p w r z => nomatch z⟩
    | go p w r =>
      obtain ⟨o1, o2, o3⟩ := o.ok p w r rfl
      refine ⟨fun p' w' r' z => ?_⟩
      cases z
      exact ⟨o1, by omega, o3⟩
/-! ### freezing many things at once -/
theorem Gr.frzS {mu : Addr → Prop} {F H F1 H1 : Hp} (g : Gr mu F H F1 H1) (P : Addr → Prop) [DecidablePred P] (h : ∀ c, P c → H c = none ∧ F1 c = none) : Gr mu F H (fun c => if P c then H1 c else F1 c) H1 ∧ Same F1 (fun c => if P c then H1 c else F1 c) := by
  have s : Same F1 (fun c => if P c then H1 c else F1 c) := fun c o e => by
    by_cases p : P c
    · rw [(h c p).2] at e; cases e
    · simp only [p, if_false]; exact e
  refine ⟨⟨fun c o e => s c o (g.ff c o e), fun c o e => ?_, fun c o e => ?_, g.fr, g.th⟩, s⟩
  · by_cases p : P c
    · simp only [p, if_true] at e; exact e
    · simp only [p, if_false] at e; exact g.fh c o e
  · by_cases p : P c
    · exact .inr (h c p).1
    · simp only [p, if_false] at e; exact g.nw c o e
theorem SeO.frz {mu : Addr → Prop} {F H F1 H1 : Hp} {D : Addr} {us ps : List Addr} {yss : List (List V)} {cs : List Cfg} (x : SeO H F1 H1 D us ps yss cs) (g : Gr mu F H F1 H1) : ∃ F2, Gr mu F H F2 H1 ∧ Same F1 F2 ∧ Is F2 (.ref D) (cs.map suOf) := by
  have h : ∀ c, (c = D ∨ c ∈ ps) → H c = none ∧ F1 c = none := fun c k => by
    rcases k with rfl | k
    · exact ⟨x.ow.n, x.ow.f⟩
    · obtain ⟨ys, w⟩ := x.list k
      exact ⟨w.n, w.f⟩
  obtain ⟨g2, s⟩ := g.frzS (fun c => c = D ∨ c ∈ ps) h
  refine ⟨_, g2, s, ?_⟩
  have x2 : SeO H F1 (fun c => if c = D ∨ c ∈ ps then H1 c else F1 c) D us ps yss cs :=
    ⟨⟨x.ow.n, x.ow.f, (if_pos (.inl rfl)).trans x.ow.h⟩, x.l1, x.l2, x.l3, x.tup, fun i p ys h1 h2 => ⟨(x.lst i p ys h1 h2).n, (x.lst i p ys h1 h2).f, (if_pos (.inr (List.mem_of_getElem? h1))).trans (x.lst i p ys h1 h2).h⟩, x.dat, x.nd, x.ne⟩
  exact x2.is s
theorem run_frz {mu : Addr → Prop} {M : Mach} {n k : Nat} {c : Cfg} {F H F1 H1 : Hp} {l u v : Addr} {xs : List V} (g : Gr mu F H F1 H1) (wl : Ow H F1 H1 l (.lst xs)) (al : IsAll F1 xs (told c.l)) (wu : Ow H F1 H1 u (.tup [.int c.r, .int c.s, .ref l])) (wv : Ow H F1 H1 v (.tup [.str (dueOf M n k c).a.x, .int (dueOf M n k c).b, .ref u])) : ∃ F2, Gr mu F H F2 H1 ∧ Same F1 F2 ∧ Is F2 (.ref v) (dueOf M n k c) := by
  have h : ∀ c, (c = l ∨ c = u ∨ c = v) → H c = none ∧ F1 c = none := fun c k => by
    rcases k with rfl | rfl | rfl
    · exact ⟨wl.n, wl.f⟩
    · exact ⟨wu.n, wu.f⟩
    · exact ⟨wv.n, wv.f⟩
  obtain ⟨g2, s⟩ := g.frzS (fun c => c = l ∨ c = u ∨ c = v) h
  exact ⟨_, g2, s, run_is s ((if_pos (.inl rfl)).trans wl.h) al ((if_pos (.inr (.inl rfl))).trans wu.h) ((if_pos (.inr (.inr rfl))).trans wv.h)⟩
/-! ### strips that say the same -/
theorem told_nd {l : List PI} (h : Nd l) : Nd (told l) := nd_srt (List.Sublist.nodup (List.Sublist.map _ List.filter_sublist) h)
theorem told_len (l : List PI) : (told l).length ≤ l.length := by
  show (srt _).length ≤ _
  rw [(srt_perm _).length_eq]; exact List.length_filter_le _ _
theorem mem_told {l : List PI} {q : PI} : q ∈ told l ↔ q ∈ l ∧ q.b ≠ 0 := by
  unfold told
  rw [mem_srt, List.mem_filter]
  exact ⟨fun ⟨a, b⟩ => ⟨a, of_decide_eq_true b⟩, fun ⟨a, b⟩ => ⟨a, decide_eq_true b⟩⟩
theorem told_look {l : List PI} (h : Nd l) (x : Int) : (look (told l) x).getD 0 = (look l x).getD 0 := by
  cases e : look (told l) x with
  | some v =>
    have m := (mem_told.mp (mem_look e)).1
    have k := look_mem h m
    rw [show look l x = some v from k]
  | none =>
    cases f : look l x with
    | none => rfl
    | some v =>
      by_cases z : v = 0
      · rw [z]; rfl
      · have m : (⟨x, v⟩ : PI) ∈ told l := mem_told.mpr ⟨mem_look f, z⟩
        have k := look_mem (told_nd h) m
        rw [show look (told l) x = some v from k] at e
        cases e
theorem ZRel.of {l : List PI} (h : Nd l) : ZRel l (E.told l) := ⟨h, told_nd h, fun q m => (mem_told.mp m).2, fun x => (told_look h x).symm⟩
theorem told_put {l : List PI} (h : Nd l) (x v : Int) : told (put (told l) x v) = told (put l x v) := by
  have z2 := ZRel.of (nd_put (told_nd h) x v)
  have z1 : ZRel (put l x v) (told (put (told l) x v)) := ⟨nd_put h _ _, z2.n', z2.z, fun y => by
    rw [← z2.lk, look_put, look_put]
    split
    · rfl
    · exact (told_look h y).symm⟩
  rw [z1.told, ← z2.told]
/-! ### the mirrored machine's runs -/
def neg (q : PI) : PI := ⟨0 - q.a, q.b⟩
def mirL (l : List PI) : List PI := l.map neg
def mirC (c : Cfg) : Cfg := ⟨c.r, 0 - c.s, mirL c.l⟩
theorem look_mir (x : Int) : ∀ l : List PI, look (mirL l) (0 - x) = look l x
  | [] => rfl
  | p :: l => by
    show look (neg p :: mirL l) (0 - x) = _
    rw [look_cons, look_cons, look_mir x l]
    by_cases e : p.a = x
    · rw [if_pos e, if_pos (by show 0 - p.a = 0 - x; rw [e])]; rfl
    · rw [if_neg e, if_neg (by show ¬ 0 - p.a = 0 - x; omega)]
theorem put_mir (l : List PI) (x v : Int) : put (mirL l) (0 - x) v = mirL (put l x v) := by
  unfold put
  rw [look_any, look_any, look_mir]
  by_cases a : (look l x).isSome = true
  · rw [if_pos a, if_pos a]
    unfold mirL
    rw [List.map_map, List.map_map]
    congr 1
    funext p
    simp only [Function.comp]
    by_cases e : p.a = x
    · rw [if_pos e, if_pos (by show 0 - p.a = 0 - x; rw [e])]; rfl
    · rw [if_neg e, if_neg (by show ¬ 0 - p.a = 0 - x; omega)]
  · rw [if_neg a, if_neg a]
    unfold mirL
    rw [List.map_append]; rfl
theorem entOf_mir (M : Mach) (c : Cfg) : entOf (mirM M) (mirC c) = mirE (entOf M c) := by
  unfold entOf
  show (((mirM M)[c.r.toNat]?.getD [])[((look (mirL c.l) (0 - c.s)).getD 0).toNat]?).getD .emp = _
  rw [look_mir]
  unfold mirM
  rw [List.getElem?_map]
  cases M[c.r.toNat]? with
  | none => rfl
  | some row =>
    show ((row.map mirE)[_]?).getD .emp = mirE ((row[_]?).getD .emp)
    rw [List.getElem?_map]
    cases row[((look c.l c.s).getD 0).toNat]? <;> rfl
theorem stepC_mir (M : Mach) (c : Cfg) : stepC (mirM M) (mirC c) = (stepC M c).map mirC := by
  cases e : entOf M c with
  | emp =>
    rw [stepC_none.mpr e, stepC_none.mpr (by rw [entOf_mir, e]; rfl)]; rfl
  | go p w r =>
    have e2 : entOf (mirM M) (mirC c) = .go p (0 - w) r := by rw [entOf_mir, e]; rfl
    rw [stepC_go e, stepC_go e2]
    show some (Cfg.mk r (0 - c.s + (0 - w)) (put (mirL c.l) (0 - c.s) p)) = some (Cfg.mk r (0 - (c.s + w)) (mirL (put c.l c.s p)))
    rw [put_mir, show 0 - c.s + (0 - w) = 0 - (c.s + w) by omega]
theorem stepsC_mir (M : Mach) : ∀ k, stepsC (mirM M) k = (stepsC M k).map mirC
  | 0 => rfl
  | k + 1 => by
    show (stepsC (mirM M) k).bind _ = ((stepsC M k).bind _).map _
    rw [stepsC_mir M k]
    cases stepsC M k with
    | none => rfl
    | some c => exact stepC_mir M c
theorem Gone.mir {M : Mach} {n k : Nat} {c : Cfg} (h : Gone M n k c) : Gone (mirM M) n k (mirC c) :=
  ⟨h.le, by rw [stepsC_mir, h.stp]; rfl, h.fin.imp (fun e => by rw [stepC_mir, e]; rfl) id⟩
theorem Hist.mir {M : Mach} {k : Nat} {cs : List Cfg} (h : Hist M k cs) : Hist (mirM M) k (cs.map mirC) := by
  refine ⟨by rw [List.length_map]; exact h.1, fun i c e => ?_⟩
  rw [List.getElem?_map] at e
  cases f : cs[i]? with
  | none => rw [f] at e; cases e
  | some b =>
    rw [f] at e
    cases e
    rw [stepsC_mir, h.2 i b f]; rfl
theorem told_mir (l : List PI) : told (mirL l) = srt ((told l).map neg) := by
  have e : (mirL l).filter nz = mirL (l.filter nz) := by
    unfold mirL
    rw [List.filter_map]; rfl
  refine srt_of (srt_srt _) ?_
  show (srt ((mirL l).filter nz)).Perm _
  rw [e]
  exact (srt_perm _).trans ((srt_perm _).map neg).symm
theorem due_mir (M : Mach) (n k : Nat) (c : Cfg) : (dueOf (mirM M) n k (mirC c)).a = (dueOf M n k c).a ∧ (dueOf (mirM M) n k (mirC c)).b = (dueOf M n k c).b := by
  unfold dueOf
  rw [entOf_mir]
  cases e : entOf M c with
  | emp => exact ⟨rfl, rfl⟩
  | go p w r => exact ⟨rfl, rfl⟩
theorem IsLo.mir {cs : List Cfg} {x : Int} (h : IsLo cs x) : IsHi (cs.map mirC) (0 - x) := by
  have e : (cs.map mirC).map (·.s) = (cs.map (·.s)).map (0 - ·) := by rw [List.map_map, List.map_map]; rfl
  unfold IsHi
  rw [e]
  refine ⟨List.mem_map.mpr ⟨x, h.1, rfl⟩, fun y m => ?_⟩
  obtain ⟨z, hz, rfl⟩ := List.mem_map.mp m
  have := h.2 z hz
  omega
theorem IsHi.mir {cs : List Cfg} {x : Int} (h : IsHi cs x) : IsLo (cs.map mirC) (0 - x) := by
  have e : (cs.map mirC).map (·.s) = (cs.map (·.s)).map (0 - ·) := by rw [List.map_map, List.map_map]; rfl
  unfold IsLo
  rw [e]
  refine ⟨List.mem_map.mpr ⟨x, h.1, rfl⟩, fun y m => ?_⟩
  obtain ⟨z, hz, rfl⟩ := List.mem_map.mp m
  have := h.2 z hz
  omega
/-- a run of more steps goes on with one of fewer -/
theorem Gone.more {M : Mach} {n n' k k' : Nat} {c c' : Cfg} (a : Gone M n k c) (b : Gone M n' k' c') (l : n ≤ n') : k ≤ k' := by
  rcases Nat.lt_or_ge k' k with h | h
  · rcases b.fin with e | e
    · have z := stepsC_end b.stp e (k - (k' + 1))
      rw [show k' + 1 + (k - (k' + 1)) = k by omega, a.stp] at z
      cases z
    · have := a.le; omega
  · exact h
theorem Hist.sub {M : Mach} {k k' : Nat} {cs cs' : List Cfg} (a : Hist M k cs) (b : Hist M k' cs') (l : k ≤ k') {x : Int} (m : x ∈ cs.map (·.s)) : x ∈ cs'.map (·.s) := by
  obtain ⟨c, hc, rfl⟩ := List.mem_map.mp m
  obtain ⟨i, hi⟩ := List.getElem?_of_mem hc
  have e := a.2 i c hi
  have il := (List.getElem?_eq_some_iff.mp hi).1
  have h2 : cs'[i]? = some _ := List.getElem?_eq_getElem (by rw [b.1]; have := a.1; omega)
  have e2 := b.2 i _ h2
  rw [e] at e2
  cases e2
  exact List.mem_map.mpr ⟨_, List.mem_of_getElem? h2, rfl⟩
theorem Hist.zero {M : Mach} {k : Nat} {cs : List Cfg} (a : Hist M k cs) : (0 : Int) ∈ cs.map (·.s) := by
  have h : cs[0]? = some _ := List.getElem?_eq_getElem (by rw [a.1]; omega)
  have e : c0 = _ := Option.some.inj (a.2 0 _ h)
  exact List.mem_map.mpr ⟨_, List.mem_of_getElem? h, by rw [← e]; rfl⟩
def sp_L_mirrored : Sp := fun vs H Q _ => ∃ (F : Hp) (m : V) (M : Mach) (R S : Nat), vs = [m] ∧ Same F H ∧ Is F m M ∧ MOk M R S ∧ ∀ (F' H' : Hp) (v : V), Gr mu0 F H F' H' → Is F' v (mirM M) → Q v H'
theorem ok_L_mirrored (t : Tx K mg) : FnOk P w K mg base CX0 1 t.a_L_mirrored t.fd_L_mirrored ["_law_machine_here"] sp_L_mirrored := by
  refine t.F_L_mirrored.ok sc_L_mirrored (fun vs H Q E h => ?_) (fun cdv A outer s H vs Q E hr h => ?_)
  · obtain ⟨F, m, M, R, S, rfl, _⟩ := h
    rfl
  · obtain ⟨F, m, M, R, S, rfl, sF, hm, hM, q⟩ := h
    refine ⟨_, (pss_cons (ps_set (i := 1) sc_L_mirrored.nd rfl (by first | exact Or.inl rfl | exact Or.inr rfl) (pe_lst pa_nil))
      (pss_cons (ps_for PassesOwn.never rfl (pi_list (pv 0)) (pg_name (i := 2) sc_L_mirrored.nd rfl (by first | exact Or.inl rfl | exact Or.inr rfl)) (pss_one (ps_expr (pe_bm PySem.F.plainAttrs_list PySem.F.slot_list_append PySem.F.type_list_append mt_append (pv 1) (pa_cons (pe_lc (own := [("_law_entry", 4)]) (g := gName 4) (tt := tYes) rfl sc_L_mirrored.nd (pi_list (pv 2)) (blkOk_by (N := N_L_mirrored) (sc := defScope s_L_mirrored) (by decide +kernel)) (fun _ _ _ _ _ => (pg_name (i := 4) sc_L_mirrored.nd rfl (by first | exact Or.inl rfl | exact Or.inr rfl))) (fun _ _ _ _ _ => pts_nil) (fun _ _ _ _ _ => (pe_op (orK (K := K) (r := rCatQ) rfl op_catQ) (pe_op (orK (K := K) (r := rCatQ) rfl op_catQ) (pe_slice (slK (K := K) (r := rSlQ) rfl sl_tupQ) (pv 4) po_none (po_some pe_int)) (pe_callTy (T := "tuple") (crK (K := K) (r := rTupQ) rfl call_tupQ) (by rfl) t.n_tuple (by decide +kernel) (pa_cons (pe_lc (own := [("_law_way", 3)]) (g := gName 3) (tt := tYes) rfl sc_L_mirrored.nd (pi_tupK (K := K) rfl (pe_slice (slK (K := K) (r := rSlQ) rfl sl_tupQ) (pv 4) (po_some pe_int) (po_some pe_int))) (blkOk_by (N := N_L_mirrored) (sc := { kind := PySem.ScopeKind.function, names := [(PySem.Str.ofString ".0", PySem.NameKind.local), (PySem.Str.ofString "_law_entry", PySem.NameKind.local), (PySem.Str.ofString "tuple", PySem.NameKind.globalImplicit)], isGenerator := false, isCoroutine := false }) (by decide +kernel)) (fun _ _ _ _ _ => (pg_name (i := 3) sc_L_mirrored.nd rfl (by first | exact Or.inl rfl | exact Or.inr rfl))) (fun _ _ _ _ _ => pts_nil) (fun _ _ _ _ _ => (pe_op op_sub pe_int (pv 3)))) pa_nil))) (pe_slice (slK (K := K) (r := rSlQ) rfl sl_tupQ) (pv 4) (po_some pe_int) po_none)))) pa_nil)))))
      (pss_one (ps_ret (pv 1))))), ?_⟩
    have g0 : Gr mu0 F H F H := Gr.refl sF
    obtain ⟨am, rs, rfl, ham, hrs⟩ := id hm
    have r4 := hM.r4
    have s4 := hM.s4
    have lrs : rs.length = R := hrs.1.trans hM.len
    refine ⟨nil_le, fun D nD => ?_⟩
    have g1 := g0.own (o := .lst []) nD
    have w1 : Ow H F (upd H D (.lst [])) D (.lst []) := Ow.mk1 g0 nD
    refine ⟨_, rfl, am, rfl, ⟨_, SqL.of (g1.fh _ _ ham)⟩, for_list (K := K) (a := am) (xs := rs) (fun i σ G => ∃ (F1 : Hp) (xs : List V) (v2 v3 v4 : Option V), σ = [some (.ref am), some (.ref D), v2, v3, v4] ∧ Gr mu0 F H F1 G ∧ Ow H F1 G D (.lst xs) ∧ IsAll F1 xs (mirM (M.take i)))
      ⟨F, [], none, none, none, rfl, g1, w1, All2.nil⟩ (fun i σ G _ ⟨F1, xs, v2, v3, v4, _, g, _⟩ => SqL.of (g.fh _ _ (g.ff _ _ ham))) ?_ ?_⟩
    · rintro i x σ G hi ⟨F1, xs, v2, v3, v4, rfl, g, w, al⟩
      obtain ⟨row, hMi, ra, es, rfl, hra, hes⟩ := hrs.get' hi
      have il : i < rs.length := (List.getElem?_eq_some_iff.mp hi).1
      have ls : es.length = S := hes.1.trans (hM.row _ (List.mem_of_getElem? hMi))
      have lx : xs.length = i := by rw [al.1]; unfold mirM; rw [List.length_map, List.length_take, ← hrs.1]; omega
      -- found.append([.. for entry in row])
      refine ⟨_, rfl, .inl ⟨rfl, _, SqL.of w.h⟩, ?_⟩
      refine ⟨_, rfl, ra, rfl, ⟨_, SqL.of (g.fh _ _ (g.ff _ _ hra))⟩, fun E nE => lc_list (K := K) (a := ra) (xs := es) (fun j G2 => ∃ (F2 : Hp) (ys : List V), Gr mu0 F H F2 G2 ∧ Same F1 F2 ∧ Ow H F2 G2 D (.lst xs) ∧ Ow H F2 G2 E (.lst ys) ∧ D ≠ E ∧ IsAll F2 ys ((row.take j).map mirE))
        ⟨F1, [], g.own nE, Same.refl F1, w.own nE, Ow.mk1 g nE, w.ne nE, All2.nil⟩ (fun j G2 _ ⟨F2, ys, g2, _⟩ => SqL.of (g2.fh _ _ (g2.ff _ _ hra))) ?_ ?_⟩
      · rintro j y G2 hj ⟨F2, ys, g2, s12, wD, wE, dE, al2⟩
        obtain ⟨e, hej, ae, rfl, hae⟩ := hes.get' hj
        have jl : j < es.length := (List.getElem?_eq_some_iff.mp hj).1
        have ly : ys.length = j := by rw [al2.1, List.length_map, List.length_take, ← hes.1]; omega
        have tk : (row.take (j + 1)).map mirE = (row.take j).map mirE ++ [mirE e] := by rw [List.take_add_one, hej, List.map_append]; rfl
        have hae2 := g2.fh _ _ (g2.ff _ _ hae)
        refine ⟨rfl, yes ⟨_, rfl, ?_⟩⟩
        -- the entry comes in, in both ways
        have fin : ∀ (F3 G3 : Hp) (v : V), Gr mu0 F H F3 G3 → Gr mu0 F2 G2 F3 G3 → Is F3 v (mirE e) → ∃ acc, G3 E = some (.lst acc) ∧ acc.length < sizeLine ∧ ∃ (F2 : Hp) (ys : List V), Gr mu0 F H F2 (upd G3 E (.lst (acc ++ [v]))) ∧ Same F1 F2 ∧ Ow H F2 (upd G3 E (.lst (acc ++ [v]))) D (.lst xs) ∧ Ow H F2 (upd G3 E (.lst (acc ++ [v]))) E (.lst ys) ∧ D ≠ E ∧ IsAll F2 ys ((row.take (j + 1)).map mirE) := by
          intro F3 G3 v g3 k3 iv
          have wE3 := wE.call k3 (fun z => z)
          have wD3 := wD.call k3 (fun z => z)
          refine ⟨ys, wE3.h, lt_size (by omega), F3, ys ++ [v], g3.set wE3.f (.inl wE3.n), fun c o h => k3.ff c o (s12 c o h), wD3.other dE, wE3.set, dE, ?_⟩
          rw [tk]
          exact (al2.up k3.ff).app (All2.one iv)
        have k2 : Gr mu0 F2 G2 F2 G2 := Gr.refl g2.fh
        cases e with
        | emp =>
          have hae2 : G2 ae = some (.tup []) := hae2
          refine ⟨_, rfl, slA_all (SqT.of hae2) (by decide) ?_⟩
          refine ⟨_, rfl, _, rfl, _, rfl, slA_all (SqT.of hae2) (by decide) ⟨ae, rfl, ⟨_, SqT.of hae2⟩, fun C nC => lc_tup (K := K) (a := ae) (xs := []) (fun i G3 => i = 0 → Gr mu0 F2 G2 F2 G3 ∧ G3 C = some (.lst [])) (fun _ => ⟨k2.own nC, upd_same⟩) (fun i G3 hi hq => SqT.of ((hq (Nat.le_zero.mp hi)).1.fr _ _ hae2 fun z => z)) (fun i x G3 hx _ => by cases hx) (fun G3 hq => ?_)⟩⟩
          obtain ⟨k3, hC⟩ := hq rfl
          have h3 := k3.fr _ _ hae2 (fun z => z)
          refine ⟨C, [], rfl, .inl ⟨SqL.of hC, fun p1 np1 => ?_⟩⟩
          have k4 := k3.own (o := .tup []) np1
          have h4 := k4.fr _ _ hae2 (fun z => z)
          refine catA_nil (SqT.of h4) (SqT.of upd_same) nil_le ?_
          refine ⟨_, rfl, _, rfl, slA_all (SqT.of h4) (by decide) ?_⟩
          refine catA_nil (SqT.of upd_same) (SqT.of h4) nil_le ?_
          exact fin F2 _ (.ref ae) (g2.trans k4) k4 ⟨ae, rfl, (g2.ff _ _ hae)⟩
        | go p w r =>
          have hae2 : G2 ae = some (.tup [.int p, .int w, .int r]) := hae2
          refine ⟨_, rfl, slA_cut (SqT.of hae2) (by show ¬ (HT.sIx 3 _ _ = 0 ∧ HT.sIx 3 3 _ = 3); decide) fun p1 np1 => ?_⟩
          have k3 := k2.own (o := .tup [.int p]) np1
          have h3 := k3.fr _ _ hae2 (fun z => z)
          have h13 : (upd G2 p1 (.tup [.int p])) p1 = some (.tup [.int p]) := upd_same
          refine ⟨_, rfl, _, rfl, _, rfl, slA_cut (SqT.of h3) (by show ¬ (HT.sIx 3 _ _ = 0 ∧ HT.sIx 3 3 _ = 3); decide) fun p2 np2 => ?_⟩
          have k4 := k3.own (o := .tup [.int w]) np2
          have h14 : (upd (upd G2 p1 (.tup [.int p])) p2 (.tup [.int w])) p1 = some (.tup [.int p]) := ln (u := .tup [.int w]) np2 h13
          have h24 : (upd (upd G2 p1 (.tup [.int p])) p2 (.tup [.int w])) p2 = some (.tup [.int w]) := upd_same
          refine ⟨p2, rfl, ⟨_, SqT.of h24⟩, fun C nC => lc_tup (K := K) (a := p2) (xs := [.int w]) (fun i G3 => Gr mu0 F2 G2 F2 G3 ∧ G3 p1 = some (.tup [.int p]) ∧ Ow (upd (upd G2 p1 (.tup [.int p])) p2 (.tup [.int w])) F2 G3 C (.lst (([V.int (0 - w)]).take i)) ∧ G3 p2 = some (.tup [.int w])) ⟨k4.own nC, ln nC h14, Ow.mk1 (Gr.refl (mu := mu0) k4.fh) nC, ln nC h24⟩ (fun i G3 hi hq => SqT.of hq.2.2.2) ?_ ?_⟩
          · rintro i x G3 hi ⟨k5, h15, wC, h25⟩
            match i, hi with
            | 0, hi =>
              cases hi
              refine ⟨rfl, yes ⟨_, rfl, _, _, rfl, rfl, [], wC.h, lt_size (by decide), k5.set wC.f (.inl (k4.th _ wC.n)), ?_, wC.set, ?_⟩⟩
              · rw [upd_ne (fun z => by have n := wC.n; rw [← z, h14] at n; cases n)]; exact h15
              · rw [upd_ne (fun z => by have n := wC.n; rw [← z, h24] at n; cases n)]; exact h25
            | i + 1, hi => cases hi
          · rintro G3 ⟨k5, h15, wC, h25⟩
            have hC : G3 C = some (.lst [.int (0 - w)]) := wC.h
            refine ⟨C, _, rfl, .inl ⟨SqL.of hC, fun p3 np3 => ?_⟩⟩
            have k6 := k5.own (o := .tup [.int (0 - w)]) np3
            have h16 := ln (u := .tup [.int (0 - w)]) np3 h15
            have h36 : (upd G3 p3 (.tup [.int (0 - w)])) p3 = some (.tup [.int (0 - w)]) := upd_same
            refine catA_new (SqT.of h16) (SqT.of h36) two_le (fun z => nomatch z) (fun z => nomatch z) fun p5 np5 => ?_
            have k7 := k6.own (o := .tup [.int p, .int (0 - w)]) np5
            have h7 := k7.fr _ _ hae2 (fun z => z)
            refine ⟨_, rfl, _, rfl, slA_cut (SqT.of h7) (by show ¬ (HT.sIx 3 _ _ = 0 ∧ HT.sIx 3 3 _ = 3); decide) fun p6 np6 => ?_⟩
            have k8 := k7.own (o := .tup [.int r]) np6
            have h58 := ln (u := .tup [.int r]) np6 (upd_same (a := p5))
            refine catA_new (SqT.of h58) (SqT.of upd_same) three_le (fun z => nomatch z) (fun z => nomatch z) fun p7 np7 => ?_
            have k9 := k8.new (o := .tup [.int p, .int (0 - w), .int r]) np7
            exact fin _ _ (.ref p7) (g2.trans k9) k9 ⟨p7, rfl, upd_same⟩
      · rintro G2 ⟨F2, ys, g2, s12, wD, wE, dE, al2⟩
        rw [hes.1, List.take_length] at al2
        have g3 := g2.frz wE.h wE.n wE.f
        have wD3 : Ow H (upd F2 E (.lst ys)) G2 D (.lst xs) := ⟨wD.n, by rw [upd_ne dE]; exact wD.f, wD.h⟩
        have s3 : Same F2 (upd F2 E (.lst ys)) := sm_new (Same.refl F2) wE.f
        refine ⟨D, xs, _, rfl, rfl, wD.h, lt_size (by omega), ?_⟩
        refine ⟨_, xs ++ [.ref E], _, _, _, rfl, g3.set wD3.f (.inl wD3.n), wD3.set, ?_⟩
        have tk : mirM (M.take (i + 1)) = mirM (M.take i) ++ [row.map mirE] := by unfold mirM; rw [List.take_add_one, hMi, List.map_append]; rfl
        rw [tk]
        exact (al.up (fun c o h => s3 c o (s12 c o h))).app (All2.one ⟨E, ys, rfl, upd_same, al2.up s3⟩)
    · rintro σ G ⟨F1, xs, v2, v3, v4, rfl, g, w, al⟩
      rw [hrs.1, List.take_length] at al
      exact ⟨_, rfl, q _ _ (.ref D) (g.frz w.h w.n w.f) ⟨D, xs, rfl, upd_same, al.up (sm_new (Same.refl F1) w.f)⟩⟩
def sp_L_turned : Sp := fun vs H Q _ => ∃ (F : Hp) (v : V) (x : Setup), vs = [v] ∧ Same F H ∧ Is F v x ∧ x.c.length ≤ 100000 ∧ ∀ (F' H' : Hp) (u : V), Gr mu0 F H F' H' → Is F' u (⟨x.a, 0 - x.b, srt (x.c.map neg)⟩ : Setup) → Q u H'
theorem ok_L_turned (t : Tx K mg) : FnOk P w K mg base CX0 1 t.a_L_turned t.fd_L_turned ["_law_setup"] sp_L_turned := by
  refine t.F_L_turned.ok sc_L_turned (fun vs H Q E h => ?_) (fun cdv A outer s H vs Q E hr h => ?_)
  · obtain ⟨F, v, x, rfl, _⟩ := h
    rfl
  · obtain ⟨F, v, x, rfl, sF, hv, hl, q⟩ := h
    refine ⟨_, (pss_one (ps_ret (pe_tup (pa_cons (pe_ix ix_tup (pv 0) pe_int (fun _ _ => rfl)) (pa_cons (pe_op op_sub pe_int (pe_ix ix_tup (pv 0) pe_int (fun _ _ => rfl))) (pa_cons (pe_callB (id := "sorted") call_sortQ (by rfl) t.n_sorted (by decide +kernel) (pa_cons (pe_lc (own := [("_law_place", 1), ("_law_sign", 2)]) (tt := tYes) rfl sc_L_turned.nd (pi_list (pe_ix ix_tup (pv 0) pe_int (fun _ _ => rfl))) (blkOk_by (N := N_L_turned) (sc := defScope s_L_turned) (by decide +kernel)) (fun _ _ _ _ _ => (pg_tupK (K := K) (n := 2) rfl rfl (pgs_cons (pg_name (i := 1) sc_L_turned.nd rfl (by first | exact Or.inl rfl | exact Or.inr rfl)) (pgs_cons (pg_name (i := 2) sc_L_turned.nd rfl (by first | exact Or.inl rfl | exact Or.inr rfl)) pgs_nil)))) (fun _ _ _ _ _ => pts_nil) (fun _ _ _ _ _ => (pe_tup (pa_cons (pe_op op_sub pe_int (pv 1)) (pa_cons (pv 2) pa_nil))))) pa_nil)) pa_nil)))))), ?_⟩
    have g0 : Gr mu0 F H F H := Gr.refl sF
    obtain ⟨au, x1, x2, x3, rfl, hau, e1, e2, as, xs, rfl, has, hxs⟩ := hv
    have e1 : x1 = .int x.a := e1
    have e2 : x2 = .int x.b := e2
    subst e1
    subst e2
    have hau' := SqT.of (K := K) (sF _ _ hau)
    refine ⟨_, rfl, au, _, _, _, rfl, rfl, hau', atI_nat (j := 0) rfl, _, rfl, au, _, _, _, rfl, rfl, hau', atI_nat (j := 1) rfl, _, _, rfl, rfl, ?_⟩
    refine ⟨_, rfl, au, _, _, _, rfl, rfl, hau', atI_nat (j := 2) rfl, as, rfl, ⟨_, SqL.of (sF _ _ has)⟩, fun D nD => lc_list (K := K) (a := as) (xs := xs) (fun i G => ∃ (F1 : Hp) (ys : List V), Gr mu0 F H F1 G ∧ Ow H F1 G D (.lst ys) ∧ IsAll F1 ys ((x.c.take i).map neg))
      ⟨F, [], g0.own nD, Ow.mk1 g0 nD, All2.nil⟩ (fun i G _ ⟨F1, ys, g, _⟩ => SqL.of (g.fh _ _ (g.ff _ _ has))) ?_ ?_⟩
    · rintro i y G hi ⟨F1, ys, g, w, al⟩
      obtain ⟨d, hd, ty, y1, y2, rfl, hty, f1, f2⟩ := hxs.get' hi
      have f1 : y1 = .int d.a := f1
      have f2 : y2 = .int d.b := f2
      subst f1
      subst f2
      refine ⟨ty, _, rfl, SqT.of (g.fh _ _ (g.ff _ _ hty)), rfl, _, _, rfl, _, _, rfl, rfl, rfl, yes ⟨_, rfl, _, _, rfl, rfl, _, rfl, two_le, fun T nT => ⟨ys, (w.new nT).h, ?_, ?_⟩⟩⟩
      · rw [al.1, List.length_map, List.length_take]; exact lt_size (by omega)
      · have g1 := g.new (o := .tup [.int (0 - d.a), .int d.b]) nT
        have w1 := w.new (u := .tup [.int (0 - d.a), .int d.b]) nT
        have s1 : Same F1 (upd F1 T (.tup [.int (0 - d.a), .int d.b])) := sm_new (Same.refl F1) (g.fh.free nT)
        refine ⟨_, ys ++ [.ref T], g1.set w1.f (.inl w1.n), w1.set, ?_⟩
        rw [map_take_succ hd]
        exact (al.up s1).app (All2.one ⟨T, _, _, rfl, upd_same, rfl, rfl⟩)
    · rintro G ⟨F1, ys, g, w, al⟩
      rw [hxs.1, List.take_length] at al
      refine sort_pairs (K := K) (l := x.c.map neg) (xs := ys) g.fh al (SqL.of w.h) fun zs p np hzs => ⟨three_le, fun u nu => ?_⟩
      have g1 := g.new (o := .lst zs) np
      have n2 : (upd F1 p (.lst zs)) u = none := g1.fh.free nu
      have s1 : Same F1 (upd F1 p (.lst zs)) := sm_new (Same.refl F1) (g.fh.free np)
      exact q _ _ (.ref u) (g1.new (o := .tup [.int x.a, .int (0 - x.b), .ref p]) nu) ⟨u, _, _, _, rfl, upd_same, rfl, rfl, p, zs, rfl, ln n2 upd_same, (hzs.up s1).up (sm_new (Same.refl _) n2)⟩
def sp_law (K : PySem.W.Frag) : Sp := fun vs H Q _ => ∃ (a : Addr) (ns : List Int), vs = [.ref a] ∧ SqL K H a (ns.map V.int) ∧ ns.length ≤ 63 ∧ ∀ H', Q (.bl true) H'
theorem ok_law (t : Tx K mg) : FnOk P w K mg base CX0 5 t.a_law t.fd_law ["_law_script"] (sp_law K) := by
  refine t.F_law.ok sc_law (fun vs H Q E h => ?_) (fun cdv A outer s H vs Q E hr h => ?_)
  · obtain ⟨a, ns, rfl, _⟩ := h
    rfl
  · obtain ⟨a, ns, rfl, hS, hn, q⟩ := h
    refine ⟨_, (pss_cons (ps_set (i := 1) sc_law.nd rfl (by first | exact Or.inl rfl | exact Or.inr rfl) (pe_call (ok_L_purse t) (hr.mono (by decide)) (by rfl) t.m_L_purse t.F_L_purse.kp t.b_L_purse .nil pass0 (pa_cons (pv 0) pa_nil)))
      (pss_cons (ps_set (i := 2) sc_law.nd rfl (by first | exact Or.inl rfl | exact Or.inr rfl) (pe_call (ok_L_machine t) (hr.mono (by decide)) (by rfl) t.m_L_machine t.F_L_machine.kp t.b_L_machine .nil pass0 (pa_cons (pv 1) pa_nil)))
      (pss_cons (ps_set (i := 3) sc_law.nd rfl (by first | exact Or.inl rfl | exact Or.inr rfl) (pe_call (ok_L_draw t) (hr.mono (by decide)) (by rfl) t.m_L_draw t.F_L_draw.kp t.b_L_draw .nil pass0 (pa_cons (pv 1) (pa_cons pe_int pa_nil))))
      (pss_cons (ps_set (i := 4) sc_law.nd rfl (by first | exact Or.inl rfl | exact Or.inr rfl) (pe_op op_add (pv 3) (pe_call (ok_L_draw t) (hr.mono (by decide)) (by rfl) t.m_L_draw t.F_L_draw.kp t.b_L_draw .nil pass0 (pa_cons (pv 1) (pa_cons (pe_ix ix_list (pe_lst (pa_cons pe_int (pa_cons pe_int pa_nil))) (pe_call (ok_L_draw t) (hr.mono (by decide)) (by rfl) t.m_L_draw t.F_L_draw.kp t.b_L_draw .nil pass0 (pa_cons (pv 1) (pa_cons pe_int pa_nil))) (fun _ _ => rfl)) pa_nil)))))
      (pss_cons (ps_set (i := 5) sc_law.nd rfl (by first | exact Or.inl rfl | exact Or.inr rfl) (pe_call (ok_setups t) (hr.mono (by decide)) (by rfl) t.m_setups t.F_setups.kp t.b_setups .nil pass0 (pa_cons (pv 2) (pa_cons (pv 3) pa_nil))))
      (pss_cons (ps_for PassesOwn.never rfl (pi_zip (by rfl) t.n_zip (pa_cons (pv 5) (pa_cons (pe_slice sl_list (pv 5) (po_some pe_int) po_none) pa_nil))) (pg_tup rfl (pgs_cons (pg_name (i := 6) sc_law.nd rfl (by first | exact Or.inl rfl | exact Or.inr rfl)) (pgs_cons (pg_name (i := 7) sc_law.nd rfl (by first | exact Or.inl rfl | exact Or.inr rfl)) pgs_nil))) (pss_one (ps_if (pt_cmpR (op_neD hr.units) (pe_call (ok_stepped t) (hr.mono (by decide)) (by rfl) t.m_stepped t.F_stepped.kp t.b_stepped .nil pass0 (pa_cons (pv 2) (pa_cons (pv 6) pa_nil))) (pv 7) (nomark _)) (pss_one (ps_ret pe_bl)) pss_nil)))
      (pss_cons (ps_set (i := 8) sc_law.nd rfl (by first | exact Or.inl rfl | exact Or.inr rfl) (pe_call (ok_run t) (hr.mono (by decide)) (by rfl) t.m_run t.F_run.kp t.b_run .nil pass0 (pa_cons (pv 2) (pa_cons (pv 3) pa_nil))))
      (pss_cons (ps_if (PW.pt (pw_or (pt_cmpR (op_neD hr.units) (pe_ix ix_tup (pv 8) pe_int (fun _ _ => rfl)) (pe_ix ix_list (pv 5) (pe_un un_neg pe_int) (fun _ _ => rfl)) (nomark _)) (pw_or1 (pt_cmpR op_ne (pe_cmpR op_eq (pe_ix ix_tup (pv 8) pe_int (fun _ _ => rfl)) pe_str (nomark _)) (pe_cmpR op_isN (pe_call (ok_stepped t) (hr.mono (by decide)) (by rfl) t.m_stepped t.F_stepped.kp t.b_stepped .nil pass0 (pa_cons (pv 2) (pa_cons (pe_ix ix_list (pv 5) (pe_un un_neg pe_int) (fun _ _ => rfl)) pa_nil))) pe_non (nomark _)) (nomark _))))) (pss_one (ps_ret pe_bl)) pss_nil)
      (pss_cons (ps_if (PW.pt (pw_or (pt_cmpR op_ne (pe_ix ix_tup (pv 8) pe_int (fun _ _ => rfl)) (pe_op op_sub (pe_callB (id := "len") call_lenQ (by rfl) t.n_len (by decide +kernel) (pa_cons (pv 5) pa_nil)) pe_int) (nomark _)) (pw_or1 (PW.pt (pw_and (pt_cmpR op_eq (pe_ix ix_tup (pv 8) pe_int (fun _ _ => rfl)) pe_str (nomark _)) (pw_and1 (pt_cmpR (op_neD hr.units) (pe_call (ok_run t) (hr.mono (by decide)) (by rfl) t.m_run t.F_run.kp t.b_run .nil pass0 (pa_cons (pv 2) (pa_cons (pv 4) pa_nil))) (pv 8) (nomark _)))))))) (pss_one (ps_ret pe_bl)) pss_nil)
      (pss_cons (ps_set (i := 9) sc_law.nd rfl (by first | exact Or.inl rfl | exact Or.inr rfl) (pe_call (ok_touched t) (hr.mono (by decide)) (by rfl) t.m_touched t.F_touched.kp t.b_touched .nil pass0 (pa_cons (pv 2) (pa_cons (pv 3) pa_nil))))
      (pss_cons (ps_set (i := 10) sc_law.nd rfl (by first | exact Or.inl rfl | exact Or.inr rfl) (pe_call (ok_touched t) (hr.mono (by decide)) (by rfl) t.m_touched t.F_touched.kp t.b_touched .nil pass0 (pa_cons (pv 2) (pa_cons (pv 4) pa_nil))))
      (pss_cons (ps_if (PW.pt (pw_or (pt_cmpR op_gt (pe_ix ix_tup (pv 10) pe_int (fun _ _ => rfl)) (pe_ix ix_tup (pv 9) pe_int (fun _ _ => rfl)) (nomark _)) (pw_or (pt_cmpR op_lt (pe_ix ix_tup (pv 10) pe_int (fun _ _ => rfl)) (pe_ix ix_tup (pv 9) pe_int (fun _ _ => rfl)) (nomark _)) (pw_or (pt_cmpR op_gt (pe_ix ix_tup (pv 9) pe_int (fun _ _ => rfl)) pe_int (nomark _)) (pw_or1 (pt_cmpR op_lt (pe_ix ix_tup (pv 9) pe_int (fun _ _ => rfl)) pe_int (nomark _))))))) (pss_one (ps_ret pe_bl)) pss_nil)
      (pss_cons (ps_set (i := 11) sc_law.nd rfl (by first | exact Or.inl rfl | exact Or.inr rfl) (pe_call (ok_L_mirrored t) (hr.mono (by decide)) (by rfl) t.m_L_mirrored t.F_L_mirrored.kp t.b_L_mirrored .nil pass0 (pa_cons (pv 2) pa_nil)))
      (pss_cons (ps_if (pt_cmpR (op_neD hr.units) (pe_call (ok_setups t) (hr.mono (by decide)) (by rfl) t.m_setups t.F_setups.kp t.b_setups .nil pass0 (pa_cons (pv 11) (pa_cons (pv 3) pa_nil))) (pe_lc (own := [("_law_setup", 12)]) (g := gName 12) (tt := tYes) rfl sc_law.nd (pi_list (pv 5)) (blkOk_by (N := N_law) (sc := defScope s_law) (by decide +kernel)) (fun _ _ _ _ _ => (pg_name (i := 12) sc_law.nd rfl (by first | exact Or.inl rfl | exact Or.inr rfl))) (fun _ _ _ _ _ => pts_nil) (fun _ _ _ _ _ => (pe_call (ok_L_turned t) (hr.mono (by decide)) (by rfl) t.m_L_turned t.F_L_turned.kp t.b_L_turned .nil pass0 (pa_cons (pv 12) pa_nil)))) (nomark _)) (pss_one (ps_ret pe_bl)) pss_nil)
      (pss_one (ps_ret (pe_and (pe_cmpR (op_eqD hr.units) (pe_call (ok_touched t) (hr.mono (by decide)) (by rfl) t.m_touched t.F_touched.kp t.b_touched .nil pass0 (pa_cons (pv 11) (pa_cons (pv 4) pa_nil))) (pe_tup (pa_cons (pe_op op_sub pe_int (pe_ix ix_tup (pv 10) pe_int (fun _ _ => rfl))) (pa_cons (pe_op op_sub pe_int (pe_ix ix_tup (pv 10) pe_int (fun _ _ => rfl))) pa_nil))) (nomark _)) (pe_one (pe_cmpR (op_eqD hr.units) (pe_slice sl_tupQ (pe_call (ok_run t) (hr.mono (by decide)) (by rfl) t.m_run t.F_run.kp t.b_run .nil pass0 (pa_cons (pv 11) (pa_cons (pv 4) pa_nil))) po_none (po_some pe_int)) (pe_slice sl_tupQ (pe_call (ok_run t) (hr.mono (by decide)) (by rfl) t.m_run t.F_run.kp t.b_run .nil pass0 (pa_cons (pv 2) (pa_cons (pv 4) pa_nil))) po_none (po_some pe_int)) (nomark _)))))))))))))))))))), ?_⟩
    -- purse, machine
    refine ⟨_, rfl, a, ns, rfl, hS, hn, fun a0 b0 p H1 ha0 hb0 s1 np hp1 => ?_⟩
    refine ⟨_, rfl, H, p, a0, b0, rfl, s1, np, hp1, ha0, hb0, fun F2 H2 m rs ess M R S a1 b1 g2 hp2 ha1 hb1 hM x => ?_⟩
    obtain ⟨F3, g3, s23, hm, _, on⟩ := x.frz g2
    -- most, more
    refine ⟨_, rfl, p, a1, b1, 41, rfl, hp2, ha1, hb1, by decide, by decide, fun d1 a2 b2 d10 d11 ha2 hb2 => ?_⟩
    have g5 := (g3.drw (a := a2) (b := b2) np hp1).1
    have hp6 : (upd H2 p (PurseO a2 b2)) p = some (PurseO a2 b2) := upd_same
    generalize upd H2 p (PurseO a2 b2) = H6 at g5 hp6
    obtain ⟨n, rfl⟩ := Int.eq_ofNat_of_zero_le d10
    refine ⟨_, rfl, _, rfl, two_le, fun l6 nl6 => ?_⟩
    have g7 := g5.own (o := .lst [.int 61, .int 960]) nl6
    have hp7 := ln (u := .lst [.int 61, .int 960]) nl6 hp6
    have hl7 : (upd H6 l6 (.lst [.int 61, .int 960])) l6 = some (.lst [.int 61, .int 960]) := upd_same
    have pl : l6 ≠ p := fun z => by rw [z, hp6] at nl6; cases nl6
    generalize upd H6 l6 (.lst [.int 61, .int 960]) = H7 at g7 hp7 hl7
    refine ⟨_, rfl, p, a2, b2, 2, rfl, hp7, ha2, hb2, by decide, by decide, fun d3 a4 b4 d30 d31 ha4 hb4 => ?_⟩
    have g8 := (g7.drw (a := a4) (b := b4) np hp1).1
    obtain ⟨top, htop, ht0, ht1⟩ : ∃ top : Int, atI [V.int 61, V.int 960] d3 = some (.int top) ∧ 0 < top ∧ top ≤ 960 := by
      have h : d3 = 0 ∨ d3 = 1 := by omega
      rcases h with rfl | rfl
      · exact ⟨61, rfl, by decide, by decide⟩
      · exact ⟨960, rfl, by decide, by decide⟩
    refine ⟨l6, _, _, _, rfl, rfl, SqL.of ((upd_ne pl).trans hl7), htop, p, a4, b4, top, rfl, upd_same, ha4, hb4, ht0, by omega, fun d4 a5 b5 d40 d41 ha5 hb5 => ⟨_, _, rfl, rfl, ?_⟩⟩
    have g9 := (g8.drw (a := a5) (b := b5) np hp1).1
    generalize upd (upd H7 p (PurseO a4 b4)) p (PurseO a5 b5) = H9 at g9
    obtain ⟨e, rfl⟩ := Int.eq_ofNat_of_zero_le d40
    have hn5 : n ≤ 5000 := by omega
    have hn6 : n + e ≤ 5000 := by omega
    -- some = setups(machine, most)
    refine ⟨_, rfl, _, rfl, F3, .ref m, M, R, S, n, rfl, g9.fh, hm, hM, hn5, fun F4 H4 D us ps yss cs k c g4 go hh x => ?_⟩
    obtain ⟨F5, g5', s45, hs⟩ := x.frz g4
    have hm5 := (hm.up g5'.ff)
    obtain ⟨D', vs, eD, hD, hvs⟩ := id hs
    cases eD
    have lvs : vs.length = k + 1 := by rw [hvs.1, List.length_map, hh.1]
    have kn := go.le
    have vat : ∀ (i : Nat) v, vs[i]? = some v → ∃ c, cs[i]? = some c ∧ Is F5 v (suOf c) := fun i v h => by
      obtain ⟨d, hd, iv⟩ := hvs.get' h
      rw [List.getElem?_map] at hd
      cases hc : cs[i]? with
      | none => rw [hc] at hd; cases hd
      | some c => rw [hc] at hd; cases hd; exact ⟨c, rfl, iv⟩
    have st1000 : ∀ c' : Cfg, c'.l.length ≤ k → (suOf c').c.length ≤ 1000 := fun c' h => by
      have := told_len c'.l
      show (told c'.l).length ≤ 1000
      omega
    -- for one, other in zip(some, some[1:])
    have g0 : Gr mu0 F5 H4 F5 H4 := Gr.refl g5'.fh
    refine ⟨_, rfl, _, rfl, _, rfl, D, vs, rfl, SqL.of (g0.fh _ _ hD), fun E nE => ?_⟩
    rw [cut_1]
    have g1 := g0.new (o := .lst (vs.drop 1)) nE
    have s5 : Same F5 (upd F5 E (.lst (vs.drop 1))) := g1.ff
    have fE : (upd F5 E (.lst (vs.drop 1))) E = some (.lst (vs.drop 1)) := upd_same
    generalize upd F5 E (.lst (vs.drop 1)) = F6 at g1 s5 fE
    generalize upd H4 E (.lst (vs.drop 1)) = H6 at g1
    have hm6 := hm5.up s5
    have hD6 := s5 _ _ hD
    refine ⟨D, E, vs, vs.drop 1, rfl, SqL.of (g1.fh _ _ hD6), SqL.of (g1.fh _ _ fE), for_it (walk_zip rfl) (fun i σ G => ∃ (F : Hp) (v6 v7 : Option V), σ = [some (.ref a), some (.ref p), some (.ref m), some (.int n), some (.int (n + e)), some (.ref D), v6, v7, none, none, none, none, none] ∧ Gr mu0 F6 H6 F G)
      ⟨F6, none, none, rfl, Gr.refl g1.fh⟩ (fun i σ G _ ⟨F, _, _, _, g⟩ => ⟨SqL.of (g.fh _ _ (g.ff _ _ hD6)), SqL.of (g.fh _ _ (g.ff _ _ fE))⟩) ?_ ?_⟩
    · rintro i y σ G G' hi ⟨F, v6, v7, rfl, g⟩ ⟨T, x1, x2, rfl, nT, rfl, e1, e2⟩
      have e1 : vs[i]? = some x1 := e1
      have e2 : (vs.drop 1)[i]? = some x2 := e2
      rw [List.getElem?_drop] at e2
      obtain ⟨ci, hci, i1⟩ := vat i x1 e1
      obtain ⟨cj, hcj, i2⟩ := vat _ x2 e2
      rw [Nat.add_comm] at hcj
      have si := hh.2 i ci hci
      have sj := hh.2 _ cj hcj
      rw [stepsC_next si] at sj
      obtain ⟨oki, li⟩ := stepsC_ok hM si
      have ik : i ≤ k := by have := (List.getElem?_eq_some_iff.mp hci).1; rw [hh.1] at this; omega
      have g' := g.new (o := .tup [x1, x2]) nT
      have sT : Same F (upd F T (.tup [x1, x2])) := sm_new (Same.refl F) (g.fh.free nT)
      refine ⟨T, _, rfl, SqT.of upd_same, rfl, _, _, rfl, _, _, rfl, rfl, ?_⟩
      obtain ⟨row, er, s0, ee, eo⟩ := oki.ent' hM (ZRel.of oki.nd)
      have i1' := ((i1.up s5).up g.ff).up sT
      have i2' := ((i2.up s5).up g.ff).up sT
      generalize upd F T (.tup [x1, x2]) = Fa at g' i1' i2'
      generalize upd G T (.tup [x1, x2]) = Ga at g'
      cases he : entOf M ci with
      | emp => rw [stepC_none.mpr he] at sj; cases sj
      | go pu w r =>
        rw [stepC_go he] at sj
        cases sj
        refine ⟨_, rfl, _, rfl, Fa, .ref m, x1, M, R, S, suOf ci, row, entOf M ci, rfl, g'.fh, hm6.up g'.ff, hM, i1', told_nd oki.nd, st1000 ci (by omega), oki.r0, er, s0, ee, (fun z => by rw [he] at z; cases z), fun p' w' r' z => ?_⟩
        rw [he] at z
        cases z
        intro Fb Hb l v xs gb wl al wv
        have i3 : Is Hb (.ref v) (⟨r, ci.s + w, told (put ci.l ci.s pu)⟩ : Setup) := ⟨v, _, _, _, rfl, wv.h, rfl, rfl, l, xs, rfl, wl.h, by
          have e : told (put (suOf ci).c (suOf ci).b pu) = told (put ci.l ci.s pu) := told_put oki.nd _ _
          rw [← e]; exact al.up gb.fh⟩
        refine ⟨_, rfl, ne_dat (a := (⟨r, ci.s + w, told (put ci.l ci.s pu)⟩ : Setup)) (b := ⟨r, ci.s + w, told (put ci.l ci.s pu)⟩) i3 ((i2'.up gb.ff).up gb.fh) ⟨_, rfl, ifF (by rw [decide_eq_true rfl]; rfl) ?_⟩⟩
        exact ⟨Fb, _, _, rfl, g'.trans gb⟩
    rintro σ G ⟨F, v6, v7, rfl, g⟩
    have hmF := hm6.up g.ff
    have hDF := g.ff _ _ hD6
    have vatF : ∀ (i : Nat) v, vs[i]? = some v → ∃ c, cs[i]? = some c ∧ Is F v (suOf c) := fun i v h => by
      obtain ⟨c, h1, h2⟩ := vat i v h
      exact ⟨c, h1, (h2.up s5).up g.ff⟩
    -- found = run(machine, most)
    refine ⟨_, rfl, _, rfl, F, .ref m, M, R, S, n, rfl, g.fh, hmF, hM, hn5, fun F8 H8 l8 u8 v8 xs8 k' c' g8 go8 wl8 al8 wu8 wv8 => ?_⟩
    obtain ⟨rfl, rfl⟩ := go.uniq go8
    obtain ⟨F9, g9', s89, hf⟩ := run_frz g8 wl8 al8 wu8 wv8
    obtain ⟨v9, x1, x2, x3, e9, hv9, ew, ei, hz⟩ := hf
    cases e9
    have ew : x1 = .str (dueOf M n k c).a.x := ew
    have ei : x2 = .int (dueOf M n k c).b := ei
    subst ew
    subst ei
    rw [due_c] at hz
    have hz : Is F9 x3 (suOf c) := hz
    have ekb : (dueOf M n k c).b = k := by
      unfold dueOf
      split
      · rfl
      · rename_i h
        rcases go.fin with z | z
        · exact absurd (stepC_none.mp z) h
        · rw [z]
    have el : (!decide (V.int (dueOf M n k c).b = V.int ((vs.length : Int) - 1))) = false := by
      rw [ekb, show (vs.length : Int) - 1 = k by rw [lvs]; omega, decide_eq_true rfl]; rfl
    have hm9 := hmF.up g9'.ff
    have hD9 := g9'.ff _ _ hDF
    have g9 : Gr mu0 F9 H8 F9 H8 := Gr.refl g9'.fh
    have hvl : vs[k]? = some _ := List.getElem?_eq_getElem (by omega)
    obtain ⟨cl, hcl, hil⟩ := vatF k _ hvl
    rw [hh.last go.stp] at hcl
    cases hcl
    have hil9 := hil.up g9'.ff
    obtain ⟨okc, lc⟩ := stepsC_ok hM go.stp
    obtain ⟨row, er, s0, ee, eo⟩ := okc.ent' hM (ZRel.of okc.nd)
    -- found[2] != some[-1]
    refine ⟨_, rfl, v8, _, _, _, rfl, rfl, SqT.of (g9.fh _ _ hv9), atI_nat (j := 2) rfl, _, rfl, _, rfl, D, _, _, _, rfl, rfl, SqL.of (g9.fh _ _ hD9), at_end lvs hvl, ?_⟩
    refine ne_dat (a := suOf c) (b := suOf c) (hz.up g9.fh) (hil9.up g9.fh) ⟨_, rfl, ifF (by rw [decide_eq_true rfl]; rfl) ?_⟩
    -- (found[0] == "ends") != (stepped(machine, some[-1]) is None)
    refine ⟨_, rfl, v8, _, _, _, rfl, rfl, SqT.of (g9.fh _ _ hv9), atI_nat (j := 0) rfl, rfl, ?_⟩
    refine ⟨_, rfl, _, rfl, _, rfl, D, _, _, _, rfl, rfl, SqL.of (g9.fh _ _ hD9), at_end lvs hvl, ?_⟩
    refine ⟨F9, .ref m, _, M, R, S, suOf c, row, entOf M c, rfl, g9.fh, hm9, hM, hil9, told_nd okc.nd, st1000 c lc, okc.r0, er, s0, ee, fun he HA gA => ?A, fun pu w r he FT HT la va xsa gA wlA alA wvA => ?B⟩
    case' A =>
      have ea : (dueOf M n k c).a.x = tEnds.x := by unfold dueOf; rw [if_pos he]
      have gB := g9.trans gA
      refine ⟨rfl, rfl, _, rfl, ifF (by rw [ea]; decide +kernel) ?_⟩
      refine ⟨_, rfl, v8, _, _, _, rfl, rfl, SqT.of (gB.fh _ _ hv9), atI_nat (j := 1) rfl, _, rfl, D, _, rfl, .inl (SqL.of (gB.fh _ _ hD9)), _, _, rfl, rfl, rfl, _, rfl, ifF el ?_⟩
      refine ⟨_, rfl, v8, _, _, _, rfl, rfl, SqT.of (gB.fh _ _ hv9), atI_nat (j := 0) rfl, rfl, _, rfl, ifT (by rw [ea]; decide +kernel) ?_⟩
      refine ⟨_, rfl, _, rfl, F9, .ref m, M, R, S, n + e, rfl, gB.fh, hm9, hM, hn6, fun FT HT lT uT vT xsT k2 c2 gT go2 wlT alT wuT wvT => ?_⟩
      have goE : Gone M (n + e) k c := ⟨by omega, go.stp, .inl (stepC_none.mpr he)⟩
      obtain ⟨rfl, rfl⟩ := goE.uniq go2
      have edd : dueOf M (n + e) k c = dueOf M n k c := by unfold dueOf; rw [if_pos he, if_pos he]
      have hf9 : Is F9 (.ref v8) (dueOf M n k c) := ⟨v8, _, _, _, rfl, hv9, rfl, rfl, by rw [due_c]; exact hz⟩
      refine ⟨_, rfl, ne_dat (a := dueOf M (n + e) k c) (b := dueOf M n k c) (run_is gT.fh wlT.h alT wuT.h wvT.h) ((hf9.up gT.ff).up gT.fh) ⟨_, rfl, ifF (by rw [edd, decide_eq_true rfl]; rfl) ?_⟩⟩
      have gT := gB.trans gT
    case' B =>
      have ne : ¬ entOf M c = .emp := by rw [he]; exact fun z => nomatch z
      have ea : (dueOf M n k c).a.x = tOn.x := by unfold dueOf; rw [if_neg ne]
      have gB := g9.trans gA
      refine ⟨rfl, rfl, _, rfl, ifF (by rw [ea, decide_eq_false (p := V.ref va = V.non) (fun z => nomatch z)]; decide +kernel) ?_⟩
      refine ⟨_, rfl, v8, _, _, _, rfl, rfl, SqT.of (gB.fh _ _ (gB.ff _ _ hv9)), atI_nat (j := 1) rfl, _, rfl, D, _, rfl, .inl (SqL.of (gB.fh _ _ (gB.ff _ _ hD9))), _, _, rfl, rfl, rfl, _, rfl, ifF el ?_⟩
      refine ⟨_, rfl, v8, _, _, _, rfl, rfl, SqT.of (gB.fh _ _ (gB.ff _ _ hv9)), atI_nat (j := 0) rfl, rfl, _, rfl, ifF (by rw [ea]; decide +kernel) (ifF rfl ?_)⟩
      have gT := gB
    all_goals
      have hmT := hm9.up gT.ff
      have hDT := gT.ff _ _ hD9
      -- near, far
      refine ⟨_, rfl, _, rfl, FT, .ref m, M, R, S, n, rfl, gT.fh, hmT, hM, hn5, fun Fa Ha u1 lo1 hi1 cs1 k1 c1 ga go1 hh1 il1 ih1 iu1 => ?_⟩
      obtain ⟨rfl, rfl⟩ := go.uniq go1
      obtain rfl := hh.uniq hh1
      refine ⟨_, rfl, _, rfl, Fa, .ref m, M, R, S, n + e, rfl, ga.fh, hmT.up ga.ff, hM, hn6, fun Fb Hb u2 lo2 hi2 cs2 k2 c2 gb go2 hh2 il2 ih2 iu2 => ?_⟩
      obtain ⟨a1', y1, y2, ea1, ha1', ey1, ey2⟩ := iu1.up gb.ff
      cases ea1
      have ey1 : y1 = .int lo1 := ey1
      have ey2 : y2 = .int hi1 := ey2
      subst ey1
      subst ey2
      obtain ⟨a2', z1, z2, ea2, ha2', ez1, ez2⟩ := id iu2
      cases ea2
      have ez1 : z1 = .int lo2 := ez1
      have ez2 : z2 = .int hi2 := ez2
      subst ez1
      subst ez2
      have kk2 := go.more go2 (by omega)
      have h1 : lo2 ≤ lo1 := il2.2 _ (hh.sub hh2 kk2 il1.1)
      have h2 : hi1 ≤ hi2 := ih2.2 _ (hh.sub hh2 kk2 ih1.1)
      have h3 : lo1 ≤ 0 := il1.2 _ hh.zero
      have h4 : 0 ≤ hi1 := ih1.2 _ hh.zero
      have t1 := SqT.of (K := K) (gb.fh _ _ ha1')
      have t2 := SqT.of (K := K) (gb.fh _ _ ha2')
      refine ⟨_, rfl, u2, _, _, _, rfl, rfl, t2, atI_nat (j := 0) rfl, _, rfl, u1, _, _, _, rfl, rfl, t1, atI_nat (j := 0) rfl, _, _, rfl, rfl, _, rfl, ifF (decide_eq_false (by omega)) ?_⟩
      refine ⟨_, rfl, u2, _, _, _, rfl, rfl, t2, atI_nat (j := 1) rfl, _, rfl, u1, _, _, _, rfl, rfl, t1, atI_nat (j := 1) rfl, _, _, rfl, rfl, _, rfl, ifF (decide_eq_false (by omega)) ?_⟩
      refine ⟨_, rfl, u1, _, _, _, rfl, rfl, t1, atI_nat (j := 0) rfl, _, _, rfl, rfl, _, rfl, ifF (decide_eq_false (by omega)) ?_⟩
      refine ⟨_, rfl, u1, _, _, _, rfl, rfl, t1, atI_nat (j := 1) rfl, _, _, rfl, rfl, _, rfl, ifF (decide_eq_false (by omega)) ?_⟩
      -- mirror
      have gTb := ga.trans gb
      refine ⟨_, rfl, Fb, .ref m, M, R, S, rfl, gb.fh, hmT.up gTb.ff, hM, fun Fc Hc mv gc hmv => ?_⟩
      have hMm := hM.mir
      have gTc := gTb.trans gc
      have hDc := gTc.ff _ _ hDT
      have hmc := (hmT.up gTc.ff)
      -- setups(mirror, most) != [turned(setup) for setup in some]
      refine ⟨_, rfl, _, rfl, Fc, mv, mirM M, R, S, n, rfl, gc.fh, hmv, hMm, hn5, fun Fd Hd D3 us3 ps3 yss3 cs3 k3 c3 gd go3 hh3 x3' => ?_⟩
      obtain ⟨rfl, rfl⟩ := go.mir.uniq go3
      obtain rfl := hh.mir.uniq hh3
      have is3 := x3'.is gd.fh
      have w3 := x3'.ow
      refine ⟨_, rfl, D, rfl, ⟨_, SqL.of (gd.fh _ _ (gd.ff _ _ hDc))⟩, fun C nC => lc_list (K := K) (a := D) (xs := vs) (fun i G => ∃ (F : Hp) (xs : List V), Gr mu0 Fd Hd F G ∧ Ow Hd F G C (.lst xs) ∧ IsAll F xs ((cs.take i).map fun c => suOf (mirC c)))
        ⟨Fd, [], (Gr.refl gd.fh).own nC, Ow.mk1 (Gr.refl (mu := mu0) gd.fh) nC, All2.nil⟩ (fun i G _ ⟨F, xs, g, _⟩ => SqL.of (g.fh _ _ (g.ff _ _ (gd.ff _ _ hDc)))) ?_ ?_⟩
      · rintro i y G hi ⟨F', xs', g', w', al'⟩
        obtain ⟨ci, hci, iv⟩ := vatF i y hi
        have ivc := (((iv.up g9'.ff).up gT.ff).up gTc.ff).up gd.ff
        have il := (List.getElem?_eq_some_iff.mp hi).1
        have lci := (stepsC_ok hM (hh.2 i ci hci)).2
        have lt := told_len ci.l
        refine ⟨rfl, yes ⟨_, rfl, F', y, suOf ci, rfl, g'.fh, ivc.up g'.ff, by show (told ci.l).length ≤ 100000; omega, fun F'' H'' u g'' hu => ⟨xs', (w'.call g'' fun z => z).h, ?_, ?_⟩⟩⟩
        · rw [al'.1, List.length_map, List.length_take]; exact lt_size (by omega)
        · have w'' := w'.call g'' fun z => z
          refine ⟨F'', xs' ++ [u], (g'.trans g'').set w''.f (.inl w''.n), w''.set, ?_⟩
          rw [map_take_succ hci]
          refine (al'.up g''.ff).app (All2.one ?_)
          have e : (⟨(suOf ci).a, 0 - (suOf ci).b, srt ((suOf ci).c.map neg)⟩ : Setup) = suOf (mirC ci) := by
            show (⟨ci.r, 0 - ci.s, srt ((told ci.l).map neg)⟩ : Setup) = ⟨ci.r, 0 - ci.s, told (mirL ci.l)⟩
            rw [told_mir]
          rw [← e]
          exact hu
      rintro G2 ⟨F', xs', g', w', al'⟩
      rw [show vs.length = cs.length by rw [lvs, hh.1], List.take_length] at al'
      have is3' : Is G2 (.ref D3) ((cs.map mirC).map suOf) := is3.up fun c o h => g'.fr c o h fun z => z
      have eqm : (cs.map mirC).map suOf = cs.map fun c => suOf (mirC c) := by rw [List.map_map]; rfl
      rw [eqm] at is3'
      refine ne_dat (a := cs.map fun c => suOf (mirC c)) (b := cs.map fun c => suOf (mirC c)) is3' ⟨C, _, rfl, w'.h, al'.up g'.fh⟩ ⟨_, rfl, ifF (by rw [decide_eq_true rfl]; rfl) ?_⟩
      -- touched(mirror, more) == (0 - far[1], 0 - far[0])
      have gc' := gd.trans g'
      have hmv' := hmv.up gc'.ff
      refine ⟨_, rfl, _, rfl, F', mv, mirM M, R, S, n + e, rfl, gc'.fh, hmv', hMm, hn6, fun Fe He u4 lo4 hi4 cs4 k4 c4 ge go4 hh4 il4 ih4 iu4 => ?_⟩
      obtain ⟨rfl, rfl⟩ := go2.mir.uniq go4
      obtain rfl := hh2.mir.uniq hh4
      obtain rfl := il4.uniq ih2.mir
      obtain rfl := ih4.uniq il2.mir
      have ha2e := ge.fh _ _ (ge.ff _ _ (gc'.ff _ _ (gc.ff _ _ ha2')))
      have t2e := SqT.of (K := K) ha2e
      refine ⟨_, rfl, u2, _, _, _, rfl, rfl, t2e, atI_nat (j := 1) rfl, _, _, rfl, rfl, _, rfl, u2, _, _, _, rfl, rfl, t2e, atI_nat (j := 0) rfl, _, _, rfl, rfl, two_le, fun t0 nt0 => ?_⟩
      have gf := ge.own (o := .tup [.int (0 - hi2), .int (0 - lo2)]) nt0
      refine eq_dat (a := (⟨0 - hi2, 0 - lo2⟩ : PI)) (b := ⟨0 - hi2, 0 - lo2⟩) (iu4.up gf.fh) ⟨t0, _, _, rfl, upd_same, rfl, rfl⟩ ⟨_, rfl, ifT (decide_eq_true rfl) ?_⟩
      -- run(mirror, more)[:2] == run(machine, more)[:2]
      refine ⟨_, rfl, _, rfl, Fe, mv, mirM M, R, S, n + e, rfl, gf.fh, hmv'.up ge.ff, hMm, hn6, fun Fg Hg l5 u5 v5 xs5 k5 c5 gg go5 wl5 al5 wu5 wv5 => ?_⟩
      obtain ⟨rfl, rfl⟩ := go2.mir.uniq go5
      rw [(due_mir M (n + e) k2 c2).1, (due_mir M (n + e) k2 c2).2] at wv5
      refine ⟨_, rfl, slA_cut (SqT.of wv5.h) cut32 fun p5 np5 => ?_⟩
      have gh := gg.own (o := .tup [.str (dueOf M (n + e) k2 c2).a.x, .int (dueOf M (n + e) k2 c2).b]) np5
      have h5 : (upd Hg p5 (.tup [.str (dueOf M (n + e) k2 c2).a.x, .int (dueOf M (n + e) k2 c2).b])) p5 = some (.tup [.str (dueOf M (n + e) k2 c2).a.x, .int (dueOf M (n + e) k2 c2).b]) := upd_same
      refine ⟨_, rfl, _, rfl, Fg, .ref m, M, R, S, n + e, rfl, gh.fh, ((hmc.up gc'.ff).up ge.ff).up gg.ff, hM, hn6, fun Fi Hi l6 u6 v6 xs6 k6 c6 gi go6 wl6 al6 wu6 wv6 => ?_⟩
      obtain ⟨rfl, rfl⟩ := go2.uniq go6
      have h56 := gi.fr _ _ h5 fun z => z
      refine ⟨_, rfl, slA_cut (SqT.of wv6.h) cut32 fun p6 np6 => ?_⟩
      have h57 := ln (u := .tup [.str (dueOf M (n + e) k2 c2).a.x, .int (dueOf M (n + e) k2 c2).b]) np6 h56
      refine eq_dat (a := (⟨(dueOf M (n + e) k2 c2).a, (dueOf M (n + e) k2 c2).b⟩ : T2 TStr Int)) (b := ⟨(dueOf M (n + e) k2 c2).a, (dueOf M (n + e) k2 c2).b⟩) ⟨p5, _, _, rfl, h57, rfl, rfl⟩ ⟨p6, _, _, rfl, upd_same, rfl, rfl⟩ ?_
      rw [decide_eq_true rfl]
      exact q _

end
def all_tx {K : PySem.W.Frag} {h : Heap} {mg : Str → Option Value} {a_L_mixed a_L_purse a_L_draw a_L_machine a_is_entry a_is_machine a_must_machine a_Goer_init a_told_strip a_Goer_setup a_Goer_entry a_Goer_step a_setups a_gone a_run a_touched a_L_mirrored a_stepped a_L_turned a_law C_NoMachine C_Goer : Addr} {od_L_mixed an_L_mixed od_L_purse an_L_purse od_L_draw an_L_draw od_L_machine an_L_machine od_is_entry an_is_entry od_is_machine an_is_machine od_must_machine an_must_machine od_Goer_init an_Goer_init od_told_strip an_told_strip od_Goer_setup an_Goer_setup od_Goer_entry an_Goer_entry od_Goer_step an_Goer_step od_setups an_setups od_gone an_gone od_run an_run od_touched an_touched od_L_mirrored an_L_mirrored od_stepped an_stepped od_L_turned an_L_turned od_law an_law : Option Addr} {sl_L_mixed sl_L_purse sl_L_draw sl_L_machine sl_is_entry sl_is_machine sl_must_machine sl_Goer_init sl_told_strip sl_Goer_setup sl_Goer_entry sl_Goer_step sl_setups sl_gone sl_run sl_touched sl_L_mirrored sl_stepped sl_L_turned sl_law : Array (Option Value)} {oc_L_mixed kV_L_mixed dc_L_mixed pm_L_mixed cd_L_mixed ct_L_mixed oc_L_purse kV_L_purse dc_L_purse pm_L_purse cd_L_purse ct_L_purse oc_L_draw kV_L_draw dc_L_draw pm_L_draw cd_L_draw ct_L_draw oc_L_machine kV_L_machine dc_L_machine pm_L_machine cd_L_machine ct_L_machine oc_is_entry kV_is_entry dc_is_entry pm_is_entry cd_is_entry ct_is_entry oc_is_machine kV_is_machine dc_is_machine pm_is_machine cd_is_machine ct_is_machine oc_must_machine kV_must_machine dc_must_machine pm_must_machine cd_must_machine ct_must_machine oc_Goer_init kV_Goer_init dc_Goer_init pm_Goer_init cd_Goer_init ct_Goer_init oc_told_strip kV_told_strip dc_told_strip pm_told_strip cd_told_strip ct_told_strip oc_Goer_setup kV_Goer_setup dc_Goer_setup pm_Goer_setup cd_Goer_setup ct_Goer_setup oc_Goer_entry kV_Goer_entry dc_Goer_entry pm_Goer_entry cd_Goer_entry ct_Goer_entry oc_Goer_step kV_Goer_step dc_Goer_step pm_Goer_step cd_Goer_step ct_Goer_step oc_setups kV_setups dc_setups pm_setups cd_setups ct_setups oc_gone kV_gone dc_gone pm_gone cd_gone ct_gone oc_run kV_run dc_run pm_run cd_run ct_run oc_touched kV_touched dc_touched pm_touched cd_touched ct_touched oc_L_mirrored kV_L_mirrored dc_L_mirrored pm_L_mirrored cd_L_mirrored ct_L_mirrored oc_stepped kV_stepped dc_stepped pm_stepped cd_stepped ct_stepped oc_L_turned kV_L_turned dc_L_turned pm_L_turned cd_L_turned ct_L_turned oc_law kV_law dc_law pm_law cd_law ct_law : Value} {tk_MOST_ROWS tk_MOST_SIGNS : Tok} (X : K.In h) (G : h.Ns mainGlobals mg)
    (n_NoMachine : PySem.W.nsIn K mainGlobals "NoMachine" = some (some (.ref C_NoMachine)))
    (n_Goer : PySem.W.nsIn K mainGlobals "Goer" = some (some (.ref C_Goer)))
    (n_L_mixed : PySem.W.nsIn K mainGlobals "_law_mixed" = some (some (.ref a_L_mixed)))
    (l_L_mixed : K.lookup a_L_mixed = some ⟨oc_L_mixed, od_L_mixed, .func (PySem.W.fnOf "_law_mixed" "_law_mixed" (defArgs s_L_mixed) (defBody s_L_mixed) (defScope s_L_mixed) .none kV_L_mixed dc_L_mixed pm_L_mixed an_L_mixed cd_L_mixed ct_L_mixed), sl_L_mixed⟩)
    (c_L_mixed : PySem.W.codeIn K cd_L_mixed "_law_mixed" = true)
    (k_L_mixed : PySem.W.keepIn K (.ref a_L_mixed) = true)
    (n_L_purse : PySem.W.nsIn K mainGlobals "_law_purse" = some (some (.ref a_L_purse)))
    (l_L_purse : K.lookup a_L_purse = some ⟨oc_L_purse, od_L_purse, .func (PySem.W.fnOf "_law_purse" "_law_purse" (defArgs s_L_purse) (defBody s_L_purse) (defScope s_L_purse) .none kV_L_purse dc_L_purse pm_L_purse an_L_purse cd_L_purse ct_L_purse), sl_L_purse⟩)
    (c_L_purse : PySem.W.codeIn K cd_L_purse "_law_purse" = true)
    (k_L_purse : PySem.W.keepIn K (.ref a_L_purse) = true)
    (n_L_draw : PySem.W.nsIn K mainGlobals "_law_draw" = some (some (.ref a_L_draw)))
    (l_L_draw : K.lookup a_L_draw = some ⟨oc_L_draw, od_L_draw, .func (PySem.W.fnOf "_law_draw" "_law_draw" (defArgs s_L_draw) (defBody s_L_draw) (defScope s_L_draw) .none kV_L_draw dc_L_draw pm_L_draw an_L_draw cd_L_draw ct_L_draw), sl_L_draw⟩)
    (c_L_draw : PySem.W.codeIn K cd_L_draw "_law_draw" = true)
    (k_L_draw : PySem.W.keepIn K (.ref a_L_draw) = true)
    (n_L_machine : PySem.W.nsIn K mainGlobals "_law_machine" = some (some (.ref a_L_machine)))
    (l_L_machine : K.lookup a_L_machine = some ⟨oc_L_machine, od_L_machine, .func (PySem.W.fnOf "_law_machine" "_law_machine" (defArgs s_L_machine) (defBody s_L_machine) (defScope s_L_machine) .none kV_L_machine dc_L_machine pm_L_machine an_L_machine cd_L_machine ct_L_machine), sl_L_machine⟩)
    (c_L_machine : PySem.W.codeIn K cd_L_machine "_law_machine" = true)
    (k_L_machine : PySem.W.keepIn K (.ref a_L_machine) = true)
    (n_is_entry : PySem.W.nsIn K mainGlobals "is_entry" = some (some (.ref a_is_entry)))
    (l_is_entry : K.lookup a_is_entry = some ⟨oc_is_entry, od_is_entry, .func (PySem.W.fnOf "is_entry" "is_entry" (defArgs s_is_entry) (defBody s_is_entry) (defScope s_is_entry) .none kV_is_entry dc_is_entry pm_is_entry an_is_entry cd_is_entry ct_is_entry), sl_is_entry⟩)
    (c_is_entry : PySem.W.codeIn K cd_is_entry "is_entry" = true)
    (k_is_entry : PySem.W.keepIn K (.ref a_is_entry) = true)
    (n_is_machine : PySem.W.nsIn K mainGlobals "is_machine" = some (some (.ref a_is_machine)))
    (l_is_machine : K.lookup a_is_machine = some ⟨oc_is_machine, od_is_machine, .func (PySem.W.fnOf "is_machine" "is_machine" (defArgs s_is_machine) (defBody s_is_machine) (defScope s_is_machine) .none kV_is_machine dc_is_machine pm_is_machine an_is_machine cd_is_machine ct_is_machine), sl_is_machine⟩)
    (c_is_machine : PySem.W.codeIn K cd_is_machine "is_machine" = true)
    (k_is_machine : PySem.W.keepIn K (.ref a_is_machine) = true)
    (n_must_machine : PySem.W.nsIn K mainGlobals "must_machine" = some (some (.ref a_must_machine)))
    (l_must_machine : K.lookup a_must_machine = some ⟨oc_must_machine, od_must_machine, .func (PySem.W.fnOf "must_machine" "must_machine" (defArgs s_must_machine) (defBody s_must_machine) (defScope s_must_machine) .none kV_must_machine dc_must_machine pm_must_machine an_must_machine cd_must_machine ct_must_machine), sl_must_machine⟩)
    (c_must_machine : PySem.W.codeIn K cd_must_machine "must_machine" = true)
    (k_must_machine : PySem.W.keepIn K (.ref a_must_machine) = true)
    (n_Goer_init : PySem.W.findIn K (.ref C_Goer) "__init__" = some (some (.ref a_Goer_init)))
    (i_Goer_init : PySem.W.isFn K (.ref a_Goer_init) = true)
    (l_Goer_init : K.lookup a_Goer_init = some ⟨oc_Goer_init, od_Goer_init, .func (PySem.W.fnOf "__init__" "Goer.__init__" (defArgs s_Goer_init) (defBody s_Goer_init) (defScope s_Goer_init) .none kV_Goer_init dc_Goer_init pm_Goer_init an_Goer_init cd_Goer_init ct_Goer_init), sl_Goer_init⟩)
    (c_Goer_init : PySem.W.codeIn K cd_Goer_init "Goer.__init__" = true)
    (k_Goer_init : PySem.W.keepIn K (.ref a_Goer_init) = true)
    (n_told_strip : PySem.W.nsIn K mainGlobals "told_strip" = some (some (.ref a_told_strip)))
    (l_told_strip : K.lookup a_told_strip = some ⟨oc_told_strip, od_told_strip, .func (PySem.W.fnOf "told_strip" "told_strip" (defArgs s_told_strip) (defBody s_told_strip) (defScope s_told_strip) .none kV_told_strip dc_told_strip pm_told_strip an_told_strip cd_told_strip ct_told_strip), sl_told_strip⟩)
    (c_told_strip : PySem.W.codeIn K cd_told_strip "told_strip" = true)
    (k_told_strip : PySem.W.keepIn K (.ref a_told_strip) = true)
    (n_Goer_setup : PySem.W.findIn K (.ref C_Goer) "setup" = some (some (.ref a_Goer_setup)))
    (i_Goer_setup : PySem.W.isFn K (.ref a_Goer_setup) = true)
    (l_Goer_setup : K.lookup a_Goer_setup = some ⟨oc_Goer_setup, od_Goer_setup, .func (PySem.W.fnOf "setup" "Goer.setup" (defArgs s_Goer_setup) (defBody s_Goer_setup) (defScope s_Goer_setup) .none kV_Goer_setup dc_Goer_setup pm_Goer_setup an_Goer_setup cd_Goer_setup ct_Goer_setup), sl_Goer_setup⟩)
    (c_Goer_setup : PySem.W.codeIn K cd_Goer_setup "Goer.setup" = true)
    (k_Goer_setup : PySem.W.keepIn K (.ref a_Goer_setup) = true)
    (n_Goer_entry : PySem.W.findIn K (.ref C_Goer) "entry" = some (some (.ref a_Goer_entry)))
    (i_Goer_entry : PySem.W.isFn K (.ref a_Goer_entry) = true)
    (l_Goer_entry : K.lookup a_Goer_entry = some ⟨oc_Goer_entry, od_Goer_entry, .func (PySem.W.fnOf "entry" "Goer.entry" (defArgs s_Goer_entry) (defBody s_Goer_entry) (defScope s_Goer_entry) .none kV_Goer_entry dc_Goer_entry pm_Goer_entry an_Goer_entry cd_Goer_entry ct_Goer_entry), sl_Goer_entry⟩)
    (c_Goer_entry : PySem.W.codeIn K cd_Goer_entry "Goer.entry" = true)
    (k_Goer_entry : PySem.W.keepIn K (.ref a_Goer_entry) = true)
    (n_Goer_step : PySem.W.findIn K (.ref C_Goer) "step" = some (some (.ref a_Goer_step)))
    (i_Goer_step : PySem.W.isFn K (.ref a_Goer_step) = true)
    (l_Goer_step : K.lookup a_Goer_step = some ⟨oc_Goer_step, od_Goer_step, .func (PySem.W.fnOf "step" "Goer.step" (defArgs s_Goer_step) (defBody s_Goer_step) (defScope s_Goer_step) .none kV_Goer_step dc_Goer_step pm_Goer_step an_Goer_step cd_Goer_step ct_Goer_step), sl_Goer_step⟩)
    (c_Goer_step : PySem.W.codeIn K cd_Goer_step "Goer.step" = true)
    (k_Goer_step : PySem.W.keepIn K (.ref a_Goer_step) = true)
    (n_setups : PySem.W.nsIn K mainGlobals "setups" = some (some (.ref a_setups)))
    (l_setups : K.lookup a_setups = some ⟨oc_setups, od_setups, .func (PySem.W.fnOf "setups" "setups" (defArgs s_setups) (defBody s_setups) (defScope s_setups) .none kV_setups dc_setups pm_setups an_setups cd_setups ct_setups), sl_setups⟩)
    (c_setups : PySem.W.codeIn K cd_setups "setups" = true)
    (k_setups : PySem.W.keepIn K (.ref a_setups) = true)
    (n_gone : PySem.W.nsIn K mainGlobals "gone" = some (some (.ref a_gone)))
    (l_gone : K.lookup a_gone = some ⟨oc_gone, od_gone, .func (PySem.W.fnOf "gone" "gone" (defArgs s_gone) (defBody s_gone) (defScope s_gone) .none kV_gone dc_gone pm_gone an_gone cd_gone ct_gone), sl_gone⟩)
    (c_gone : PySem.W.codeIn K cd_gone "gone" = true)
    (k_gone : PySem.W.keepIn K (.ref a_gone) = true)
    (n_run : PySem.W.nsIn K mainGlobals "run" = some (some (.ref a_run)))
    (l_run : K.lookup a_run = some ⟨oc_run, od_run, .func (PySem.W.fnOf "run" "run" (defArgs s_run) (defBody s_run) (defScope s_run) .none kV_run dc_run pm_run an_run cd_run ct_run), sl_run⟩)
    (c_run : PySem.W.codeIn K cd_run "run" = true)
    (k_run : PySem.W.keepIn K (.ref a_run) = true)
    (n_touched : PySem.W.nsIn K mainGlobals "touched" = some (some (.ref a_touched)))
    (l_touched : K.lookup a_touched = some ⟨oc_touched, od_touched, .func (PySem.W.fnOf "touched" "touched" (defArgs s_touched) (defBody s_touched) (defScope s_touched) .none kV_touched dc_touched pm_touched an_touched cd_touched ct_touched), sl_touched⟩)
    (c_touched : PySem.W.codeIn K cd_touched "touched" = true)
    (k_touched : PySem.W.keepIn K (.ref a_touched) = true)
    (n_L_mirrored : PySem.W.nsIn K mainGlobals "_law_mirrored" = some (some (.ref a_L_mirrored)))
    (l_L_mirrored : K.lookup a_L_mirrored = some ⟨oc_L_mirrored, od_L_mirrored, .func (PySem.W.fnOf "_law_mirrored" "_law_mirrored" (defArgs s_L_mirrored) (defBody s_L_mirrored) (defScope s_L_mirrored) .none kV_L_mirrored dc_L_mirrored pm_L_mirrored an_L_mirrored cd_L_mirrored ct_L_mirrored), sl_L_mirrored⟩)
    (c_L_mirrored : PySem.W.codeIn K cd_L_mirrored "_law_mirrored" = true)
    (k_L_mirrored : PySem.W.keepIn K (.ref a_L_mirrored) = true)
    (n_stepped : PySem.W.nsIn K mainGlobals "stepped" = some (some (.ref a_stepped)))
    (l_stepped : K.lookup a_stepped = some ⟨oc_stepped, od_stepped, .func (PySem.W.fnOf "stepped" "stepped" (defArgs s_stepped) (defBody s_stepped) (defScope s_stepped) .none kV_stepped dc_stepped pm_stepped an_stepped cd_stepped ct_stepped), sl_stepped⟩)
    (c_stepped : PySem.W.codeIn K cd_stepped "stepped" = true)
    (k_stepped : PySem.W.keepIn K (.ref a_stepped) = true)
    (n_L_turned : PySem.W.nsIn K mainGlobals "_law_turned" = some (some (.ref a_L_turned)))
    (l_L_turned : K.lookup a_L_turned = some ⟨oc_L_turned, od_L_turned, .func (PySem.W.fnOf "_law_turned" "_law_turned" (defArgs s_L_turned) (defBody s_L_turned) (defScope s_L_turned) .none kV_L_turned dc_L_turned pm_L_turned an_L_turned cd_L_turned ct_L_turned), sl_L_turned⟩)
    (c_L_turned : PySem.W.codeIn K cd_L_turned "_law_turned" = true)
    (k_L_turned : PySem.W.keepIn K (.ref a_L_turned) = true)
    (n_law : PySem.W.nsIn K mainGlobals "law" = some (some (.ref a_law)))
    (l_law : K.lookup a_law = some ⟨oc_law, od_law, .func (PySem.W.fnOf "law" "law" (defArgs s_law) (defBody s_law) (defScope s_law) .none kV_law dc_law pm_law an_law cd_law ct_law), sl_law⟩)
    (c_law : PySem.W.codeIn K cd_law "law" = true)
    (k_law : PySem.W.keepIn K (.ref a_law) = true)
    (pg_Goer : PySem.W.plainGet K C_Goer Str.empty = true)
    (hd_Goer : PySem.W.hasDictIn K C_Goer = true)
    (po_Goer : PySem.W.plainOver K C_Goer = true)
    (sa_Goer : PySem.W.findIn K (.ref C_Goer) "__setattr__" = some (some (.builtin "object.__setattr__")))
    (mk_Goer : PySem.W.makesIn K C_Goer = true)
    (kc_Goer : PySem.W.keepIn K (.ref C_Goer) = true)
    (f_Goer_table : PySem.W.findIn K (.ref C_Goer) "table" = some none)
    (f_Goer_row : PySem.W.findIn K (.ref C_Goer) "row" = some none)
    (f_Goer_spot : PySem.W.findIn K (.ref C_Goer) "spot" = some none)
    (f_Goer_signs : PySem.W.findIn K (.ref C_Goer) "signs" = some none)
    (f_Goer_steps : PySem.W.findIn K (.ref C_Goer) "steps" = some none)
    (n_MOST_ROWS : PySem.W.nsIn K mainGlobals "MOST_ROWS" = some (some (.int 4 tk_MOST_ROWS)))
    (n_MOST_SIGNS : PySem.W.nsIn K mainGlobals "MOST_SIGNS" = some (some (.int 4 tk_MOST_SIGNS)))
    (z_range : PySem.W.nsIn K mainGlobals "range" = some none)
    (z_len : PySem.W.nsIn K mainGlobals "len" = some none)
    (z_abs : PySem.W.nsIn K mainGlobals "abs" = some none)
    (z_all : PySem.W.nsIn K mainGlobals "all" = some none)
    (z_dict : PySem.W.nsIn K mainGlobals "dict" = some none)
    (z_sorted : PySem.W.nsIn K mainGlobals "sorted" = some none)
    (z_min : PySem.W.nsIn K mainGlobals "min" = some none)
    (z_max : PySem.W.nsIn K mainGlobals "max" = some none)
    (z_tuple : PySem.W.nsIn K mainGlobals "tuple" = some none)
    (z_zip : PySem.W.nsIn K mainGlobals "zip" = some none) : Tx K mg where
  a_L_mixed := a_L_mixed
  fd_L_mixed := PySem.W.fnOf "_law_mixed" "_law_mixed" (defArgs s_L_mixed) (defBody s_L_mixed) (defScope s_L_mixed) .none kV_L_mixed dc_L_mixed pm_L_mixed an_L_mixed cd_L_mixed ct_L_mixed
  F_L_mixed := fun_mk l_L_mixed c_L_mixed k_L_mixed
  b_L_mixed := (fun_mk (st := s_L_mixed) l_L_mixed c_L_mixed k_L_mixed).binds (ps := ["_law_cell", "_law_k"]) fun _ _ _ _ _ _ us hl => match us, hl with | [_, _], _ => rfl
  m_L_mixed := PySem.W.mg_of X G n_L_mixed
  a_L_purse := a_L_purse
  fd_L_purse := PySem.W.fnOf "_law_purse" "_law_purse" (defArgs s_L_purse) (defBody s_L_purse) (defScope s_L_purse) .none kV_L_purse dc_L_purse pm_L_purse an_L_purse cd_L_purse ct_L_purse
  F_L_purse := fun_mk l_L_purse c_L_purse k_L_purse
  b_L_purse := (fun_mk (st := s_L_purse) l_L_purse c_L_purse k_L_purse).binds (ps := ["_law_script"]) fun _ _ _ _ _ _ us hl => match us, hl with | [_], _ => rfl
  m_L_purse := PySem.W.mg_of X G n_L_purse
  a_L_draw := a_L_draw
  fd_L_draw := PySem.W.fnOf "_law_draw" "_law_draw" (defArgs s_L_draw) (defBody s_L_draw) (defScope s_L_draw) .none kV_L_draw dc_L_draw pm_L_draw an_L_draw cd_L_draw ct_L_draw
  F_L_draw := fun_mk l_L_draw c_L_draw k_L_draw
  b_L_draw := (fun_mk (st := s_L_draw) l_L_draw c_L_draw k_L_draw).binds (ps := ["_law_purse_here", "_law_out_of"]) fun _ _ _ _ _ _ us hl => match us, hl with | [_, _], _ => rfl
  m_L_draw := PySem.W.mg_of X G n_L_draw
  a_L_machine := a_L_machine
  fd_L_machine := PySem.W.fnOf "_law_machine" "_law_machine" (defArgs s_L_machine) (defBody s_L_machine) (defScope s_L_machine) .none kV_L_machine dc_L_machine pm_L_machine an_L_machine cd_L_machine ct_L_machine
  F_L_machine := fun_mk l_L_machine c_L_machine k_L_machine
  b_L_machine := (fun_mk (st := s_L_machine) l_L_machine c_L_machine k_L_machine).binds (ps := ["_law_purse_here"]) fun _ _ _ _ _ _ us hl => match us, hl with | [_], _ => rfl
  m_L_machine := PySem.W.mg_of X G n_L_machine
  a_is_entry := a_is_entry
  fd_is_entry := PySem.W.fnOf "is_entry" "is_entry" (defArgs s_is_entry) (defBody s_is_entry) (defScope s_is_entry) .none kV_is_entry dc_is_entry pm_is_entry an_is_entry cd_is_entry ct_is_entry
  F_is_entry := fun_mk l_is_entry c_is_entry k_is_entry
  b_is_entry := (fun_mk (st := s_is_entry) l_is_entry c_is_entry k_is_entry).binds (ps := ["entry", "rows", "signs"]) fun _ _ _ _ _ _ us hl => match us, hl with | [_, _, _], _ => rfl
  m_is_entry := PySem.W.mg_of X G n_is_entry
  a_is_machine := a_is_machine
  fd_is_machine := PySem.W.fnOf "is_machine" "is_machine" (defArgs s_is_machine) (defBody s_is_machine) (defScope s_is_machine) .none kV_is_machine dc_is_machine pm_is_machine an_is_machine cd_is_machine ct_is_machine
  F_is_machine := fun_mk l_is_machine c_is_machine k_is_machine
  b_is_machine := (fun_mk (st := s_is_machine) l_is_machine c_is_machine k_is_machine).binds (ps := ["machine"]) fun _ _ _ _ _ _ us hl => match us, hl with | [_], _ => rfl
  m_is_machine := PySem.W.mg_of X G n_is_machine
  a_must_machine := a_must_machine
  fd_must_machine := PySem.W.fnOf "must_machine" "must_machine" (defArgs s_must_machine) (defBody s_must_machine) (defScope s_must_machine) .none kV_must_machine dc_must_machine pm_must_machine an_must_machine cd_must_machine ct_must_machine
  F_must_machine := fun_mk l_must_machine c_must_machine k_must_machine
  b_must_machine := (fun_mk (st := s_must_machine) l_must_machine c_must_machine k_must_machine).binds (ps := ["machine"]) fun _ _ _ _ _ _ us hl => match us, hl with | [_], _ => rfl
  m_must_machine := PySem.W.mg_of X G n_must_machine
  a_Goer_init := a_Goer_init
  fd_Goer_init := PySem.W.fnOf "__init__" "Goer.__init__" (defArgs s_Goer_init) (defBody s_Goer_init) (defScope s_Goer_init) .none kV_Goer_init dc_Goer_init pm_Goer_init an_Goer_init cd_Goer_init ct_Goer_init
  F_Goer_init := fun_mk l_Goer_init c_Goer_init k_Goer_init
  b_Goer_init := (fun_mk (st := s_Goer_init) l_Goer_init c_Goer_init k_Goer_init).binds (ps := ["self", "machine", "setup"]) fun _ _ _ _ _ _ us hl => match us, hl with | [_, _, _], _ => rfl
  a_told_strip := a_told_strip
  fd_told_strip := PySem.W.fnOf "told_strip" "told_strip" (defArgs s_told_strip) (defBody s_told_strip) (defScope s_told_strip) .none kV_told_strip dc_told_strip pm_told_strip an_told_strip cd_told_strip ct_told_strip
  F_told_strip := fun_mk l_told_strip c_told_strip k_told_strip
  b_told_strip := (fun_mk (st := s_told_strip) l_told_strip c_told_strip k_told_strip).binds (ps := ["signs"]) fun _ _ _ _ _ _ us hl => match us, hl with | [_], _ => rfl
  m_told_strip := PySem.W.mg_of X G n_told_strip
  a_Goer_setup := a_Goer_setup
  fd_Goer_setup := PySem.W.fnOf "setup" "Goer.setup" (defArgs s_Goer_setup) (defBody s_Goer_setup) (defScope s_Goer_setup) .none kV_Goer_setup dc_Goer_setup pm_Goer_setup an_Goer_setup cd_Goer_setup ct_Goer_setup
  F_Goer_setup := fun_mk l_Goer_setup c_Goer_setup k_Goer_setup
  b_Goer_setup := (fun_mk (st := s_Goer_setup) l_Goer_setup c_Goer_setup k_Goer_setup).binds (ps := ["self"]) fun _ _ _ _ _ _ us hl => match us, hl with | [_], _ => rfl
  a_Goer_entry := a_Goer_entry
  fd_Goer_entry := PySem.W.fnOf "entry" "Goer.entry" (defArgs s_Goer_entry) (defBody s_Goer_entry) (defScope s_Goer_entry) .none kV_Goer_entry dc_Goer_entry pm_Goer_entry an_Goer_entry cd_Goer_entry ct_Goer_entry
  F_Goer_entry := fun_mk l_Goer_entry c_Goer_entry k_Goer_entry
  b_Goer_entry := (fun_mk (st := s_Goer_entry) l_Goer_entry c_Goer_entry k_Goer_entry).binds (ps := ["self"]) fun _ _ _ _ _ _ us hl => match us, hl with | [_], _ => rfl
  a_Goer_step := a_Goer_step
  fd_Goer_step := PySem.W.fnOf "step" "Goer.step" (defArgs s_Goer_step) (defBody s_Goer_step) (defScope s_Goer_step) .none kV_Goer_step dc_Goer_step pm_Goer_step an_Goer_step cd_Goer_step ct_Goer_step
  F_Goer_step := fun_mk l_Goer_step c_Goer_step k_Goer_step
  b_Goer_step := (fun_mk (st := s_Goer_step) l_Goer_step c_Goer_step k_Goer_step).binds (ps := ["self"]) fun _ _ _ _ _ _ us hl => match us, hl with | [_], _ => rfl
  a_setups := a_setups
  fd_setups := PySem.W.fnOf "setups" "setups" (defArgs s_setups) (defBody s_setups) (defScope s_setups) .none kV_setups dc_setups pm_setups an_setups cd_setups ct_setups
  F_setups := fun_mk l_setups c_setups k_setups
  b_setups := (fun_mk (st := s_setups) l_setups c_setups k_setups).binds (ps := ["machine", "most"]) fun _ _ _ _ _ _ us hl => match us, hl with | [_, _], _ => rfl
  m_setups := PySem.W.mg_of X G n_setups
  a_gone := a_gone
  fd_gone := PySem.W.fnOf "gone" "gone" (defArgs s_gone) (defBody s_gone) (defScope s_gone) .none kV_gone dc_gone pm_gone an_gone cd_gone ct_gone
  F_gone := fun_mk l_gone c_gone k_gone
  b_gone := (fun_mk (st := s_gone) l_gone c_gone k_gone).binds (ps := ["machine", "most"]) fun _ _ _ _ _ _ us hl => match us, hl with | [_, _], _ => rfl
  m_gone := PySem.W.mg_of X G n_gone
  a_run := a_run
  fd_run := PySem.W.fnOf "run" "run" (defArgs s_run) (defBody s_run) (defScope s_run) .none kV_run dc_run pm_run an_run cd_run ct_run
  F_run := fun_mk l_run c_run k_run
  b_run := (fun_mk (st := s_run) l_run c_run k_run).binds (ps := ["machine", "most"]) fun _ _ _ _ _ _ us hl => match us, hl with | [_, _], _ => rfl
  m_run := PySem.W.mg_of X G n_run
  a_touched := a_touched
  fd_touched := PySem.W.fnOf "touched" "touched" (defArgs s_touched) (defBody s_touched) (defScope s_touched) .none kV_touched dc_touched pm_touched an_touched cd_touched ct_touched
  F_touched := fun_mk l_touched c_touched k_touched
  b_touched := (fun_mk (st := s_touched) l_touched c_touched k_touched).binds (ps := ["machine", "most"]) fun _ _ _ _ _ _ us hl => match us, hl with | [_, _], _ => rfl
  m_touched := PySem.W.mg_of X G n_touched
  a_L_mirrored := a_L_mirrored
  fd_L_mirrored := PySem.W.fnOf "_law_mirrored" "_law_mirrored" (defArgs s_L_mirrored) (defBody s_L_mirrored) (defScope s_L_mirrored) .none kV_L_mirrored dc_L_mirrored pm_L_mirrored an_L_mirrored cd_L_mirrored ct_L_mirrored
  F_L_mirrored := fun_mk l_L_mirrored c_L_mirrored k_L_mirrored
  b_L_mirrored := (fun_mk (st := s_L_mirrored) l_L_mirrored c_L_mirrored k_L_mirrored).binds (ps := ["_law_machine_here"]) fun _ _ _ _ _ _ us hl => match us, hl with | [_], _ => rfl
  m_L_mirrored := PySem.W.mg_of X G n_L_mirrored
  a_stepped := a_stepped
  fd_stepped := PySem.W.fnOf "stepped" "stepped" (defArgs s_stepped) (defBody s_stepped) (defScope s_stepped) .none kV_stepped dc_stepped pm_stepped an_stepped cd_stepped ct_stepped
  F_stepped := fun_mk l_stepped c_stepped k_stepped
  b_stepped := (fun_mk (st := s_stepped) l_stepped c_stepped k_stepped).binds (ps := ["machine", "setup"]) fun _ _ _ _ _ _ us hl => match us, hl with | [_, _], _ => rfl
  m_stepped := PySem.W.mg_of X G n_stepped
  a_L_turned := a_L_turned
  fd_L_turned := PySem.W.fnOf "_law_turned" "_law_turned" (defArgs s_L_turned) (defBody s_L_turned) (defScope s_L_turned) .none kV_L_turned dc_L_turned pm_L_turned an_L_turned cd_L_turned ct_L_turned
  F_L_turned := fun_mk l_L_turned c_L_turned k_L_turned
  b_L_turned := (fun_mk (st := s_L_turned) l_L_turned c_L_turned k_L_turned).binds (ps := ["_law_setup"]) fun _ _ _ _ _ _ us hl => match us, hl with | [_], _ => rfl
  m_L_turned := PySem.W.mg_of X G n_L_turned
  a_law := a_law
  fd_law := PySem.W.fnOf "law" "law" (defArgs s_law) (defBody s_law) (defScope s_law) .none kV_law dc_law pm_law an_law cd_law ct_law
  F_law := fun_mk l_law c_law k_law
  b_law := (fun_mk (st := s_law) l_law c_law k_law).binds (ps := ["_law_script"]) fun _ _ _ _ _ _ us hl => match us, hl with | [_], _ => rfl
  m_law := PySem.W.mg_of X G n_law
  C_NoMachine := C_NoMachine
  m_NoMachine := PySem.W.mg_of X G n_NoMachine
  C_Goer := C_Goer
  m_Goer := PySem.W.mg_of X G n_Goer
  cl_Goer := ⟨pg_Goer, hd_Goer, po_Goer, sa_Goer⟩
  M_Goer := ⟨mk_Goer, n_Goer_init, i_Goer_init, kc_Goer⟩
  M_Goer_entry := ⟨n_Goer_entry, i_Goer_entry, k_Goer_entry⟩
  M_Goer_step := ⟨n_Goer_step, i_Goer_step, k_Goer_step⟩
  M_Goer_setup := ⟨n_Goer_setup, i_Goer_setup, k_Goer_setup⟩
  nA_Goer_table := f_Goer_table
  nA_Goer_row := f_Goer_row
  nA_Goer_spot := f_Goer_spot
  nA_Goer_signs := f_Goer_signs
  nA_Goer_steps := f_Goer_steps
  tk_MOST_ROWS := tk_MOST_ROWS
  m_MOST_ROWS := PySem.W.mg_of X G n_MOST_ROWS
  tk_MOST_SIGNS := tk_MOST_SIGNS
  m_MOST_SIGNS := PySem.W.mg_of X G n_MOST_SIGNS
  n_range := PySem.W.mg_none_of X G z_range
  n_len := PySem.W.mg_none_of X G z_len
  n_abs := PySem.W.mg_none_of X G z_abs
  n_all := PySem.W.mg_none_of X G z_all
  n_dict := PySem.W.mg_none_of X G z_dict
  n_sorted := PySem.W.mg_none_of X G z_sorted
  n_min := PySem.W.mg_none_of X G z_min
  n_max := PySem.W.mg_none_of X G z_max
  n_tuple := PySem.W.mg_none_of X G z_tuple
  n_zip := PySem.W.mg_none_of X G z_zip
theorem all_mk {l : PySem.W.OpenLaw} {w : World} {K : PySem.W.Frag} {h : Heap} {mg : Str → Option Value} {fa : Addr} (X : K.In h) (G : h.Ns mainGlobals mg) (hfa : mg "law" = some (.ref fa)) (t : Tx K mg)
    (hb : ∃ (kV dc pm : Value) (an : Option Addr) (cd ct : Value), t.fd_law = PySem.W.fnOf "law" "law" (defArgs s_law) (defBody s_law) (defScope s_law) .none kV dc pm an cd ct) :
    ∃ fd : FuncData, (∀ (s : Shared) (v : Value), BindsTo s fd ⟨[v], []⟩ [("_law_script", v)]) ∧ ∀ base : Heap, K.In base → base.Ns mainGlobals mg → FnOk l.prog w K mg base CX0 5 fa fd ["_law_script"] (sp_law K) := by
  have e := hfa.symm.trans t.m_law
  cases e
  refine ⟨t.fd_law, fun s v => ?_, fun base _ _ => ok_law t⟩
  obtain ⟨kV, dc, pm, an, cd, ct, e⟩ := hb
  rw [e]
  exact .of_eq rfl
theorem walk {l : PySem.W.OpenLaw} {q : Program} {loose : List Str} {XP : (Str → Option Value) → Heap → Prop} {YP : World → Heap → Prop} {d : DefRec} {K : Params → PySem.W.Frag} (hn : l.most = some 63) (hdf : d.params.defaults = [])
    (hY : ∀ (w : World) (h : Heap), YP w h → (K w.params).In h)
    (F : ∀ (w : World) (mg : Str → Option Value) (fa : Addr) (h : Heap), (K w.params).In h → h.Ns mainGlobals mg → mg d.name = some (.ref fa) →
      ∃ fd : FuncData, (∀ (s : Shared) (u : Value), BindsTo s fd ⟨[u], []⟩ [("_law_script", u)]) ∧ ∀ base : Heap, (K w.params).In base → base.Ns mainGlobals mg → FnOk l.prog w (K w.params) mg base CX0 5 fa fd ["_law_script"] (sp_law (K w.params))) :
    PySem.W.WalkO q loose XP YP l.row.toRowW d [] (fun f vs => PySem.call f vs) :=
  L2.walk_of (n := 63) (k := 5) (x := "_law_script") (CX := fun _ => CX0) (sp := fun w => sp_law (K w.params)) hn (by decide) hdf ⟨rfl, by decide, by decide⟩ hY F (fun _ _ a ns hl _ hS => ⟨a, ns, rfl, hS, hl, fun _ => rfl⟩) fun _ _ _ _ _ z => z
theorem all_go {l : PySem.W.OpenLaw} {w : World} {K : PySem.W.Frag} {h : Heap} {mg : Str → Option Value} {fa : Addr} {a_L_mixed a_L_purse a_L_draw a_L_machine a_is_entry a_is_machine a_must_machine a_Goer_init a_told_strip a_Goer_setup a_Goer_entry a_Goer_step a_setups a_gone a_run a_touched a_L_mirrored a_stepped a_L_turned a_law C_NoMachine C_Goer : Addr} {od_L_mixed an_L_mixed od_L_purse an_L_purse od_L_draw an_L_draw od_L_machine an_L_machine od_is_entry an_is_entry od_is_machine an_is_machine od_must_machine an_must_machine od_Goer_init an_Goer_init od_told_strip an_told_strip od_Goer_setup an_Goer_setup od_Goer_entry an_Goer_entry od_Goer_step an_Goer_step od_setups an_setups od_gone an_gone od_run an_run od_touched an_touched od_L_mirrored an_L_mirrored od_stepped an_stepped od_L_turned an_L_turned od_law an_law : Option Addr} {sl_L_mixed sl_L_purse sl_L_draw sl_L_machine sl_is_entry sl_is_machine sl_must_machine sl_Goer_init sl_told_strip sl_Goer_setup sl_Goer_entry sl_Goer_step sl_setups sl_gone sl_run sl_touched sl_L_mirrored sl_stepped sl_L_turned sl_law : Array (Option Value)} {oc_L_mixed kV_L_mixed dc_L_mixed pm_L_mixed cd_L_mixed ct_L_mixed oc_L_purse kV_L_purse dc_L_purse pm_L_purse cd_L_purse ct_L_purse oc_L_draw kV_L_draw dc_L_draw pm_L_draw cd_L_draw ct_L_draw oc_L_machine kV_L_machine dc_L_machine pm_L_machine cd_L_machine ct_L_machine oc_is_entry kV_is_entry dc_is_entry pm_is_entry cd_is_entry ct_is_entry oc_is_machine kV_is_machine dc_is_machine pm_is_machine cd_is_machine ct_is_machine oc_must_machine kV_must_machine dc_must_machine pm_must_machine cd_must_machine ct_must_machine oc_Goer_init kV_Goer_init dc_Goer_init pm_Goer_init cd_Goer_init ct_Goer_init oc_told_strip kV_told_strip dc_told_strip pm_told_strip cd_told_strip ct_told_strip oc_Goer_setup kV_Goer_setup dc_Goer_setup pm_Goer_setup cd_Goer_setup ct_Goer_setup oc_Goer_entry kV_Goer_entry dc_Goer_entry pm_Goer_entry cd_Goer_entry ct_Goer_entry oc_Goer_step kV_Goer_step dc_Goer_step pm_Goer_step cd_Goer_step ct_Goer_step oc_setups kV_setups dc_setups pm_setups cd_setups ct_setups oc_gone kV_gone dc_gone pm_gone cd_gone ct_gone oc_run kV_run dc_run pm_run cd_run ct_run oc_touched kV_touched dc_touched pm_touched cd_touched ct_touched oc_L_mirrored kV_L_mirrored dc_L_mirrored pm_L_mirrored cd_L_mirrored ct_L_mirrored oc_stepped kV_stepped dc_stepped pm_stepped cd_stepped ct_stepped oc_L_turned kV_L_turned dc_L_turned pm_L_turned cd_L_turned ct_L_turned oc_law kV_law dc_law pm_law cd_law ct_law : Value} {tk_MOST_ROWS tk_MOST_SIGNS : Tok} (X : K.In h) (G : h.Ns mainGlobals mg) (hfa : mg "law" = some (.ref fa))
    (n_NoMachine : PySem.W.nsIn K mainGlobals "NoMachine" = some (some (.ref C_NoMachine)))
    (n_Goer : PySem.W.nsIn K mainGlobals "Goer" = some (some (.ref C_Goer)))
    (n_L_mixed : PySem.W.nsIn K mainGlobals "_law_mixed" = some (some (.ref a_L_mixed)))
    (l_L_mixed : K.lookup a_L_mixed = some ⟨oc_L_mixed, od_L_mixed, .func (PySem.W.fnOf "_law_mixed" "_law_mixed" (defArgs s_L_mixed) (defBody s_L_mixed) (defScope s_L_mixed) .none kV_L_mixed dc_L_mixed pm_L_mixed an_L_mixed cd_L_mixed ct_L_mixed), sl_L_mixed⟩)
    (c_L_mixed : PySem.W.codeIn K cd_L_mixed "_law_mixed" = true)
    (k_L_mixed : PySem.W.keepIn K (.ref a_L_mixed) = true)
    (n_L_purse : PySem.W.nsIn K mainGlobals "_law_purse" = some (some (.ref a_L_purse)))
    (l_L_purse : K.lookup a_L_purse = some ⟨oc_L_purse, od_L_purse, .func (PySem.W.fnOf "_law_purse" "_law_purse" (defArgs s_L_purse) (defBody s_L_purse) (defScope s_L_purse) .none kV_L_purse dc_L_purse pm_L_purse an_L_purse cd_L_purse ct_L_purse), sl_L_purse⟩)
    (c_L_purse : PySem.W.codeIn K cd_L_purse "_law_purse" = true)
    (k_L_purse : PySem.W.keepIn K (.ref a_L_purse) = true)
    (n_L_draw : PySem.W.nsIn K mainGlobals "_law_draw" = some (some (.ref a_L_draw)))
    (l_L_draw : K.lookup a_L_draw = some ⟨oc_L_draw, od_L_draw, .func (PySem.W.fnOf "_law_draw" "_law_draw" (defArgs s_L_draw) (defBody s_L_draw) (defScope s_L_draw) .none kV_L_draw dc_L_draw pm_L_draw an_L_draw cd_L_draw ct_L_draw), sl_L_draw⟩)
    (c_L_draw : PySem.W.codeIn K cd_L_draw "_law_draw" = true)
    (k_L_draw : PySem.W.keepIn K (.ref a_L_draw) = true)
    (n_L_machine : PySem.W.nsIn K mainGlobals "_law_machine" = some (some (.ref a_L_machine)))
    (l_L_machine : K.lookup a_L_machine = some ⟨oc_L_machine, od_L_machine, .func (PySem.W.fnOf "_law_machine" "_law_machine" (defArgs s_L_machine) (defBody s_L_machine) (defScope s_L_machine) .none kV_L_machine dc_L_machine pm_L_machine an_L_machine cd_L_machine ct_L_machine), sl_L_machine⟩)
    (c_L_machine : PySem.W.codeIn K cd_L_machine "_law_machine" = true)
    (k_L_machine : PySem.W.keepIn K (.ref a_L_machine) = true)
    (n_is_entry : PySem.W.nsIn K mainGlobals "is_entry" = some (some (.ref a_is_entry)))
    (l_is_entry : K.lookup a_is_entry = some ⟨oc_is_entry, od_is_entry, .func (PySem.W.fnOf "is_entry" "is_entry" (defArgs s_is_entry) (defBody s_is_entry) (defScope s_is_entry) .none kV_is_entry dc_is_entry pm_is_entry an_is_entry cd_is_entry ct_is_entry), sl_is_entry⟩)
    (c_is_entry : PySem.W.codeIn K cd_is_entry "is_entry" = true)
    (k_is_entry : PySem.W.keepIn K (.ref a_is_entry) = true)
    (n_is_machine : PySem.W.nsIn K mainGlobals "is_machine" = some (some (.ref a_is_machine)))
    (l_is_machine : K.lookup a_is_machine = some ⟨oc_is_machine, od_is_machine, .func (PySem.W.fnOf "is_machine" "is_machine" (defArgs s_is_machine) (defBody s_is_machine) (defScope s_is_machine) .none kV_is_machine dc_is_machine pm_is_machine an_is_machine cd_is_machine ct_is_machine), sl_is_machine⟩)
    (c_is_machine : PySem.W.codeIn K cd_is_machine "is_machine" = true)
    (k_is_machine : PySem.W.keepIn K (.ref a_is_machine) = true)
    (n_must_machine : PySem.W.nsIn K mainGlobals "must_machine" = some (some (.ref a_must_machine)))
    (l_must_machine : K.lookup a_must_machine = some ⟨oc_must_machine, od_must_machine, .func (PySem.W.fnOf "must_machine" "must_machine" (defArgs s_must_machine) (defBody s_must_machine) (defScope s_must_machine) .none kV_must_machine dc_must_machine pm_must_machine an_must_machine cd_must_machine ct_must_machine), sl_must_machine⟩)
    (c_must_machine : PySem.W.codeIn K cd_must_machine "must_machine" = true)
    (k_must_machine : PySem.W.keepIn K (.ref a_must_machine) = true)
    (n_Goer_init : PySem.W.findIn K (.ref C_Goer) "__init__" = some (some (.ref a_Goer_init)))
    (i_Goer_init : PySem.W.isFn K (.ref a_Goer_init) = true)
    (l_Goer_init : K.lookup a_Goer_init = some ⟨oc_Goer_init, od_Goer_init, .func (PySem.W.fnOf "__init__" "Goer.__init__" (defArgs s_Goer_init) (defBody s_Goer_init) (defScope s_Goer_init) .none kV_Goer_init dc_Goer_init pm_Goer_init an_Goer_init cd_Goer_init ct_Goer_init), sl_Goer_init⟩)
    (c_Goer_init : PySem.W.codeIn K cd_Goer_init "Goer.__init__" = true)
    (k_Goer_init : PySem.W.keepIn K (.ref a_Goer_init) = true)
    (n_told_strip : PySem.W.nsIn K mainGlobals "told_strip" = some (some (.ref a_told_strip)))
    (l_told_strip : K.lookup a_told_strip = some ⟨oc_told_strip, od_told_strip, .func (PySem.W.fnOf "told_strip" "told_strip" (defArgs s_told_strip) (defBody s_told_strip) (defScope s_told_strip) .none kV_told_strip dc_told_strip pm_told_strip an_told_strip cd_told_strip ct_told_strip), sl_told_strip⟩)
    (c_told_strip : PySem.W.codeIn K cd_told_strip "told_strip" = true)
    (k_told_strip : PySem.W.keepIn K (.ref a_told_strip) = true)
    (n_Goer_setup : PySem.W.findIn K (.ref C_Goer) "setup" = some (some (.ref a_Goer_setup)))
    (i_Goer_setup : PySem.W.isFn K (.ref a_Goer_setup) = true)
    (l_Goer_setup : K.lookup a_Goer_setup = some ⟨oc_Goer_setup, od_Goer_setup, .func (PySem.W.fnOf "setup" "Goer.setup" (defArgs s_Goer_setup) (defBody s_Goer_setup) (defScope s_Goer_setup) .none kV_Goer_setup dc_Goer_setup pm_Goer_setup an_Goer_setup cd_Goer_setup ct_Goer_setup), sl_Goer_setup⟩)
    (c_Goer_setup : PySem.W.codeIn K cd_Goer_setup "Goer.setup" = true)
    (k_Goer_setup : PySem.W.keepIn K (.ref a_Goer_setup) = true)
    (n_Goer_entry : PySem.W.findIn K (.ref C_Goer) "entry" = some (some (.ref a_Goer_entry)))
    (i_Goer_entry : PySem.W.isFn K (.ref a_Goer_entry) = true)
    (l_Goer_entry : K.lookup a_Goer_entry = some ⟨oc_Goer_entry, od_Goer_entry, .func (PySem.W.fnOf "entry" "Goer.entry" (defArgs s_Goer_entry) (defBody s_Goer_entry) (defScope s_Goer_entry) .none kV_Goer_entry dc_Goer_entry pm_Goer_entry an_Goer_entry cd_Goer_entry ct_Goer_entry), sl_Goer_entry⟩)
    (c_Goer_entry : PySem.W.codeIn K cd_Goer_entry "Goer.entry" = true)
    (k_Goer_entry : PySem.W.keepIn K (.ref a_Goer_entry) = true)
    (n_Goer_step : PySem.W.findIn K (.ref C_Goer) "step" = some (some (.ref a_Goer_step)))
    (i_Goer_step : PySem.W.isFn K (.ref a_Goer_step) = true)
    (l_Goer_step : K.lookup a_Goer_step = some ⟨oc_Goer_step, od_Goer_step, .func (PySem.W.fnOf "step" "Goer.step" (defArgs s_Goer_step) (defBody s_Goer_step) (defScope s_Goer_step) .none kV_Goer_step dc_Goer_step pm_Goer_step an_Goer_step cd_Goer_step ct_Goer_step), sl_Goer_step⟩)
    (c_Goer_step : PySem.W.codeIn K cd_Goer_step "Goer.step" = true)
    (k_Goer_step : PySem.W.keepIn K (.ref a_Goer_step) = true)
    (n_setups : PySem.W.nsIn K mainGlobals "setups" = some (some (.ref a_setups)))
    (l_setups : K.lookup a_setups = some ⟨oc_setups, od_setups, .func (PySem.W.fnOf "setups" "setups" (defArgs s_setups) (defBody s_setups) (defScope s_setups) .none kV_setups dc_setups pm_setups an_setups cd_setups ct_setups), sl_setups⟩)
    (c_setups : PySem.W.codeIn K cd_setups "setups" = true)
    (k_setups : PySem.W.keepIn K (.ref a_setups) = true)
    (n_gone : PySem.W.nsIn K mainGlobals "gone" = some (some (.ref a_gone)))
    (l_gone : K.lookup a_gone = some ⟨oc_gone, od_gone, .func (PySem.W.fnOf "gone" "gone" (defArgs s_gone) (defBody s_gone) (defScope s_gone) .none kV_gone dc_gone pm_gone an_gone cd_gone ct_gone), sl_gone⟩)
    (c_gone : PySem.W.codeIn K cd_gone "gone" = true)
    (k_gone : PySem.W.keepIn K (.ref a_gone) = true)
    (n_run : PySem.W.nsIn K mainGlobals "run" = some (some (.ref a_run)))
    (l_run : K.lookup a_run = some ⟨oc_run, od_run, .func (PySem.W.fnOf "run" "run" (defArgs s_run) (defBody s_run) (defScope s_run) .none kV_run dc_run pm_run an_run cd_run ct_run), sl_run⟩)
    (c_run : PySem.W.codeIn K cd_run "run" = true)
    (k_run : PySem.W.keepIn K (.ref a_run) = true)
    (n_touched : PySem.W.nsIn K mainGlobals "touched" = some (some (.ref a_touched)))
    (l_touched : K.lookup a_touched = some ⟨oc_touched, od_touched, .func (PySem.W.fnOf "touched" "touched" (defArgs s_touched) (defBody s_touched) (defScope s_touched) .none kV_touched dc_touched pm_touched an_touched cd_touched ct_touched), sl_touched⟩)
    (c_touched : PySem.W.codeIn K cd_touched "touched" = true)
    (k_touched : PySem.W.keepIn K (.ref a_touched) = true)
    (n_L_mirrored : PySem.W.nsIn K mainGlobals "_law_mirrored" = some (some (.ref a_L_mirrored)))
    (l_L_mirrored : K.lookup a_L_mirrored = some ⟨oc_L_mirrored, od_L_mirrored, .func (PySem.W.fnOf "_law_mirrored" "_law_mirrored" (defArgs s_L_mirrored) (defBody s_L_mirrored) (defScope s_L_mirrored) .none kV_L_mirrored dc_L_mirrored pm_L_mirrored an_L_mirrored cd_L_mirrored ct_L_mirrored), sl_L_mirrored⟩)
    (c_L_mirrored : PySem.W.codeIn K cd_L_mirrored "_law_mirrored" = true)
    (k_L_mirrored : PySem.W.keepIn K (.ref a_L_mirrored) = true)
    (n_stepped : PySem.W.nsIn K mainGlobals "stepped" = some (some (.ref a_stepped)))
    (l_stepped : K.lookup a_stepped = some ⟨oc_stepped, od_stepped, .func (PySem.W.fnOf "stepped" "stepped" (defArgs s_stepped) (defBody s_stepped) (defScope s_stepped) .none kV_stepped dc_stepped pm_stepped an_stepped cd_stepped ct_stepped), sl_stepped⟩)
    (c_stepped : PySem.W.codeIn K cd_stepped "stepped" = true)
    (k_stepped : PySem.W.keepIn K (.ref a_stepped) = true)
    (n_L_turned : PySem.W.nsIn K mainGlobals "_law_turned" = some (some (.ref a_L_turned)))
    (l_L_turned : K.lookup a_L_turned = some ⟨oc_L_turned, od_L_turned, .func (PySem.W.fnOf "_law_turned" "_law_turned" (defArgs s_L_turned) (defBody s_L_turned) (defScope s_L_turned) .none kV_L_turned dc_L_turned pm_L_turned an_L_turned cd_L_turned ct_L_turned), sl_L_turned⟩)
    (c_L_turned : PySem.W.codeIn K cd_L_turned "_law_turned" = true)
    (k_L_turned : PySem.W.keepIn K (.ref a_L_turned) = true)
    (n_law : PySem.W.nsIn K mainGlobals "law" = some (some (.ref a_law)))
    (l_law : K.lookup a_law = some ⟨oc_law, od_law, .func (PySem.W.fnOf "law" "law" (defArgs s_law) (defBody s_law) (defScope s_law) .none kV_law dc_law pm_law an_law cd_law ct_law), sl_law⟩)
    (c_law : PySem.W.codeIn K cd_law "law" = true)
    (k_law : PySem.W.keepIn K (.ref a_law) = true)
    (pg_Goer : PySem.W.plainGet K C_Goer Str.empty = true)
    (hd_Goer : PySem.W.hasDictIn K C_Goer = true)
    (po_Goer : PySem.W.plainOver K C_Goer = true)
    (sa_Goer : PySem.W.findIn K (.ref C_Goer) "__setattr__" = some (some (.builtin "object.__setattr__")))
    (mk_Goer : PySem.W.makesIn K C_Goer = true)
    (kc_Goer : PySem.W.keepIn K (.ref C_Goer) = true)
    (f_Goer_table : PySem.W.findIn K (.ref C_Goer) "table" = some none)
    (f_Goer_row : PySem.W.findIn K (.ref C_Goer) "row" = some none)
    (f_Goer_spot : PySem.W.findIn K (.ref C_Goer) "spot" = some none)
    (f_Goer_signs : PySem.W.findIn K (.ref C_Goer) "signs" = some none)
    (f_Goer_steps : PySem.W.findIn K (.ref C_Goer) "steps" = some none)
    (n_MOST_ROWS : PySem.W.nsIn K mainGlobals "MOST_ROWS" = some (some (.int 4 tk_MOST_ROWS)))
    (n_MOST_SIGNS : PySem.W.nsIn K mainGlobals "MOST_SIGNS" = some (some (.int 4 tk_MOST_SIGNS)))
    (z_range : PySem.W.nsIn K mainGlobals "range" = some none)
    (z_len : PySem.W.nsIn K mainGlobals "len" = some none)
    (z_abs : PySem.W.nsIn K mainGlobals "abs" = some none)
    (z_all : PySem.W.nsIn K mainGlobals "all" = some none)
    (z_dict : PySem.W.nsIn K mainGlobals "dict" = some none)
    (z_sorted : PySem.W.nsIn K mainGlobals "sorted" = some none)
    (z_min : PySem.W.nsIn K mainGlobals "min" = some none)
    (z_max : PySem.W.nsIn K mainGlobals "max" = some none)
    (z_tuple : PySem.W.nsIn K mainGlobals "tuple" = some none)
    (z_zip : PySem.W.nsIn K mainGlobals "zip" = some none) :
    ∃ fd : FuncData, (∀ (s : Shared) (v : Value), BindsTo s fd ⟨[v], []⟩ [("_law_script", v)]) ∧ ∀ base : Heap, K.In base → base.Ns mainGlobals mg → FnOk l.prog w K mg base CX0 5 fa fd ["_law_script"] (sp_law K) :=
  all_mk X G hfa (all_tx X G n_NoMachine n_Goer n_L_mixed l_L_mixed c_L_mixed k_L_mixed n_L_purse l_L_purse c_L_purse k_L_purse n_L_draw l_L_draw c_L_draw k_L_draw n_L_machine l_L_machine c_L_machine k_L_machine n_is_entry l_is_entry c_is_entry k_is_entry n_is_machine l_is_machine c_is_machine k_is_machine n_must_machine l_must_machine c_must_machine k_must_machine n_Goer_init i_Goer_init l_Goer_init c_Goer_init k_Goer_init n_told_strip l_told_strip c_told_strip k_told_strip n_Goer_setup i_Goer_setup l_Goer_setup c_Goer_setup k_Goer_setup n_Goer_entry i_Goer_entry l_Goer_entry c_Goer_entry k_Goer_entry n_Goer_step i_Goer_step l_Goer_step c_Goer_step k_Goer_step n_setups l_setups c_setups k_setups n_gone l_gone c_gone k_gone n_run l_run c_run k_run n_touched l_touched c_touched k_touched n_L_mirrored l_L_mirrored c_L_mirrored k_L_mirrored n_stepped l_stepped c_stepped k_stepped n_L_turned l_L_turned c_L_turned k_L_turned n_law l_law c_law k_law pg_Goer hd_Goer po_Goer sa_Goer mk_Goer kc_Goer f_Goer_table f_Goer_row f_Goer_spot f_Goer_signs f_Goer_steps n_MOST_ROWS n_MOST_SIGNS z_range z_len z_abs z_all z_dict z_sorted z_min z_max z_tuple z_zip) ⟨_, _, _, _, _, _, rfl⟩
end E
open PySem PySem.W PyProof.Rows
set_option maxRecDepth 100000 in
set_option maxHeartbeats 0 in
theorem PySem.Challenge.cw_endnever_k05_whole_steps_come_to_runs_holds : PySem.Challenge.rw_endnever_k05_whole_steps_come_to_runs.Holds := by
  w_on; o_law; k_head; (case hw => w_witness2)
  k_fill
  refine E.walk (l := PySem.Challenge.rw_endnever_k05_whole_steps_come_to_runs) rfl rfl (fun w h Y => PySem.W.kIn_of Y) ?F
  case F =>
    intro w mg fa h KX G hmg
    refine' E.all_go KX G hmg ?n_NoMachine ?n_Goer ?n_L_mixed ?l_L_mixed ?c_L_mixed ?k_L_mixed ?n_L_purse ?l_L_purse ?c_L_purse ?k_L_purse ?n_L_draw ?l_L_draw ?c_L_draw ?k_L_draw ?n_L_machine ?l_L_machine ?c_L_machine ?k_L_machine ?n_is_entry ?l_is_entry ?c_is_entry ?k_is_entry ?n_is_machine ?l_is_machine ?c_is_machine ?k_is_machine ?n_must_machine ?l_must_machine ?c_must_machine ?k_must_machine ?n_Goer_init ?i_Goer_init ?l_Goer_init ?c_Goer_init ?k_Goer_init ?n_told_strip ?l_told_strip ?c_told_strip ?k_told_strip ?n_Goer_setup ?i_Goer_setup ?l_Goer_setup ?c_Goer_setup ?k_Goer_setup ?n_Goer_entry ?i_Goer_entry ?l_Goer_entry ?c_Goer_entry ?k_Goer_entry ?n_Goer_step ?i_Goer_step ?l_Goer_step ?c_Goer_step ?k_Goer_step ?n_setups ?l_setups ?c_setups ?k_setups ?n_gone ?l_gone ?c_gone ?k_gone ?n_run ?l_run ?c_run ?k_run ?n_touched ?l_touched ?c_touched ?k_touched ?n_L_mirrored ?l_L_mirrored ?c_L_mirrored ?k_L_mirrored ?n_stepped ?l_stepped ?c_stepped ?k_stepped ?n_L_turned ?l_L_turned ?c_L_turned ?k_L_turned ?n_law ?l_law ?c_law ?k_law ?pg_Goer ?hd_Goer ?po_Goer ?sa_Goer ?mk_Goer ?kc_Goer ?f_Goer_table ?f_Goer_row ?f_Goer_spot ?f_Goer_signs ?f_Goer_steps ?n_MOST_ROWS ?n_MOST_SIGNS ?z_range ?z_len ?z_abs ?z_all ?z_dict ?z_sorted ?z_min ?z_max ?z_tuple ?z_zip
    (case n_NoMachine => k_is); (case n_Goer => k_is); (case n_L_mixed => k_is); (case l_L_mixed => k_is); (case c_L_mixed => k_is); (case k_L_mixed => k_is); (case n_L_purse => k_is); (case l_L_purse => k_is)
    (case c_L_purse => k_is); (case k_L_purse => k_is); (case n_L_draw => k_is); (case l_L_draw => k_is); (case c_L_draw => k_is); (case k_L_draw => k_is); (case n_L_machine => k_is); (case l_L_machine => k_is)
    (case c_L_machine => k_is); (case k_L_machine => k_is); (case n_is_entry => k_is); (case l_is_entry => k_is); (case c_is_entry => k_is); (case k_is_entry => k_is); (case n_is_machine => k_is); (case l_is_machine => k_is)
    (case c_is_machine => k_is); (case k_is_machine => k_is); (case n_must_machine => k_is); (case l_must_machine => k_is); (case c_must_machine => k_is); (case k_must_machine => k_is); (case n_Goer_init => k_is); (case i_Goer_init => k_is)
    (case l_Goer_init => k_is); (case c_Goer_init => k_is); (case k_Goer_init => k_is); (case n_told_strip => k_is); (case l_told_strip => k_is); (case c_told_strip => k_is); (case k_told_strip => k_is); (case n_Goer_setup => k_is)
    (case i_Goer_setup => k_is); (case l_Goer_setup => k_is); (case c_Goer_setup => k_is); (case k_Goer_setup => k_is); (case n_Goer_entry => k_is); (case i_Goer_entry => k_is); (case l_Goer_entry => k_is); (case c_Goer_entry => k_is)
    (case k_Goer_entry => k_is); (case n_Goer_step => k_is); (case i_Goer_step => k_is); (case l_Goer_step => k_is); (case c_Goer_step => k_is); (case k_Goer_step => k_is); (case n_setups => k_is); (case l_setups => k_is)
    (case c_setups => k_is); (case k_setups => k_is); (case n_gone => k_is); (case l_gone => k_is); (case c_gone => k_is); (case k_gone => k_is); (case n_run => k_is); (case l_run => k_is)
    (case c_run => k_is); (case k_run => k_is); (case n_touched => k_is); (case l_touched => k_is); (case c_touched => k_is); (case k_touched => k_is); (case n_L_mirrored => k_is); (case l_L_mirrored => k_is)
    (case c_L_mirrored => k_is); (case k_L_mirrored => k_is); (case n_stepped => k_is); (case l_stepped => k_is); (case c_stepped => k_is); (case k_stepped => k_is); (case n_L_turned => k_is); (case l_L_turned => k_is)
    (case c_L_turned => k_is); (case k_L_turned => k_is); (case n_law => k_is); (case l_law => k_is); (case c_law => k_is); (case k_law => k_is); (case pg_Goer => k_is); (case hd_Goer => k_is)
    (case po_Goer => k_is); (case sa_Goer => k_is); (case mk_Goer => k_is); (case kc_Goer => k_is); (case f_Goer_table => k_is); (case f_Goer_row => k_is); (case f_Goer_spot => k_is); (case f_Goer_signs => k_is)
    (case f_Goer_steps => k_is); (case n_MOST_ROWS => k_is); (case n_MOST_SIGNS => k_is); (case z_range => k_is); (case z_len => k_is); (case z_abs => k_is); (case z_all => k_is); (case z_dict => k_is)
    (case z_sorted => k_is); (case z_min => k_is); (case z_max => k_is); (case z_tuple => k_is); (case z_zip => k_is)
#print axioms PySem.Challenge.cw_endnever_k05_whole_steps_come_to_runs_holds
