import PyProof.Rows.All
import Wide.All
import OpenK.AllK
import Wide.FinOn
import HandS.ForMost
import HandS.SortRule
import HandS.IsInst
import HandS.TupAny
import HandS.TupMul
import HandS.Walk
import HandS.More
import HandS.ListItems
import HandS.Wide
import KE.KTupSum
import PySem.Challenge.RW_endnever_k15_papers_shown
set_option Elab.async false
set_option maxRecDepth 100000
set_option maxHeartbeats 4000000
namespace E
open PySem L2
/-! ### small words of our own -/
theorem inr_int {x : V} {ns : List Int} {i : Nat} (h : (ns.map V.int)[i]? = some x) : ∃ z, x = V.int z ∧ ns[i]? = some z := by
  rw [List.getElem?_map] at h
  cases e : ns[i]? with
  | none => rw [e] at h; cases h
  | some z => rw [e] at h; exact ⟨z, (Option.some.inj h).symm, rfl⟩
/-- F stands in H, whatever comes to it -/
theorem sm_new {F H : Hp} {p : Addr} {o : HO} (s : Same F H) (n : H p = Option.none) : Same F (upd H p o) := fun b u e => by
  rw [upd_ne (ne_of_none (s b u e) n)]
  exact s b u e
theorem sm_set {F H : Hp} {p : Addr} {o : HO} (s : Same F H) (n : F p = Option.none) : Same F (upd H p o) := fun b u e => by
  rw [upd_ne (ne_of_none e n)]
  exact s b u e
theorem sm_up {H : Hp} {p : Addr} {o : HO} (n : H p = none) : Same H (upd H p o) := sm_new (Same.refl H) n
theorem cut_63 {ns : List Int} (h : ns.length ≤ 63) : cutV (ns.map V.int) none (some 63) = ns.map V.int := by
  unfold cutV
  have e1 : HT.sIx (ns.map V.int).length 0 none = 0 := rfl
  have e2 : HT.sIx (ns.map V.int).length (ns.map V.int).length (some 63) = (ns.map V.int).length := by
    simp only [HT.sIx, List.length_map]
    rw [if_neg (by decide), show (63 : Int).toNat = 63 from rfl]
    omega
  rw [e1, e2, List.drop_zero, Nat.sub_zero, List.take_length]
theorem ifT {c : Bool} {A B : Prop} (h : c = true) (a : A) : if c = true then A else B := by
  rw [if_pos h]; exact a
theorem ifF {c : Bool} {A B : Prop} (h : c = false) (b : B) : if c = true then A else B := by
  rw [h, if_neg Bool.false_ne_true]; exact b
theorem one_le : 1 ≤ sizeLine := by decide
theorem two_le : 2 ≤ sizeLine := by decide
theorem three_le : 3 ≤ sizeLine := by decide
theorem five_le : 5 ≤ sizeLine := by decide
theorem nil_le : 0 ≤ sizeLine := by decide
theorem lt_size {n : Nat} (h : n ≤ 1000000) : n < sizeLine := Nat.lt_of_le_of_lt h (by decide)
theorem le_size {n : Nat} (h : n ≤ 1000000) : n ≤ sizeLine := Nat.le_of_lt (lt_size h)
theorem pi_listK {X : Cx} {K : PySem.W.Frag} {tg l : Expr} {tl : TE} (e : X.K = K) (h : PE X l tl) : PI X tg l (iList K tl) := by
  subst e; exact pi_list h
theorem pi_tupK {X : Cx} {K : PySem.W.Frag} {tg l : Expr} {tl : TE} (e : X.K = K) (h : PE X l tl) : PI X tg l (iTup K tl) := by
  subst e; exact pi_tup h
theorem crK {X : Cx} {K : PySem.W.Frag} {f : Value} {r : PySem.W.Frag → List V → Hp → VK → Prop} (e : X.K = K) (h : CallR X f (r X.K)) : CallR X f (r K) := by
  subst e; exact h
theorem orK {X : Cx} {K : PySem.W.Frag} {f : Value → Value → Sem Value} {r : PySem.W.Frag → R2} (e : X.K = K) (h : OpR X f (r X.K)) : OpR X f (r K) := by
  subst e; exact h
theorem ixK {X : Cx} {K : PySem.W.Frag} {r : PySem.W.Frag → R2} (e : X.K = K) (h : IxR X (r X.K)) : IxR X (r K) := by
  subst e; exact h
theorem slK {X : Cx} {K : PySem.W.Frag} {r : PySem.W.Frag → V → Option Int → Option Int → Hp → VK → Prop} (e : X.K = K) (h : SlR X (r X.K)) : SlR X (r K) := by
  subst e; exact h
def rLenQ (K : PySem.W.Frag) : List V → Hp → VK → Prop := fun xs H Q => ∃ p ys, xs = [.ref p] ∧ (SqL K H p ys ∨ SqT K H p ys) ∧ Q (.int ys.length) H
def rListQ (K : PySem.W.Frag) : List V → Hp → VK → Prop := fun xs H Q => ∃ p ys, xs = [.ref p] ∧ (SqL K H p ys ∨ SqT K H p ys) ∧ ∀ l, H l = none → Q (.ref l) (upd H l (.lst ys))
def rTupQ (K : PySem.W.Frag) : List V → Hp → VK → Prop := fun xs H Q => ∃ p ys, xs = [.ref p] ∧ ((SqL K H p ys ∧ ∀ l, H l = none → Q (.ref l) (upd H l (.tup ys))) ∨ (SqT K H p ys ∧ Q (.ref p) H))
theorem ne_of_none' {F H : Hp} {q : Addr} (s : Same F H) (n : H q = none) : F q = none := s.free n
/-- a comprehension without a test: its item comes in -/
theorem yes {σ : St} {H : Hp} {A : Hp → Prop} {B : Hp → Prop} (a : A H) : tYes σ H (fun b H3 => if b = true then A H3 else B H3) := by
  show if true = true then A H else B H
  rw [if_pos rfl]; exact a
theorem call_lenQ {X : Cx} : CallR X (.builtin "len") (rLenQ X.K) := call_len_seq
theorem call_listQ {X : Cx} : CallR X (.type "list") (rListQ X.K) := call_list_of
theorem call_tupQ {X : Cx} : CallR X (.type "tuple") (rTupQ X.K) := call_tuple_of
@[irreducible] def rDictP (K : PySem.W.Frag) : List V → Hp → VK → Prop := fun xs H Q => ∃ (a : Addr) (ps : List Addr) (kvs : List (Key × V)), xs = [.ref a] ∧ SqL K H a (ps.map V.ref) ∧ Paired (fun p kv => SqT K H p [kV kv.1, kv.2]) ps kvs ∧ ∀ p, H p = none → Q (.ref p) (upd H p (.dK (mergeK [] kvs)))
theorem call_dictQ {X : Cx} (hc : X.calm = true) : CallR X (.type "dict") (rDictP X.K) := by
  unfold rDictP
  exact call_dictP hc
@[irreducible] def rSortQ (K : PySem.W.Frag) : List V → Hp → VK → Prop := rSortedPO K
theorem call_sortQ {X : Cx} : CallR X (.builtin "sorted") (rSortQ X.K) := by
  unfold rSortQ
  exact cr_sortedPO
theorem pg_tupK {X : Cx} {K : PySem.W.Frag} {es : List Expr} {k n : Nat} {t : TGs} {pos : Pos} (e : X.K = K) (hc : X.calm = true) (h : PGs X es t) (hn : (assignEach es X.env).length = n := by rfl) (hst : (assignEach es X.env).findIdx? (·.1) = none := by rfl) : PG X (.Tuple es k pos) (gTup K n t) := by
  subst e; exact pg_tup hc h hn hst
theorem pe_fldK {X : Cx} {K : PySem.W.Frag} {e : Expr} {f : Str} {pos : Pos} {ta : TE} (ek : X.K = K) (he : PE X e ta) (hb : attributeBase e f X.env (eval e X.env) = eval e X.env) : PE X (.Attribute e f pos) (tFld K ta f) := by
  subst ek; exact pe_fld he hb
/-! ### what stands, what is new: F the frozen part (nobody changes it), H the heap; from F, H to F', H' with changes at mu alone -/
structure Gr (mu : Addr → Prop) (F H F' H' : Hp) : Prop where
  ff : Same F F'
  fh : Same F' H'
  nw : ∀ c o, F' c = some o → F c = some o ∨ H c = none
  fr : ∀ c o, H c = some o → ¬ mu c → H' c = some o
  th : ∀ c, H' c = none → H c = none
/-- nothing but new things -/
abbrev mu0 : Addr → Prop := fun _ => False
/-- the purse alone -/
abbrev muP (p : Addr) : Addr → Prop := fun c => c = p
section
variable {mu : Addr → Prop} {F H F1 H1 F2 H2 : Hp} {q : Addr} {o u : HO}
theorem Gr.refl (s : Same F H) : Gr mu F H F H := ⟨fun _ _ h => h, s, fun _ _ h => .inl h, fun _ _ h _ => h, fun _ h => h⟩
theorem Gr.trans (a : Gr mu F H F1 H1) (b : Gr mu F1 H1 F2 H2) : Gr mu F H F2 H2 where
  ff := fun c o h => b.ff c o (a.ff c o h)
  fh := b.fh
  nw := fun c o h => by
    rcases b.nw c o h with h | h
    · exact a.nw c o h
    · exact .inr (a.th c h)
  fr := fun c o h m => b.fr c o (a.fr c o h m) m
  th := fun c h => a.th c (b.th c h)
/-- a part that changes what is ours, or what mu has -/
theorem Gr.thn {mu' : Addr → Prop} (a : Gr mu F H F1 H1) (b : Gr mu' F1 H1 F2 H2) (k : ∀ c, mu' c → mu c ∨ H c = none) : Gr mu F H F2 H2 where
  ff := fun c o h => b.ff c o (a.ff c o h)
  fh := b.fh
  nw := fun c o h => by
    rcases b.nw c o h with h | h
    · exact a.nw c o h
    · exact .inr (a.th c h)
  fr := fun c o h m => b.fr c o (a.fr c o h m) fun z => (k c z).elim m fun n => by rw [n] at h; cases h
  th := fun c h => a.th c (b.th c h)
theorem Gr.weak {mu' : Addr → Prop} (a : Gr mu F H F1 H1) (m : ∀ c, mu c → mu' c) : Gr mu' F H F1 H1 :=
  ⟨a.ff, a.fh, a.nw, fun c o h n => a.fr c o h fun z => n (m c z), a.th⟩
theorem Gr.of0 (a : Gr mu0 F H F1 H1) : Gr mu F H F1 H1 := a.weak fun _ z => z.elim
/-- a new thing that nobody will change -/
theorem Gr.new (a : Gr mu F H F1 H1) (n : H1 q = none) : Gr mu F H (upd F1 q o) (upd H1 q o) where
  ff := fun c o h => by
    rw [upd_ne (ne_of_none (a.fh c o (a.ff c o h)) n)]
    exact a.ff c o h
  fh := fun c u h => by
    by_cases e : c = q
    · subst e; rw [upd_same] at h ⊢; exact h
    · rw [upd_ne e] at h ⊢; exact a.fh c u h
  nw := fun c u h => by
    by_cases e : c = q
    · subst e; exact .inr (a.th _ n)
    · rw [upd_ne e] at h; exact a.nw c u h
  fr := fun c u h m => by
    rw [upd_ne (ne_of_none (a.fr c u h m) n)]
    exact a.fr c u h m
  th := fun c h => by
    by_cases e : c = q
    · subst e; rw [upd_same] at h; cases h
    · rw [upd_ne e] at h; exact a.th c h
/-- a new thing that may be changed yet -/
theorem Gr.own (a : Gr mu F H F1 H1) (n : H1 q = none) : Gr mu F H F1 (upd H1 q o) where
  ff := a.ff
  fh := fun c u h => by
    rw [upd_ne (ne_of_none (a.fh c u h) n)]
    exact a.fh c u h
  nw := a.nw
  fr := fun c u h m => by
    rw [upd_ne (ne_of_none (a.fr c u h m) n)]
    exact a.fr c u h m
  th := fun c h => by
    by_cases e : c = q
    · subst e; rw [upd_same] at h; cases h
    · rw [upd_ne e] at h; exact a.th c h
/-- a change of what is ours, and not frozen -/
theorem Gr.set (a : Gr mu F H F1 H1) (f : F1 q = none) (m : H q = none ∨ mu q) : Gr mu F H F1 (upd H1 q o) where
  ff := a.ff
  fh := fun c u h => by
    rw [upd_ne (ne_of_none h f)]
    exact a.fh c u h
  nw := a.nw
  fr := fun c u h k => by
    have e : c ≠ q := by
      rintro rfl
      rcases m with m | m
      · rw [m] at h; cases h
      · exact k m
    rw [upd_ne e]
    exact a.fr c u h k
  th := fun c h => by
    by_cases e : c = q
    · subst e; rw [upd_same] at h; cases h
    · rw [upd_ne e] at h; exact a.th c h
/-- what was ours is changed no more -/
theorem Gr.frz (a : Gr mu F H F1 H1) (h : H1 q = some o) (n : H q = none) (f : F1 q = none) : Gr mu F H (upd F1 q o) H1 where
  ff := fun c u e => by
    rw [upd_ne (ne_of_none (a.ff c u e) f)]
    exact a.ff c u e
  fh := fun c u e => by
    by_cases k : c = q
    · subst k; rw [upd_same] at e; cases e; exact h
    · rw [upd_ne k] at e; exact a.fh c u e
  nw := fun c u e => by
    by_cases k : c = q
    · subst k; exact .inr n
    · rw [upd_ne k] at e; exact a.nw c u e
  fr := a.fr
  th := a.th
theorem Gr.free (a : Gr mu F H F1 H1) (n : H1 q = none) : F1 q = none := a.fh.free n
end
/-- an owned thing: new since H, not frozen, it is o now -/
structure Ow (H F H1 : Hp) (q : Addr) (o : HO) : Prop where
  n : H q = none
  f : F q = none
  h : H1 q = some o
section
variable {mu mu' : Addr → Prop} {H0 F H F1 H1 : Hp} {q r : Addr} {o u : HO}
theorem Ow.call (w : Ow H0 F H q o) (a : Gr mu F H F1 H1) (m : ¬ mu q) : Ow H0 F1 H1 q o :=
  ⟨w.n, (by
    cases e : F1 q with
    | none => rfl
    | some z =>
      rcases a.nw q z e with k | k
      · rw [w.f] at k; cases k
      · rw [w.h] at k; cases k), a.fr q o w.h m⟩
theorem Ow.ne (w : Ow H0 F H q o) (n : H r = none) : q ≠ r := ne_of_none w.h n
theorem Ow.new (w : Ow H0 F H q o) (n : H r = none) : Ow H0 (upd F r u) (upd H r u) q o :=
  ⟨w.n, by rw [upd_ne (w.ne n)]; exact w.f, by rw [upd_ne (w.ne n)]; exact w.h⟩
theorem Ow.own (w : Ow H0 F H q o) (n : H r = none) : Ow H0 F (upd H r u) q o :=
  ⟨w.n, w.f, by rw [upd_ne (w.ne n)]; exact w.h⟩
theorem Ow.mk1 (a : Gr mu H0' H0 F H) (n : H q = none) : Ow H0 F (upd H q o) q o := ⟨a.th q n, a.free n, upd_same⟩
theorem Ow.set (w : Ow H0 F H q o) : Ow H0 F (upd H q u) q u := ⟨w.n, w.f, upd_same⟩
theorem Ow.other (w : Ow H0 F H q o) (e : q ≠ r) : Ow H0 F (upd H r u) q o := ⟨w.n, w.f, by rw [upd_ne e]; exact w.h⟩
end
/-! ### what stands for a datum -/
def All2 {α β : Type} (r : α → β → Prop) (xs : List α) (ys : List β) : Prop := xs.length = ys.length ∧ ∀ (i : Nat) (x : α) (y : β), xs[i]? = some x → ys[i]? = some y → r x y
section
variable {α β : Type} {r s : α → β → Prop} {xs xs' : List α} {ys ys' : List β}
theorem All2.nil : All2 r [] [] := ⟨rfl, fun i x y h => by simp at h⟩
theorem All2.get (a : All2 r xs ys) {i : Nat} {y : β} (h : ys[i]? = some y) : ∃ x, xs[i]? = some x ∧ r x y := by
  have l := (List.getElem?_eq_some_iff.mp h).1
  have l' : i < xs.length := by rw [a.1]; exact l
  exact ⟨xs[i], List.getElem?_eq_getElem l', a.2 i _ y (List.getElem?_eq_getElem l') h⟩
theorem All2.get' (a : All2 r xs ys) {i : Nat} {x : α} (h : xs[i]? = some x) : ∃ y, ys[i]? = some y ∧ r x y := by
  have l := (List.getElem?_eq_some_iff.mp h).1
  have l' : i < ys.length := by rw [← a.1]; exact l
  exact ⟨ys[i], List.getElem?_eq_getElem l', a.2 i x _ h (List.getElem?_eq_getElem l')⟩
theorem All2.imp (a : All2 r xs ys) (f : ∀ x y, r x y → s x y) : All2 s xs ys := ⟨a.1, fun i x y h k => f x y (a.2 i x y h k)⟩
theorem All2.app (a : All2 r xs ys) (b : All2 r xs' ys') : All2 r (xs ++ xs') (ys ++ ys') := by
  refine ⟨by rw [List.length_append, List.length_append, a.1, b.1], fun i x y h k => ?_⟩
  by_cases l : i < xs.length
  · rw [List.getElem?_append_left l] at h
    rw [List.getElem?_append_left (by rw [← a.1]; exact l)] at k
    exact a.2 i x y h k
  · rw [List.getElem?_append_right (by omega)] at h
    rw [List.getElem?_append_right (by rw [← a.1]; omega), ← a.1] at k
    exact b.2 _ x y h k
theorem All2.one {x : α} {y : β} (h : r x y) : All2 r [x] [y] := ⟨rfl, fun i a b p q => by
  cases i with
  | zero => simp at p q; subst p; subst q; exact h
  | succ n => simp at p⟩
theorem All2.cons {x : α} {y : β} (h : r x y) (a : All2 r xs ys) : All2 r (x :: xs) (y :: ys) := (All2.one h).app a
theorem All2.set (a : All2 r xs ys) {x : α} {y : β} (h : r x y) (j : Nat) : All2 r (xs.set j x) (ys.set j y) := by
  refine ⟨by rw [List.length_set, List.length_set]; exact a.1, fun i u v p q => ?_⟩
  by_cases e : j = i
  · subst e
    rw [List.getElem?_set_self'] at p q
    cases e1 : xs[j]? with
    | none => rw [e1] at p; cases p
    | some z =>
      cases e2 : ys[j]? with
      | none => rw [e2] at q; cases q
      | some z2 =>
        rw [e1] at p; rw [e2] at q
        cases p; cases q
        exact h
  · rw [List.getElem?_set_ne e] at p q
    exact a.2 i u v p q
theorem All2.take (a : All2 r xs ys) (n : Nat) : All2 r (xs.take n) (ys.take n) := by
  refine ⟨by rw [List.length_take, List.length_take, a.1], fun i u v p q => ?_⟩
  rw [List.getElem?_take] at p q
  split at p
  · rw [if_pos (by assumption)] at q; exact a.2 i u v p q
  · cases p
theorem All2.drop (a : All2 r xs ys) (n : Nat) : All2 r (xs.drop n) (ys.drop n) := by
  refine ⟨by rw [List.length_drop, List.length_drop, a.1], fun i u v p q => ?_⟩
  rw [List.getElem?_drop] at p q
  exact a.2 _ u v p q
end
class Dat (α : Type) where
  rep : Hp → V → α → Prop
  mono : ∀ {H H' : Hp} {v : V} {d : α}, Same H H' → rep H v d → rep H' v d
  py : α → PyData
  dp : ∀ {K : PySem.W.Frag} {H : Hp} {v : V} {d : α}, rep H v d → Dp K H v (py d)
  can : ∀ d, (py d).canLay0 = true
  dep : Nat
  depth : ∀ d, (py d).depth ≤ dep
  eqv : ∀ a b, PyData.eqv (py a) (py b) = true ↔ a = b
section
variable {α β γ : Type}
/-- v stands for d in H -/
abbrev Is [Dat α] (H : Hp) (v : V) (d : α) : Prop := Dat.rep H v d
theorem Is.up [Dat α] {H H' : Hp} {v : V} {d : α} (h : Is H v d) (s : Same H H') : Is H' v d := Dat.mono s h
abbrev IsAll [Dat α] (H : Hp) (xs : List V) (ds : List α) : Prop := All2 (fun v d => Is H v d) xs ds
theorem IsAll.up [Dat α] {H H' : Hp} {xs : List V} {ds : List α} (h : IsAll H xs ds) (s : Same H H') : IsAll H' xs ds := h.imp fun _ _ z => Is.up z s
theorem dp_all [Dat α] {K : PySem.W.Frag} {H : Hp} : ∀ {xs : List V} {ds : List α}, IsAll H xs ds → DpAll K H xs (ds.map Dat.py)
  | [], [], _ => .nil
  | [], d :: ds, h => by have := h.1; simp at this
  | x :: xs, [], h => by have := h.1; simp at this
  | x :: xs, d :: ds, h => .cons (Dat.dp (h.2 0 x d rfl rfl)) (dp_all ⟨by have := h.1; simpa using this, fun i a b p q => h.2 (i + 1) a b (by simpa using p) (by simpa using q)⟩)
theorem can_all [Dat α] : ∀ ds : List α, PyData.canLayAll0 (ds.map Dat.py) = true
  | [] => rfl
  | d :: ds => by
    show (PyData.canLay0 (Dat.py d) && PyData.canLayAll0 (ds.map Dat.py)) = true
    rw [Dat.can, can_all ds]; rfl
theorem depth_all [Dat α] : ∀ ds : List α, PyData.depthAll (ds.map Dat.py) ≤ Dat.dep α
  | [] => Nat.zero_le _
  | d :: ds => by
    show max (PyData.depth (Dat.py d)) (PyData.depthAll (ds.map Dat.py)) ≤ _
    exact Nat.max_le.mpr ⟨Dat.depth d, depth_all ds⟩
theorem eqv_all [Dat α] : ∀ a b : List α, PyData.eqvAll (a.map Dat.py) (b.map Dat.py) = true ↔ a = b
  | [], [] => by simp [PyData.eqvAll]
  | [], _ :: _ => by simp [PyData.eqvAll]
  | _ :: _, [] => by simp [PyData.eqvAll]
  | x :: xs, y :: ys => by
    rw [List.map_cons, List.map_cons, PyData.eqvAll, Bool.and_eq_true, Dat.eqv, eqv_all xs ys, List.cons.injEq]
instance : Dat Int where
  rep := fun _ v i => v = .int i
  mono := fun _ h => h
  py := .int
  dp := fun h => h ▸ .int _
  can := fun _ => rfl
  dep := 0
  depth := fun _ => Nat.le_refl _
  eqv := fun a b => by simp [PyData.eqv]
instance : Dat Bool where
  rep := fun _ v i => v = .bl i
  mono := fun _ h => h
  py := .bool
  dp := fun h => h ▸ .bl _
  can := fun _ => rfl
  dep := 0
  depth := fun _ => Nat.le_refl _
  eqv := fun a b => by simp [PyData.eqv]
/-- a list of data -/
instance [Dat α] : Dat (List α) where
  rep := fun H v l => ∃ a xs, v = .ref a ∧ H a = some (.lst xs) ∧ IsAll H xs l
  mono := fun s h => by
    obtain ⟨a, xs, e, h, i⟩ := h
    exact ⟨a, xs, e, s _ _ h, IsAll.up i s⟩
  py := fun l => .list (l.map Dat.py)
  dp := fun h => by
    obtain ⟨a, xs, rfl, h, i⟩ := h
    exact .lst (SqL.of h) (dp_all i)
  can := fun d => can_all d
  dep := Dat.dep α + 1
  depth := fun d => Nat.succ_le_succ (depth_all d)
  eqv := fun a b => by rw [PyData.eqv]; exact eqv_all a b
/-- a tuple of data of one kind -/
structure Tup (α : Type) where
  l : List α
  deriving DecidableEq
instance [Dat α] : Dat (Tup α) where
  rep := fun H v l => ∃ a xs, v = .ref a ∧ H a = some (.tup xs) ∧ IsAll H xs l.l
  mono := fun s h => by
    obtain ⟨a, xs, e, h, i⟩ := h
    exact ⟨a, xs, e, s _ _ h, IsAll.up i s⟩
  py := fun l => .tuple (l.l.map Dat.py)
  dp := fun h => by
    obtain ⟨a, xs, rfl, h, i⟩ := h
    exact .tup (SqT.of h) (dp_all i)
  can := fun d => can_all d.l
  dep := Dat.dep α + 1
  depth := fun d => Nat.succ_le_succ (depth_all d.l)
  eqv := fun a b => by
    rw [PyData.eqv, eqv_all]
    obtain ⟨a⟩ := a; obtain ⟨b⟩ := b
    simp
/-- a pair; a triple -/
structure T2 (α β : Type) where
  a : α
  b : β
  deriving DecidableEq
structure T3 (α β γ : Type) where
  a : α
  b : β
  c : γ
  deriving DecidableEq
instance [Dat α] [Dat β] : Dat (T2 α β) where
  rep := fun H v d => ∃ p x y, v = .ref p ∧ H p = some (.tup [x, y]) ∧ Is H x d.a ∧ Is H y d.b
  mono := fun s h => by
    obtain ⟨p, x, y, e, h, i, j⟩ := h
    exact ⟨p, x, y, e, s _ _ h, Is.up i s, Is.up j s⟩
  py := fun d => .tuple [Dat.py d.a, Dat.py d.b]
  dp := fun h => by
    obtain ⟨p, x, y, rfl, h, i, j⟩ := h
    exact .tup (SqT.of h) (.cons (Dat.dp i) (.cons (Dat.dp j) .nil))
  can := fun d => by
    show (PyData.canLay0 (Dat.py d.a) && (PyData.canLay0 (Dat.py d.b) && true)) = true
    rw [Dat.can, Dat.can]; rfl
  dep := max (Dat.dep α) (Dat.dep β) + 1
  depth := fun d => by
    have h1 := Dat.depth d.a
    have h2 := Dat.depth d.b
    show max (PyData.depth (Dat.py d.a)) (max (PyData.depth (Dat.py d.b)) 0) + 1 ≤ _
    omega
  eqv := fun a b => by
    obtain ⟨a, a'⟩ := a; obtain ⟨b, b'⟩ := b
    simp [PyData.eqv, PyData.eqvAll, Dat.eqv]
instance [Dat α] [Dat β] [Dat γ] : Dat (T3 α β γ) where
  rep := fun H v d => ∃ p x y z, v = .ref p ∧ H p = some (.tup [x, y, z]) ∧ Is H x d.a ∧ Is H y d.b ∧ Is H z d.c
  mono := fun s h => by
    obtain ⟨p, x, y, z, e, h, i, j, k⟩ := h
    exact ⟨p, x, y, z, e, s _ _ h, Is.up i s, Is.up j s, Is.up k s⟩
  py := fun d => .tuple [Dat.py d.a, Dat.py d.b, Dat.py d.c]
  dp := fun h => by
    obtain ⟨p, x, y, z, rfl, h, i, j, k⟩ := h
    exact .tup (SqT.of h) (.cons (Dat.dp i) (.cons (Dat.dp j) (.cons (Dat.dp k) .nil)))
  can := fun d => by
    show (PyData.canLay0 (Dat.py d.a) && (PyData.canLay0 (Dat.py d.b) && (PyData.canLay0 (Dat.py d.c) && true))) = true
    rw [Dat.can, Dat.can, Dat.can]; rfl
  dep := max (Dat.dep α) (max (Dat.dep β) (Dat.dep γ)) + 1
  depth := fun d => by
    have h1 := Dat.depth d.a
    have h2 := Dat.depth d.b
    have h3 := Dat.depth d.c
    show max (PyData.depth (Dat.py d.a)) (max (PyData.depth (Dat.py d.b)) (max (PyData.depth (Dat.py d.c)) 0)) + 1 ≤ _
    omega
  eqv := fun a b => by
    obtain ⟨a, a', a''⟩ := a; obtain ⟨b, b', b''⟩ := b
    simp [PyData.eqv, PyData.eqvAll, Dat.eqv]
/-- None, or a datum that is a tuple or a list -/
class Big (α : Type) [Dat α] : Prop where
  big : ∀ d : α, (∃ l, Dat.py d = .tuple l) ∨ ∃ l, Dat.py d = .list l
instance [Dat α] : Big (List α) := ⟨fun d => .inr ⟨_, rfl⟩⟩
instance [Dat α] : Big (Tup α) := ⟨fun d => .inl ⟨_, rfl⟩⟩
instance [Dat α] [Dat β] : Big (T2 α β) := ⟨fun d => .inl ⟨_, rfl⟩⟩
instance [Dat α] [Dat β] [Dat γ] : Big (T3 α β γ) := ⟨fun d => .inl ⟨_, rfl⟩⟩
instance [Dat α] [Big α] : Dat (Option α) where
  rep := fun H v d => match d with
    | none => v = .non
    | some d => Is H v d
  mono := fun {H H' v d} s h => by
    cases d with
    | none => exact h
    | some d => exact Is.up (show Is H v d from h) s
  py := fun d => match d with
    | none => .none
    | some d => Dat.py d
  dp := fun {K H v d} h => by
    cases d with
    | none => cases h; exact .non
    | some d => exact Dat.dp (show Is H v d from h)
  can := fun d => by
    cases d with
    | none => rfl
    | some d => exact Dat.can d
  dep := Dat.dep α
  depth := fun d => by
    cases d with
    | none => exact Nat.zero_le _
    | some d => exact Dat.depth d
  eqv := fun a b => by
    cases a with
    | none =>
      cases b with
      | none => exact ⟨fun _ => rfl, fun _ => rfl⟩
      | some b =>
        refine ⟨fun h => ?_, fun h => nomatch h⟩
        have h : PyData.eqv .none (Dat.py b) = true := h
        rcases Big.big b with ⟨l, e⟩ | ⟨l, e⟩ <;> (rw [e] at h; simp only [PyData.eqv] at h; cases h)
    | some a =>
      cases b with
      | none =>
        refine ⟨fun h => ?_, fun h => nomatch h⟩
        have h : PyData.eqv (Dat.py a) .none = true := h
        rcases Big.big a with ⟨l, e⟩ | ⟨l, e⟩ <;> (rw [e] at h; simp only [PyData.eqv] at h; cases h)
      | some b =>
        show PyData.eqv (Dat.py a) (Dat.py b) = true ↔ _
        rw [Dat.eqv, Option.some.injEq]
end
/-- == and != of data -/
theorem eq_dat0 {α : Type} [Dat α] [DecidableEq α] {a b : α} (hd : Dat.dep α ≤ 64) : SeqAt.shaped (Dat.py a) = true ∧ SeqAt.shaped (Dat.py b) = true ∧ PyData.eqv (Dat.py a) (Dat.py b) = decide (a = b) := by
  refine ⟨?_, ?_, ?_⟩
  · show (PyData.canLay0 _ && decide _) = true
    rw [Dat.can, decide_eq_true (Nat.le_trans (Dat.depth a) hd)]; rfl
  · show (PyData.canLay0 _ && decide _) = true
    rw [Dat.can, decide_eq_true (Nat.le_trans (Dat.depth b) hd)]; rfl
  · rw [Bool.eq_iff_iff, Dat.eqv, decide_eq_true_iff]
theorem eq_dat {α : Type} [Dat α] [DecidableEq α] {K : PySem.W.Frag} {H : Hp} {x y : V} {a b : α} {Q : VK} (ha : Is H x a) (hb : Is H y b) (q : Q (.bl (decide (a = b))) H) (hd : Dat.dep α ≤ 64 := by decide) : rEqD K x y H Q := by
  obtain ⟨h1, h2, h3⟩ := eq_dat0 (a := a) (b := b) hd
  exact ⟨Dat.py a, Dat.py b, Dat.dp ha, Dat.dp hb, h1, h2, by rw [h3]; exact q⟩
theorem ne_dat {α : Type} [Dat α] [DecidableEq α] {K : PySem.W.Frag} {H : Hp} {x y : V} {a b : α} {Q : VK} (ha : Is H x a) (hb : Is H y b) (q : Q (.bl (!decide (a = b))) H) (hd : Dat.dep α ≤ 64 := by decide) : rNeD K x y H Q := by
  obtain ⟨h1, h2, h3⟩ := eq_dat0 (a := a) (b := b) hd
  exact ⟨Dat.py a, Dat.py b, Dat.dp ha, Dat.dp hb, h1, h2, by rw [h3]; exact q⟩
/-! ### machines -/
/-- an entry -/
inductive Ent where
  | emp
  | go (put way row : Int)
  deriving DecidableEq
def entO : Ent → HO
  | .emp => .tup []
  | .go p w r => .tup [.int p, .int w, .int r]
def entP : Ent → PyData
  | .emp => .tuple []
  | .go p w r => .tuple [.int p, .int w, .int r]
instance : Dat Ent where
  rep := fun H v e => ∃ a, v = .ref a ∧ H a = some (entO e)
  mono := fun s h => by obtain ⟨a, e, h⟩ := h; exact ⟨a, e, s _ _ h⟩
  py := entP
  dp := fun {K H v d} h => by
    obtain ⟨a, rfl, h⟩ := h
    cases d with
    | emp => exact .tup (SqT.of h) .nil
    | go p w r => exact .tup (SqT.of h) (.cons (.int _) (.cons (.int _) (.cons (.int _) .nil)))
  can := fun d => by cases d <;> rfl
  dep := 1
  depth := fun d => by cases d <;> simp [entP, PyData.depth, PyData.depthAll]
  eqv := fun a b => by cases a <;> cases b <;> simp [entP, PyData.eqv, PyData.eqvAll]
instance : Big Ent := ⟨fun d => by cases d <;> exact .inl ⟨_, rfl⟩⟩
abbrev Mach := List (List Ent)
/-! ### pairs of ints: a dict's items, sorted ones -/
abbrev PI := T2 Int Int
def dI (l : List PI) : List (Key × V) := l.map fun p => (Sum.inl p.a, V.int p.b)
def look (l : List PI) (x : Int) : Option Int := (l.find? fun p => decide (p.a = x)).map (·.b)
def put (l : List PI) (x v : Int) : List PI := if (l.any fun p => decide (p.a = x)) = true then l.map (fun p => if p.a = x then ⟨p.a, v⟩ else p) else l ++ [⟨x, v⟩]
def merge (l m : List PI) : List PI := m.foldl (fun acc p => put acc p.a p.b) l
theorem key_inl (a b : Int) : ((Sum.inl a : Key) = Sum.inl b) = (a = b) := propext ⟨Sum.inl.inj, fun h => by rw [h]⟩
theorem dI_val (x : Int) : ∀ l : List PI, valV (dI l) (Sum.inl x) = (look l x).map V.int
  | [] => rfl
  | p :: l => by
    have ih := dI_val x l
    show valV ((Sum.inl p.a, V.int p.b) :: dI l) (Sum.inl x) = _
    by_cases e : p.a = x
    · rw [valV_pos (by rw [key_inl]; exact e)]
      simp [look, e]
    · rw [valV_neg (by rw [key_inl]; exact e), ih]
      simp [look, e]
theorem dI_put (l : List PI) (x v : Int) : putK (dI l) (Sum.inl x) (.int v) = dI (put l x v) := by
  have e : ((dI l).any fun kv => decide (kv.1 = Sum.inl x)) = (l.any fun p => decide (p.a = x)) := by
    unfold dI
    rw [List.any_map]
    congr 1
    funext p
    simp only [Function.comp, key_inl]
  unfold putK put
  rw [e]
  by_cases a : (l.any fun p => decide (p.a = x)) = true
  · rw [if_pos a, if_pos a]
    unfold dI
    rw [List.map_map, List.map_map]
    congr 1
    funext p
    simp only [Function.comp, key_inl]
    by_cases h : p.a = x
    · rw [if_pos h, if_pos h]
    · rw [if_neg h, if_neg h]
  · rw [if_neg a, if_neg a]
    unfold dI
    rw [List.map_append]
    rfl
theorem dI_merge (m : List PI) : ∀ l : List PI, mergeK (dI l) (dI m) = dI (merge l m) := by
  induction m with
  | nil => intro l; rfl
  | cons p m ih =>
    intro l
    show mergeK (putK (dI l) (Sum.inl p.a) (.int p.b)) (dI m) = dI (merge (put l p.a p.b) m)
    rw [dI_put]
    exact ih _
theorem look_nil (x : Int) : look [] x = none := rfl
theorem look_cons (p : PI) (l : List PI) (x : Int) : look (p :: l) x = if p.a = x then some p.b else look l x := by
  unfold look
  rw [List.find?_cons]
  by_cases e : p.a = x
  · simp [e]
  · simp [e]
theorem look_any (x : Int) : ∀ l : List PI, (l.any fun p => decide (p.a = x)) = (look l x).isSome
  | [] => rfl
  | p :: l => by
    rw [List.any_cons, look_any x l, look_cons]
    by_cases e : p.a = x
    · simp [e]
    · simp [e]
theorem look_map (x y v : Int) : ∀ l : List PI, look (l.map fun p => if p.a = x then ⟨p.a, v⟩ else p) y = (look l y).map fun z => if y = x then v else z
  | [] => rfl
  | p :: l => by
    rw [List.map_cons, look_cons, look_cons, look_map x y v l]
    by_cases e : p.a = x
    · rw [if_pos e]
      by_cases f : p.a = y
      · rw [if_pos f, if_pos f]
        rw [← f, Option.map_some, if_pos e]
      · rw [if_neg f, if_neg f]
    · rw [if_neg e]
      by_cases f : p.a = y
      · rw [if_pos f, if_pos f, Option.map_some, if_neg (by rw [← f]; exact e)]
      · rw [if_neg f, if_neg f]
theorem look_app (l m : List PI) (x : Int) : look (l ++ m) x = (look l x).or (look m x) := by
  induction l with
  | nil => rfl
  | cons p l ih =>
    rw [List.cons_append, look_cons, look_cons, ih]
    by_cases e : p.a = x
    · rw [if_pos e, if_pos e]; rfl
    · rw [if_neg e, if_neg e]
theorem look_put (l : List PI) (x v y : Int) : look (put l x v) y = if y = x then some v else look l y := by
  unfold put
  by_cases a : (l.any fun p => decide (p.a = x)) = true
  · rw [if_pos a, look_map]
    by_cases e : y = x
    · rw [if_pos e, e]
      rw [look_any] at a
      obtain ⟨z, hz⟩ := Option.isSome_iff_exists.mp a
      rw [hz, Option.map_some, if_pos rfl]
    · rw [if_neg e]
      cases look l y with
      | none => rfl
      | some z => rw [Option.map_some, if_neg e]
  · rw [if_neg a, look_app]
    rw [look_any] at a
    by_cases e : y = x
    · rw [if_pos e, e]
      cases h : look l x with
      | none => rw [look_cons, if_pos rfl]; rfl
      | some z => rw [h] at a; exact absurd rfl a
    · rw [if_neg e, look_cons, if_neg (fun z => e z.symm), look_nil]
      cases look l y <;> rfl
/-- no place twice -/
def Nd (l : List PI) : Prop := (l.map (·.a)).Nodup
theorem look_none {l : List PI} {x : Int} : look l x = none ↔ x ∉ l.map (·.a) := by
  induction l with
  | nil => simp [look_nil]
  | cons p l ih =>
    rw [look_cons, List.map_cons, List.mem_cons]
    by_cases e : p.a = x
    · rw [if_pos e]; simp [e]
    · rw [if_neg e, ih]
      constructor
      · intro h z
        rcases z with z | z
        · exact e z.symm
        · exact h z
      · intro h z
        exact h (.inr z)
theorem look_mem {l : List PI} (h : Nd l) {p : PI} (m : p ∈ l) : look l p.a = some p.b := by
  induction l with
  | nil => cases m
  | cons q l ih =>
    have h' := List.nodup_cons.mp h
    rw [look_cons]
    rcases List.mem_cons.mp m with rfl | m
    · rw [if_pos rfl]
    · rw [if_neg (fun e => h'.1 (by show q.a ∈ _; rw [e]; exact List.mem_map.mpr ⟨p, m, rfl⟩))]
      exact ih h'.2 m
theorem mem_look {l : List PI} {x v : Int} (h : look l x = some v) : (⟨x, v⟩ : PI) ∈ l := by
  induction l with
  | nil => cases h
  | cons q l ih =>
    rw [look_cons] at h
    by_cases e : q.a = x
    · rw [if_pos e] at h
      cases h
      subst e
      exact List.mem_cons_self
    · rw [if_neg e] at h
      exact List.mem_cons_of_mem _ (ih h)
theorem nd_put {l : List PI} (h : Nd l) (x v : Int) : Nd (put l x v) := by
  unfold put
  by_cases a : (l.any fun p => decide (p.a = x)) = true
  · rw [if_pos a]
    unfold Nd
    rw [List.map_map]
    have e : ((fun p : PI => p.a) ∘ fun p : PI => if p.a = x then (⟨p.a, v⟩ : PI) else p) = fun p : PI => p.a := by
      funext p
      simp only [Function.comp]
      split <;> rfl
    rw [e]; exact h
  · rw [if_neg a]
    unfold Nd
    rw [List.map_append]
    refine nd_snoc h ?_
    rw [look_any] at a
    refine look_none.mp ?_
    cases q : look l x with
    | none => rfl
    | some z => rw [q] at a; exact absurd rfl a
theorem put_new {l : List PI} {x : Int} (v : Int) (h : look l x = none) : put l x v = l ++ [⟨x, v⟩] := by
  unfold put
  rw [look_any, h]
  rfl
theorem merge_nd {m : List PI} : ∀ {l : List PI}, Nd (l ++ m) → merge l m = l ++ m := by
  induction m with
  | nil => intro l _; simp [merge]
  | cons p m ih =>
    intro l h
    have e : l ++ p :: m = (l ++ [p]) ++ m := by simp
    have hn : look l p.a = none := by
      refine look_none.mpr fun z => ?_
      unfold Nd at h
      rw [List.map_append] at h
      exact (List.nodup_append.mp h).2.2 _ z _ (by rw [List.map_cons]; exact List.mem_cons_self) rfl
    show merge (put l p.a p.b) m = _
    rw [put_new _ hn, e]
    exact ih (by rw [← e]; exact h)
theorem nd_nil : Nd [] := List.nodup_nil
theorem put_len (l : List PI) (x v : Int) : (put l x v).length ≤ l.length + 1 := by
  unfold put
  split
  · rw [List.length_map]; omega
  · rw [List.length_append]; exact Nat.le_refl _
/-- Python's order of pairs -/
def leP (p q : PI) : Bool := decide (p.a < q.a) || (decide (p.a = q.a) && decide (p.b ≤ q.b))
theorem leP_iff {p q : PI} : leP p q = true ↔ p.a < q.a ∨ (p.a = q.a ∧ p.b ≤ q.b) := by simp [leP]
def ins (p : PI) : List PI → List PI
  | [] => [p]
  | q :: l => if leP p q = true then p :: q :: l else q :: ins p l
def srt (l : List PI) : List PI := l.foldr ins []
theorem ins_perm (p : PI) : ∀ l : List PI, (ins p l).Perm (p :: l)
  | [] => List.Perm.refl _
  | q :: l => by
    unfold ins
    split
    · exact List.Perm.refl _
    · exact (List.Perm.cons q (ins_perm p l)).trans (List.Perm.swap p q l)
theorem srt_perm : ∀ l : List PI, (srt l).Perm l
  | [] => List.Perm.refl _
  | p :: l => (ins_perm p (srt l)).trans ((srt_perm l).cons p)
abbrev LeP (p q : PI) : Prop := leP p q = true
theorem leP_trans {p q r : PI} (h1 : LeP p q) (h2 : LeP q r) : LeP p r := by
  have a := leP_iff.mp h1
  have b := leP_iff.mp h2
  exact leP_iff.mpr (by omega)
theorem leP_total (p q : PI) : LeP p q ∨ LeP q p := by
  show leP p q = true ∨ leP q p = true
  rw [leP_iff, leP_iff]
  omega
theorem ins_srt (p : PI) : ∀ {l : List PI}, l.Pairwise LeP → (ins p l).Pairwise LeP
  | [], _ => List.pairwise_singleton _ _
  | q :: l, h => by
    have h' := List.pairwise_cons.mp h
    unfold ins
    split
    · rename_i e
      refine List.pairwise_cons.mpr ⟨fun x m => ?_, h⟩
      rcases List.mem_cons.mp m with rfl | m
      · exact e
      · exact leP_trans e (h'.1 x m)
    · rename_i e
      refine List.pairwise_cons.mpr ⟨fun x m => ?_, ins_srt p h'.2⟩
      rcases List.mem_cons.mp ((ins_perm p l).mem_iff.mp m) with rfl | m
      · rcases leP_total q x with z | z
        · exact z
        · exact absurd z e
      · exact h'.1 x m
theorem srt_srt : ∀ l : List PI, (srt l).Pairwise LeP
  | [] => List.Pairwise.nil
  | p :: l => ins_srt p (srt_srt l)
theorem leP_anti {p q : PI} (h1 : LeP p q) (h2 : LeP q p) : p = q := by
  have a := leP_iff.mp h1
  have b := leP_iff.mp h2
  obtain ⟨x, y⟩ := p
  obtain ⟨x', y'⟩ := q
  have e1 : x = x' := by show x = x'; simp only at a b; omega
  have e2 : y = y' := by simp only at a b; omega
  rw [e1, e2]
/-- there is one sorted list of them -/
theorem srt_uniq : ∀ {l m : List PI}, l.Pairwise LeP → m.Pairwise LeP → l.Perm m → l = m
  | [], m, _, _, h => (List.Perm.eq_nil h.symm).symm
  | x :: l, [], _, _, h => absurd h.length_eq (by simp)
  | x :: l, y :: m, hl, hm, h => by
    have l' := List.pairwise_cons.mp hl
    have m' := List.pairwise_cons.mp hm
    have h1 : LeP y x := by
      rcases List.mem_cons.mp (h.mem_iff.mp (List.mem_cons_self (a := x) (l := l))) with e | z
      · rw [e]; rcases leP_total y y with z | z <;> exact z
      · exact m'.1 x z
    have h2 : LeP x y := by
      rcases List.mem_cons.mp (h.mem_iff.mpr (List.mem_cons_self (a := y) (l := m))) with e | z
      · rw [e]; rcases leP_total x x with z | z <;> exact z
      · exact l'.1 y z
    have e := leP_anti h2 h1
    subst e
    rw [srt_uniq l'.2 m'.2 h.cons_inv]
theorem srt_of {l m : List PI} (h : m.Pairwise LeP) (p : m.Perm l) : m = srt l := srt_uniq h (srt_srt l) (p.trans (srt_perm l).symm)
/-- what a value says as a pair, read off the heap -/
def pOf (H : Hp) : V → Int × Int
  | .ref t => match H t with
    | some (.tup [.int i, .int j]) => (i, j)
    | _ => (0, 0)
  | _ => (0, 0)
theorem pOf_is {H : Hp} {v : V} {d : PI} (h : Is H v d) : ∃ t, v = .ref t ∧ H t = some (.tup [.int (pOf H v).1, .int (pOf H v).2]) ∧ d = ⟨(pOf H v).1, (pOf H v).2⟩ := by
  obtain ⟨t, x, y, rfl, h1, h2, h3⟩ := h
  have h2 : x = .int d.a := h2
  have h3 : y = .int d.b := h3
  subst h2
  subst h3
  have e : pOf H (.ref t) = (d.a, d.b) := by simp only [pOf, h1]
  exact ⟨t, rfl, by rw [e]; exact h1, by rw [e]⟩
theorem all_of {H : Hp} : ∀ {xs : List V} {l : List PI}, IsAll H xs l → l = xs.map fun v => (⟨(pOf H v).1, (pOf H v).2⟩ : PI) := fun {xs l} h => by
  refine List.ext_getElem? fun i => ?_
  rw [List.getElem?_map]
  cases e : xs[i]? with
  | none =>
    have := List.getElem?_eq_none_iff.mp e
    exact List.getElem?_eq_none_iff.mpr (by rw [← h.1]; exact this)
  | some x =>
    obtain ⟨d, hd, hx⟩ := h.get' e
    obtain ⟨t, _, _, q⟩ := pOf_is hx
    rw [hd, q]
    rfl
/-- sorted of a list of pairs -/
theorem sort_pairs {K : PySem.W.Frag} {F H : Hp} {a : Addr} {xs : List V} {l : List PI} {Q : VK} (sF : Same F H) (hx : IsAll F xs l) (ha : SqL K H a xs) (q : ∀ ys p, H p = none → IsAll F ys (srt l) → Q (.ref p) (upd H p (.lst ys))) : rSortQ K [.ref a] H Q := by
  unfold rSortQ
  refine ⟨a, xs, pOf F, rfl, ha, fun x m => ?_, fun ys p hs hb np => q ys p np ?_⟩
  · obtain ⟨i, hi⟩ := List.getElem?_of_mem m
    obtain ⟨d, _, hd⟩ := hx.get' hi
    obtain ⟨t, e, h, _⟩ := pOf_is hd
    exact ⟨t, e, sF _ _ h⟩
  · have el := all_of hx
    have hys : IsAll F ys (ys.map fun v => (⟨(pOf F v).1, (pOf F v).2⟩ : PI)) := by
      refine ⟨by rw [List.length_map], fun i x y h1 h2 => ?_⟩
      rw [List.getElem?_map, h1] at h2
      cases h2
      have m : x ∈ xs := hb.perm.mem_iff.mp (List.mem_of_getElem? h1)
      obtain ⟨j, hj⟩ := List.getElem?_of_mem m
      obtain ⟨d, _, hd⟩ := hx.get' hj
      obtain ⟨t, e, h, e2⟩ := pOf_is hd
      exact ⟨t, _, _, e, h, rfl, rfl⟩
    have es : (ys.map fun v => (⟨(pOf F v).1, (pOf F v).2⟩ : PI)) = srt l := by
      refine srt_of ?_ ?_
      · refine List.pairwise_map.mpr (List.Pairwise.imp (fun {x y} h => ?_) hs)
        have h := SrtO.lexB_no.mp h
        exact leP_iff.mpr (by simp only; omega)
      · rw [el]
        exact hb.perm.map _
    rw [es] at hys
    exact hys
theorem pairs_of {K : PySem.W.Frag} {H : Hp} : ∀ {xs : List V} {l : List PI}, IsAll H xs l → ∃ ps : List Addr, xs = ps.map V.ref ∧ Paired (fun p kv => SqT K H p [kV kv.1, kv.2]) ps (dI l)
  | [], [], _ => ⟨[], rfl, .nil⟩
  | [], d :: l, h => by have := h.1; simp at this
  | x :: xs, [], h => by have := h.1; simp at this
  | x :: xs, d :: l, h => by
    obtain ⟨t, x1, x2, e, h1, h2, h3⟩ := h.2 0 x d rfl rfl
    have h2 : x1 = .int d.a := h2
    have h3 : x2 = .int d.b := h3
    subst h2
    subst h3
    obtain ⟨ps, e2, p⟩ := pairs_of (K := K) (xs := xs) (l := l) ⟨by have := h.1; simpa using this, fun i a b p q => h.2 (i + 1) a b (by simpa using p) (by simpa using q)⟩
    exact ⟨t :: ps, by rw [e, e2]; rfl, .cons (SqT.of h1) p⟩
/-- dict(pairs) -/
theorem dict_pairs {K : PySem.W.Frag} {H : Hp} {a : Addr} {xs : List V} {l : List PI} {Q : VK} (hx : IsAll H xs l) (ha : SqL K H a xs) (q : ∀ p, H p = none → Q (.ref p) (upd H p (.dK (dI (merge [] l))))) : rDictP K [.ref a] H Q := by
  unfold rDictP
  obtain ⟨ps, e, p⟩ := pairs_of (K := K) hx
  refine ⟨a, ps, dI l, rfl, by rw [← e]; exact ha, p, fun d nd => ?_⟩
  have e2 : mergeK [] (dI l) = dI (merge [] l) := dI_merge l []
  rw [e2]
  exact q d nd
/-! ### a dict under its lock -/
theorem lock_in {F H : Hp} {d : Addr} {o : HO} (s : Same F H) : Same (fun c => if c = d then none else F c) (upd H d o) := fun c u h => by
  by_cases e : c = d
  · simp only [e, if_true] at h; cases h
  · simp only [e, if_false] at h
    rw [upd_ne e]; exact s c u h
theorem lock_out {F H F2 H2 : Hp} {d : Addr} {o u : HO} (s : Same F H) (h : H d = some u) (g : Gr mu0 (fun c => if c = d then none else F c) (upd H d o) F2 H2) :
    H2 d = some o ∧ Same F2 (fun c => if c = d then F d else F2 c) ∧ Gr mu0 F H (fun c => if c = d then F d else F2 c) (upd H2 d u) := by
  have n2 : F2 d = none := by
    cases e : F2 d with
    | none => rfl
    | some z =>
      rcases g.nw d z e with k | k
      · simp only [if_true] at k; cases k
      · rw [upd_same] at k; cases k
  refine ⟨g.fr d o upd_same (fun z => z), fun c z e => ?_, ⟨fun c z e => ?_, fun c z e => ?_, fun c z e => ?_, fun c z e m => ?_, fun c e => ?_⟩⟩
  · by_cases k : c = d
    · rw [k, n2] at e; cases e
    · simp only [k, if_false]; exact e
  · by_cases k : c = d
    · simp only [k, if_true]; rw [← k]; exact e
    · simp only [k, if_false]
      exact g.ff c z (by simp only [k, if_false]; exact e)
  · by_cases k : c = d
    · simp only [k, if_true] at e
      rw [k, upd_same, ← h]
      exact s d z e
    · simp only [k, if_false] at e
      rw [upd_ne k]; exact g.fh c z e
  · by_cases k : c = d
    · simp only [k, if_true] at e
      exact .inl (by rw [k]; exact e)
    · simp only [k, if_false] at e
      rcases g.nw c z e with q | q
      · simp only [k, if_false] at q; exact .inl q
      · rw [upd_ne k] at q; exact .inr q
  · by_cases k : c = d
    · rw [k, upd_same]; rw [k, h] at e; exact e
    · rw [upd_ne k]
      exact g.fr c z (by rw [upd_ne k]; exact e) (fun z => z)
  · by_cases k : c = d
    · rw [k, upd_same] at e; cases e
    · rw [upd_ne k] at e
      have q := g.th c e
      rw [upd_ne k] at q; exact q
/-- the signs that aren't 0, in order -/
def nz (p : PI) : Bool := decide (p.b ≠ 0)
def told (l : List PI) : List PI := srt (l.filter nz)
theorem dI_get {l : List PI} {i : Nat} (h : i < l.length) : (dI l)[i]? = some (Sum.inl l[i].a, V.int l[i].b) := by
  unfold dI
  rw [List.getElem?_map, List.getElem?_eq_getElem h]
  rfl
theorem filter_take_succ {l : List PI} {f : PI → Bool} {i : Nat} (h : i < l.length) : (l.take (i + 1)).filter f = (l.take i).filter f ++ (if f l[i] = true then [l[i]] else []) := by
  rw [List.take_add_one, List.getElem?_eq_getElem h, List.filter_append]
  show _ ++ List.filter f [l[i]] = _
  rw [List.filter_cons]
  split <;> rfl
theorem nd_srt {l : List PI} (h : Nd l) : Nd (srt l) := ((srt_perm l).map (fun p : PI => p.a)).nodup_iff.mpr h
theorem mem_srt {l : List PI} {q : PI} : q ∈ srt l ↔ q ∈ l := (srt_perm l).mem_iff
theorem mem_put {l : List PI} {x v : Int} {q : PI} (m : q ∈ put l x v) : q ∈ l ∨ q = ⟨x, v⟩ := by
  unfold put at m
  split at m
  · obtain ⟨z, hz, e⟩ := List.mem_map.mp m
    split at e
    · rename_i h1 h2
      exact .inr (by rw [← e, h2])
    · exact .inl (by rw [← e]; exact hz)
  · rcases List.mem_append.mp m with m | m
    · exact .inl m
    · exact .inr (List.mem_singleton.mp m)
/-! ### sorted(d.items()), d a dict of ints to ints -/
section
open PySem.Spec PyProof.Rows
variable {X : Cx}
/-- many new things are tracked at once -/
theorem inv_many {pins : List (Addr × Obj)} {σ : L2.St} {H H' : Hp} {s : Shared} {h' : Heap} {tk : Nat} {as : List Addr} (I : Inv X pins σ H s) (k : ∀ b o, s.heap.get? b = some o → h'.get? b = some o) (hp : ∀ a ∈ as, s.heap.objs.size ≤ a)
    (p1 : ∀ b, b ∉ as → H' b = H b) (p2 : ∀ b ∈ as, ∀ o, H' b = some o → ObjOk X.prog X.w H' h' b o) : Inv X pins σ H' { s with heap := h', toks := tk } := by
  have old : ∀ b o, s.heap.get? b = some o → b ∉ as := fun b o e z => Nat.lt_irrefl _ (Nat.lt_of_lt_of_le (Heap.lt_size e) (hp b z))
  have trc : ∀ b o, H b = some o → b ∉ as := fun b o e z => by
    have := I.hok.lt e
    exact Nat.lt_irrefl _ (Nat.lt_of_lt_of_le this (hp b z))
  have kp : ∀ b o, H b = some o → H' b = some o := fun b o e => by rw [p1 b (trc b o e)]; exact e
  refine I.un ⟨fun b o q _ _ _ => k b o q, fun b o q _ _ _ => ⟨o.slots, k b o q⟩, fun b o q n _ => by rw [p1 b (old b o q)]; exact n, fun b o q _ => ⟨o, k b o q⟩, fun b xs e => kp b _ e, fun b o u e => kp b _ e, fun b ps e => ⟨#[], by rw [kp b _ e]; simp⟩⟩ fun b o e => ?_
  by_cases m : b ∈ as
  · exact p2 b m o e
  · rw [p1 b m] at e
    exact (I.hok b o e).stay (fun c u _ q => k c u q) (fun c q => kp c _ q) fun c xs q => kp c _ q
/-- the pair that stands at a -/
def pzAt (zs : List (Addr × PI)) (a : Addr) : Option PI := (zs.find? fun z => decide (z.1 = a)).map (·.2)
theorem pzAt_ix : ∀ {zs : List (Addr × PI)}, (zs.map (·.1)).Nodup → ∀ {j : Nat} {z : Addr × PI}, zs[j]? = some z → pzAt zs z.1 = some z.2
  | [], _, j, z, h => by cases h
  | y :: ys, nd, 0, z, h => by
    have e := Option.some.inj h
    subst e
    simp [pzAt]
  | y :: ys, nd, j + 1, z, h => by
    have nd' := List.nodup_cons.mp nd
    have m : z.1 ∈ ys.map (·.1) := List.mem_map.mpr ⟨z, List.mem_of_getElem? (show ys[j]? = some z from h), rfl⟩
    have ih := pzAt_ix nd'.2 (show ys[j]? = some z from h)
    have ne : ¬ y.1 = z.1 := fun e => nd'.1 (by show y.1 ∈ _; rw [e]; exact m)
    unfold pzAt at ih ⊢
    rw [List.find?_cons, decide_eq_false ne]
    exact ih
theorem pzAt_no {zs : List (Addr × PI)} {a : Addr} (h : a ∉ zs.map (·.1)) : pzAt zs a = none := by
  unfold pzAt
  rw [List.find?_eq_none.mpr fun z m e => h (List.mem_map.mpr ⟨z, m, of_decide_eq_true e⟩)]
  rfl
def trk (H : Hp) (B : Addr) (L : HO) (zs : List (Addr × PI)) : Hp := fun b => if b = B then some L else match pzAt zs b with
  | some q => some (.tup [.int q.a, .int q.b])
  | none => H b
def adOf : Value → Addr
  | .ref a => a
  | _ => 0
@[irreducible] def rSortIt : V → Hp → VK → Prop := fun x H Q => ∃ (d : Addr) (l : List PI), x = .ref d ∧ H d = some (.dK (dI l)) ∧
  ∀ (H' : Hp) (p : Addr) (ys : List Addr), Same H H' → H p = none → (∀ t ∈ ys, H t = none) → p ∉ ys → (∀ b, b ≠ p → b ∉ ys → H' b = H b) → H' p = some (.lst (ys.map V.ref)) → All2 (fun t (q : PI) => H' t = some (.tup [.int q.a, .int q.b])) ys (srt l) → Q (.ref p) H'
def tSortIt (te : TE) : TE := fun σ H Q => te σ H fun x H1 => rSortIt x H1 Q
theorem pe_sortedItems {e : Expr} {te : TE} {p apos cpos pos : Pos} (hc : X.calm = true) (he : PE X e te) (hg : Gl X "sorted") (hm : X.mg "sorted" = none) (hv : bootBuiltins "sorted" = some (.builtin "sorted")) (hbase : attributeBase e "items" X.env (eval e X.env) = eval e X.env := by rfl) (hline : (apos.endLine == cpos.line) = true := by rfl)
    (hs : starEach [.Call (.Attribute e "items" apos) [] [] cpos] X.env = (false, eval (.Call (.Attribute e "items" apos) [] [] cpos) X.env) :: starEach [] X.env := by rfl) :
    PE X (.Call (.Name "sorted" p) [.Call (.Attribute e "items" apos) [] [] cpos] [] pos) (tSortIt te) := by
  refine ⟨fun pins s σ H Q I hq => ?_⟩
  refine wpAny_Call_Name_kw (ld_blt I hg hm hv ?_)
  refine PyProof.Rows.callWith_builtin1 ?_ hs rfl
  rw [hs]
  show wpAny _ _ (spliced ((false, eval (.Call (.Attribute e "items" apos) [] [] cpos) X.env) :: backTo pos (starEach [] X.env))) _ _ s
  refine Calls.spliced_cons ?_
  refine wpAny_Call_method (T := "dict") (id := "dict.items") hbase rfl hline F.plainAttrs_dict F.slot_dict_items F.type_dict_items (thn (he.run pins s σ H _ I hq) fun u s1 ⟨x, H1, I1, rx, q⟩ => ?_)
  unfold rSortIt at q
  obtain ⟨d, l, rfl, hd, q⟩ := q
  obtain rfl : u = Value.ref d := rx
  obtain ⟨hz, hs0, vs, kv, hdo⟩ := I1.hok d _ hd
  obtain ⟨ep, hat⟩ := hdo.dictAt
  have lk : (dI l).length = vs.length := Paired.length kv
  have ll : (dI l).length = l.length := by unfold dI; rw [List.length_map]
  refine ⟨hdo.typeIs, hdo.mapOf.noDict, ?_⟩
  show wpAny _ _ (callWith cpos (.builtin "dict.items") [.ref d] [] []) _ X.xe s1
  refine method_meetsIn F.slot_dict_items F.entry_dict_items rfl (PySem.evalArgs_none ⟨rfl, hdo.typeIs, F.args_dict_items_1 _, _, meets_dict_items (mixKind X.prog X.w) d hs0, ⟨vs, hdo⟩, ?_⟩)
  refine Calls.spliced_nil ?_
  have I2 : Inv X pins σ H1 { s1 with heap := s1.heap.push { cls := .type "dict_items", data := .fields #[.ref d] } } := I1.kept (t' := s1.toks) fun b ob q => Heap.get?_push_of_some _ q
  have hB : ((H1 d).isSome) = true := by rw [hd]; rfl
  refine Calls.call_function_entry kind_sorted plain_sorted entry_sorted (args_sorted1 _) (by
    unfold Builtin.«sorted»
    refine wpAny_bind (m := checkCount "sorted" 1 1 _) (wpAny_pure (wpAny_bind (PySem.W.kdx_collect (knd := mixKind X.prog X.w) (kvs := vs) (ep := ep) (I1.ok.hd hc) ⟨_, Heap.get?_push_size _ rfl, rfl, rfl⟩ (hat.push _) (by omega) fun h1 tk as hk hl hG => ?_)))
    refine wpAny_bind (wpAny_newList ?_ (by rw [List.length_map, hl]; omega))
    -- the pairs' tuples: at as
    have nd : as.Nodup := hG.rise.imp fun {a b} h => Nat.ne_of_lt h
    have lz : (as.zip l).map (·.1) = as := List.map_fst_zip (by omega)
    have zx : ∀ (j : Nat) (a : Addr), as[j]? = some a → ∃ (q : PI) (t u : Tok), l[j]? = some q ∧ pzAt (as.zip l) a = some q ∧ h1.get? a = some { cls := .type "tuple", data := .seq #[.int q.a t, .int q.b u] } := fun j a h => by
      obtain ⟨key, k, x, e1, e2, e3⟩ := hG.pairs j a h
      have jl : j < l.length := by have := (List.getElem?_eq_some_iff.mp h).1; omega
      have lj : l[j]? = some l[j] := List.getElem?_eq_getElem jl
      obtain ⟨y, e4, e5, e6⟩ := LiI.paired_get kv (dI_get jl)
      rw [e1] at e4
      have e4 := Option.some.inj e4
      subst e4
      obtain ⟨i, tk1, e7, rfl⟩ | ⟨z, tk1, e7, _⟩ := keyIs_shape (show keyIs k key = true from e2)
      · have e5 : Sum.inl l[j].a = k := e5
        rw [e7] at e5
        have e5 := Sum.inl.inj e5
        subst e5
        obtain ⟨tk2, e6⟩ := (show RelV (.int l[j].b) x from e6)
        subst e6
        exact ⟨l[j], tk1, tk2, lj, pzAt_ix (zs := as.zip l) (by rw [lz]; exact nd) (j := j) (z := (a, l[j])) (List.getElem?_zip_eq_some.mpr ⟨h, lj⟩), e3⟩
      · have e5 : Sum.inl l[j].a = k := e5
        rw [e7] at e5
        cases e5
    have zm : ∀ a ∈ as, ∃ (q : PI) (t u : Tok), pzAt (as.zip l) a = some q ∧ h1.get? a = some { cls := .type "tuple", data := .seq #[.int q.a t, .int q.b u] } := fun a m => by
      obtain ⟨j, hj⟩ := List.getElem?_of_mem m
      obtain ⟨q, t, u, _, h2, h3⟩ := zx j a hj
      exact ⟨q, t, u, h2, h3⟩
    have lm : as.map (fun a => (pzAt (as.zip l) a).getD ⟨0, 0⟩) = l := by
      refine List.ext_getElem? fun j => ?_
      rw [List.getElem?_map]
      cases hj : as[j]? with
      | none =>
        have := List.getElem?_eq_none_iff.mp hj
        exact (List.getElem?_eq_none_iff.mpr (by omega)).symm
      | some a =>
        obtain ⟨q, t, u, h1, h2, _⟩ := zx j a hj
        rw [h1, Option.map_some, h2]; rfl
    generalize ezs : as.zip l = zs at zx zm lm lz
    have s12 : (s1.heap.push { cls := .type "dict_items", data := .fields #[.ref d] }).objs.size ≤ h1.objs.size := by
      have := Heap.lt_size (hk _ _ (Heap.get?_push_size s1.heap rfl))
      rw [Heap.size_push]; exact this
    have Bn : h1.objs.size ∉ as := fun z => Nat.lt_irrefl _ (hG.there z)
    let kk : Value → Int × Int := fun v => (((pzAt zs (adOf v)).getD ⟨0, 0⟩).a, ((pzAt zs (adOf v)).getD ⟨0, 0⟩).b)
    have ho : (h1.push { cls := .type "list", data := .seq (as.map Value.ref).toArray }).get? h1.objs.size = some (seqObj "list" (as.map Value.ref).toArray 0) := Heap.get?_push_size _ rfl
    refine wpAny_bind (wpAny_holding (wpAny_call_entry slot_list_sort ⟨_, ho, rfl⟩ entry_list_sort (SrtO.list_sort_ord (ltv := fun v u => SrtO.lexB (kk v) (kk u)) (SrtO.swo_lex kk) ho (by rw [List.length_map, hl]; omega) (fun h2 => ?_) fun out hso hbo => ⟨_, rfl, wpAny_pure ⟨_, rfl, ?_⟩⟩) (args_list_sort _)))
    · refine SrtO.pairs_sortableO (k := kk) (by omega) (fun v m => ?_) fun o e => ?_
      · obtain ⟨a, ma, rfl⟩ := List.mem_map.mp m
        obtain ⟨q, t, u, h1', h2'⟩ := zm a ma
        refine ⟨a, _, t, u, 0, rfl, Heap.get?_push_of_some _ h2', rfl, ?_⟩
        show _ = Data.seq #[.int ((pzAt zs a).getD ⟨0, 0⟩).a t, .int ((pzAt zs a).getD ⟨0, 0⟩).b u] 0
        rw [h1']
        rfl
      · rw [ho] at e
        cases e
        intro c
        exact absurd (Value.type.inj c) (by decide)
    · have outp : out.Perm (as.map Value.ref) := hbo.perm
      have oe : out = (out.map adOf).map Value.ref := by
        rw [List.map_map]
        refine (List.map_id out).symm.trans (List.map_congr_left fun v m => ?_)
        obtain ⟨a, _, rfl⟩ := List.mem_map.mp (outp.mem_iff.mp m)
        rfl
      have yp : (out.map adOf).Perm as := by
        have := outp.map adOf
        rw [List.map_map] at this
        have e : as.map (adOf ∘ Value.ref) = as := (List.map_congr_left fun a _ => rfl).trans (List.map_id as)
        rw [e] at this; exact this
      generalize out.map adOf = ys at oe yp
      have lo : out.length ≤ sizeLine := by rw [oe, List.length_map, yp.length_eq, hl]; omega
      obtain ⟨ep3, h3B⟩ := sortedHeap_at (vs := as.map Value.ref) (out := out.toArray) ho
      have h3o : ∀ b o, h1.get? b = some o → (sortedHeap (h1.push { cls := .type "list", data := .seq (as.map Value.ref).toArray }) h1.objs.size (as.map Value.ref) out.toArray).get? b = some o := fun b o e => by
        have bl := Heap.lt_size e
        rw [sortedHeap_old (Nat.ne_of_lt bl) (by rw [Heap.size_push]; exact Nat.lt_succ_of_lt bl)]
        exact Heap.get?_push_of_some _ e
      have tB : trk H1 h1.objs.size (.lst (ys.map V.ref)) zs h1.objs.size = some (.lst (ys.map V.ref)) := by unfold trk; rw [if_pos rfl]
      have tT : ∀ a ∈ as, ∀ q, pzAt zs a = some q → trk H1 h1.objs.size (.lst (ys.map V.ref)) zs a = some (.tup [.int q.a, .int q.b]) := fun a m q e => by
        unfold trk
        rw [if_neg (fun z => Bn (by rw [← z]; exact m)), e]
      have tO : ∀ b, b ≠ h1.objs.size → b ∉ as → trk H1 h1.objs.size (.lst (ys.map V.ref)) zs b = H1 b := fun b n m => by
        unfold trk
        rw [if_neg n, pzAt_no (by rw [lz]; exact m)]
      have big : ∀ a ∈ h1.objs.size :: as, (s1.heap.push { cls := .type "dict_items", data := .fields #[.ref d] }).objs.size ≤ a := fun a m => by
        rcases List.mem_cons.mp m with rfl | m
        · exact s12
        · exact Nat.le_of_lt (hG.above a m)
      have J := inv_many (tk := tk) (H' := trk H1 h1.objs.size (.lst (ys.map V.ref)) zs) (h' := sortedHeap (h1.push { cls := .type "list", data := .seq (as.map Value.ref).toArray }) h1.objs.size (as.map Value.ref) out.toArray) (as := h1.objs.size :: as) I2 (fun b o e => h3o b o (hk b o e)) big
          (fun b m => tO b (fun z => m (by rw [z]; exact List.mem_cons_self)) (fun z => m (List.mem_cons_of_mem _ z))) (fun b m o e => by
        by_cases hb : b = h1.objs.size
        · subst hb
          rw [tB] at e
          cases e
          refine ⟨by rw [List.length_map, yp.length_eq, hl]; omega, out, ep3, ?_, h3B⟩
          rw [oe]
          exact LiI.vals_refs ys
        · have m := (List.mem_cons.mp m).resolve_left hb
          obtain ⟨q, t, u, e1, e2⟩ := zm b m
          rw [tT b m q e1] at e
          cases e
          exact ⟨two_le, [.int q.a t, .int q.b u], .cons ⟨_, rfl⟩ (.cons ⟨_, rfl⟩ .nil), ⟨_, h3o b _ e2, rfl, _, rfl⟩⟩)
      have fr1 : ∀ a ∈ h1.objs.size :: as, H1 a = none := fun a m => I2.hok.fresh (big a m)
      have ym : ∀ a, a ∈ ys ↔ a ∈ as := fun a => yp.mem_iff
      refine ⟨.ref h1.objs.size, _, J, rfl, q _ _ ys (fun b o e => ?_) (fr1 _ List.mem_cons_self) (fun t m => fr1 t (List.mem_cons_of_mem _ ((ym t).mp m))) (fun z => Bn ((ym _).mp z)) (fun b n m => tO b n fun z => m ((ym b).mpr z)) tB ?_⟩
      · rw [tO b (fun z => by rw [z, fr1 _ List.mem_cons_self] at e; cases e) (fun z => by rw [fr1 b (List.mem_cons_of_mem _ z)] at e; cases e)]
        exact e
      · have es : ys.map (fun a => (pzAt zs a).getD ⟨0, 0⟩) = srt l := by
          refine srt_of ?_ (by rw [← lm]; exact yp.map _)
          rw [oe] at hso
          have hso := List.pairwise_map.mp hso
          refine List.pairwise_map.mpr (hso.imp fun {x y} h => ?_)
          have h := SrtO.lexB_no.mp h
          exact leP_iff.mpr (by simp only [kk, adOf] at h; omega)
        rw [← es]
        refine ⟨by rw [List.length_map], fun i x y h1 h2 => ?_⟩
        rw [List.getElem?_map, h1] at h2
        cases h2
        have m := (ym x).mp (List.mem_of_getElem? h1)
        obtain ⟨q, t, u, e1, e2⟩ := zm x m
        rw [tT x m q e1]
        show _ = some (HO.tup [V.int ((pzAt zs x).getD ⟨0, 0⟩).a, V.int ((pzAt zs x).getD ⟨0, 0⟩).b])
        rw [e1]
        rfl)
theorem sitems {F H : Hp} {d : Addr} {l : List PI} {Q : VK} (sF : Same F H) (hd : H d = some (.dK (dI l))) (q : ∀ (F' H' : Hp) (p : Addr) (xs : List V), Gr mu0 F H F' H' → Ow H F' H' p (.lst xs) → IsAll F' xs (srt l) → Q (.ref p) H') : rSortIt (.ref d) H Q := by
  unfold rSortIt
  refine ⟨d, l, rfl, hd, fun H' p ys s n nt pn off hp al => ?_⟩
  have fy : ∀ b ∈ ys, F b = none := fun b m => sF.free (nt b m)
  have s' : Same F (fun b => if b ∈ ys then H' b else F b) := fun b o e => by
    by_cases m : b ∈ ys
    · rw [fy b m] at e; cases e
    · simp only [m, if_false]; exact e
  have e2 : ∀ b, b ∈ ys → (if b ∈ ys then H' b else F b) = H' b := fun b m => if_pos m
  refine q (fun b => if b ∈ ys then H' b else F b) H' p (ys.map V.ref) ⟨s', fun b o e => ?_, fun b o e => ?_, fun b o e _ => s b o e, fun b e => s.free e⟩ ⟨n, ?_, hp⟩ ⟨by rw [List.length_map]; exact al.1, fun i x y h1 h2 => ?_⟩
  · by_cases m : b ∈ ys
    · simp only [m, if_true] at e; exact e
    · simp only [m, if_false] at e; exact s b o (sF b o e)
  · by_cases m : b ∈ ys
    · exact .inr (nt b m)
    · simp only [m, if_false] at e; exact .inl e
  · show (if p ∈ ys then H' p else F p) = none
    rw [if_neg pn]; exact sF.free n
  · rw [List.getElem?_map] at h1
    cases e : ys[i]? with
    | none => rw [e] at h1; cases h1
    | some t =>
      rw [e] at h1
      cases h1
      refine ⟨t, _, _, rfl, ?_, rfl, rfl⟩
      show (if t ∈ ys then H' t else F t) = _
      rw [if_pos (List.mem_of_getElem? e)]
      exact al.2 i t y e h2
end
/-! ### sum of a tuple; a tuple not at all or once -/
section
open PySem.Spec PyProof.Rows
variable {X : Cx}
def rSumT (K : PySem.W.Frag) : List V → Hp → VK → Prop := fun vs H Q => ∃ (a : Addr) (ns : List Int), vs = [V.ref a] ∧ SqT K H a (ns.map V.int) ∧ Q (.int ns.sum) H
theorem cr_sumT (hc : X.calm = true) : CallR X (.builtin "sum") (rSumT X.K) := by
  intro pins s σ H vs us Q I r h
  obtain ⟨a, ns, rfl, ht, q⟩ := h
  obtain ⟨its, rv, ⟨o, ho, hcl, n, hd⟩, _⟩ := I.tuple ht
  have hi := rv.ints
  obtain ⟨xs, e⟩ := hi.allInts.items
  have hn : numsOf (intItems xs).toList = ns := by rw [← e]; exact hi.numsOf
  rw [nums_intItems] at hn
  rw [e] at hd
  rw [Vals.ref1 r]
  refine PySem.W.ktm_sumG (I.ok.hd hc) ⟨o, ho, hcl, n, hd⟩ fun h' tk t' hk => ?_
  rw [preSum_eq, List.take_of_length_le (by simp), hn]
  exact ⟨.int _, H, I.kept hk, ⟨_, rfl⟩, q⟩
theorem tup_mul1 (l : Addr) (items : Array Value) (n : Nat) (dd : Option Addr) (sl : Array (Option Value)) (u : Tok) (hne : items.isEmpty = false) :
    Meets (Builtin.«tuple.__mul__» ⟨[.ref l, .int 1 u], []⟩) (fun _ R s => s.heap.get? l = some { cls := .type "tuple", dict := dd, data := .seq items n, slots := sl } ∧ R (.ok (.ret (Value.ref l))) s) :=
  .of_wp fun prog w A R s h => by
    obtain ⟨hp, g, d, tk, os⟩ := s
    obtain ⟨hl, h⟩ := h
    have f1 := AutoSeq1.idx_int
    wp_walk using wpAny_loadPart' hl
    exact ⟨_, rfl, h⟩
theorem tup_mul0 (l : Addr) (items : Array Value) (n : Nat) (dd : Option Addr) (sl : Array (Option Value)) (u : Tok) (hne : items.isEmpty = false) :
    Meets (Builtin.«tuple.__mul__» ⟨[.ref l, .int 0 u], []⟩) (fun _ R s => s.heap.get? l = some { cls := .type "tuple", dict := dd, data := .seq items n, slots := sl } ∧
      R (.ok (.ret (Value.ref s.heap.objs.size))) { s with heap := s.heap.push { cls := Value.type "tuple", data := Data.seq #[] }, toks := s.toks }) :=
  .of_wp fun prog w A R s h => by
    obtain ⟨hp, g, d, tk, os⟩ := s
    obtain ⟨hl, h⟩ := h
    have f1 := AutoSeq1.idx_int
    wp_walk using wpAny_loadPart' hl
    exact ⟨_, rfl, h⟩
def rRep01 (K : PySem.W.Frag) : R2 := fun x y H Q => ∃ l k xs, x = .ref l ∧ y = .int k ∧ SqT K H l xs ∧ xs ≠ [] ∧ ((k = 1 ∧ Q (.ref l) H) ∨ (k = 0 ∧ ∀ p, H p = none → Q (.ref p) (upd H p (.tup []))))
theorem op_rep01 : OpR X (binaryOp .Mult) (rRep01 X.K) := by
  intro pins s σ H x y v u Q I rx ry h
  obtain ⟨l, k, xs, rfl, rfl, hT, hne, h⟩ := h
  cases rx
  obtain ⟨tk, rfl⟩ := ry
  obtain ⟨its, r, ⟨⟨cls, dd, data, sl⟩, ho, hc, n, hd⟩, hs⟩ := I.tuple hT
  simp only at hc hd
  subst hc hd
  have hi : its.toArray.isEmpty = false := by
    cases its with
    | nil => have := r.length; exact absurd (List.eq_nil_of_length_eq_zero this) hne
    | cons a b => rfl
  rcases h with ⟨rfl, q⟩ | ⟨rfl, q⟩
  · refine wpAny_binaryOp_repeat_ref (T := "tuple") (U := "int") (by decide) ⟨_, ho, rfl⟩ (fun s' => typeIs_int s' 1 tk) noFill_tuple_mul F.fills_int_mul F.slot_int_rmul repeat_tuple F.slot_int_index.lookup
      (call_meets F.slot_int_rmul (typeIs_int s 1 tk) F.entry_int_rmul (F.args_int_rmul_2 _ _) (int_rmul_tuple 1 tk l its.toArray n dd sl)
        ⟨ho, rfl, ⟨_, ho, rfl⟩, call_meets F.slot_tuple_mul ⟨_, ho, rfl⟩ F.entry_tuple_mul (F.args_tuple_mul_2 _ _) (tup_mul1 l its.toArray n dd sl tk hi) ⟨ho, ?_⟩⟩)
    exact ⟨.ref l, H, I, rfl, q⟩
  · refine wpAny_binaryOp_repeat_ref (T := "tuple") (U := "int") (by decide) ⟨_, ho, rfl⟩ (fun s' => typeIs_int s' 0 tk) noFill_tuple_mul F.fills_int_mul F.slot_int_rmul repeat_tuple F.slot_int_index.lookup
      (call_meets F.slot_int_rmul (typeIs_int s 0 tk) F.entry_int_rmul (F.args_int_rmul_2 _ _) (int_rmul_tuple 0 tk l its.toArray n dd sl)
        ⟨ho, rfl, ⟨_, ho, rfl⟩, call_meets F.slot_tuple_mul ⟨_, ho, rfl⟩ F.entry_tuple_mul (F.args_tuple_mul_2 _ _) (tup_mul0 l its.toArray n dd sl tk hi) ⟨ho, ?_⟩⟩)
    refine ⟨.ref s.heap.objs.size, _, I.laid (t' := s.toks) (o := .tup []) (fun b ob q => Heap.get?_push_of_some _ q) (Nat.le_refl _) ?_, rfl, q _ (I.hok.fresh (Nat.le_refl _))⟩
    exact ⟨nil_le, _, .nil, IsTup.new _ _⟩
end
/-! slices of tuples, +: the ways -/
@[irreducible] def rSlQ (K : PySem.W.Frag) : V → Option Int → Option Int → Hp → VK → Prop := rSlA K
theorem sl_tupQ {X : Cx} : SlR X (rSlQ X.K) := by
  unfold rSlQ
  exact sl_tupA
@[irreducible] def rCatQ (K : PySem.W.Frag) : R2 := rCatA K
theorem op_catQ {X : Cx} : OpR X (binaryOp .Add) (rCatQ X.K) := by
  unfold rCatQ
  exact op_catA
theorem slA_all {K : PySem.W.Frag} {H : Hp} {a : Addr} {xs : List V} {lo hi : Option Int} {Q : VK} (h : SqT K H a xs) (w : HT.sIx xs.length 0 lo = 0 ∧ HT.sIx xs.length xs.length hi = xs.length) (q : Q (.ref a) H) : rSlQ K (.ref a) lo hi H Q := by
  unfold rSlQ
  exact ⟨a, xs, rfl, h, fun _ => q, fun n => absurd w n⟩
theorem slA_cut {K : PySem.W.Frag} {H : Hp} {a : Addr} {xs : List V} {lo hi : Option Int} {Q : VK} (h : SqT K H a xs) (w : ¬ (HT.sIx xs.length 0 lo = 0 ∧ HT.sIx xs.length xs.length hi = xs.length)) (q : ∀ p, H p = none → Q (.ref p) (upd H p (.tup (cutV xs lo hi)))) : rSlQ K (.ref a) lo hi H Q := by
  unfold rSlQ
  exact ⟨a, xs, rfl, h, fun n => absurd n w, fun _ => q⟩
theorem catA_nil {K : PySem.W.Frag} {H : Hp} {a b : Addr} {ys : List V} {Q : VK} (h : SqT K H a []) (h2 : SqT K H b ys) (l : ys.length ≤ sizeLine) (q : Q (.ref b) H) : rCatQ K (.ref a) (.ref b) H Q := by
  unfold rCatQ
  exact ⟨a, b, [], ys, rfl, rfl, h, h2, by simpa using l, fun _ => q, fun n => absurd rfl n, fun n => absurd rfl n⟩
theorem catA_new {K : PySem.W.Frag} {H : Hp} {a b : Addr} {xs ys : List V} {Q : VK} (h : SqT K H a xs) (h2 : SqT K H b ys) (l : xs.length + ys.length ≤ sizeLine) (n1 : xs ≠ []) (n2 : ys ≠ []) (q : ∀ p, H p = none → Q (.ref p) (upd H p (.tup (xs ++ ys)))) : rCatQ K (.ref a) (.ref b) H Q := by
  unfold rCatQ
  exact ⟨a, b, xs, ys, rfl, rfl, h, h2, l, fun e => absurd e n1, fun _ e => absurd e n2, fun _ _ => q⟩
def top (i : Nat) : Stmt := PySem.Challenge.pw_endnever_k15_papers_shown.main.body.getD i (.Pass ⟨0, 0, 0, 0⟩)
abbrev s_L_mixed : Stmt := top 3
abbrev N_L_mixed : List Str := ["_law_cell", "_law_k", "_law_rest", "_law_number_here"]
theorem sc_L_mixed : FnScope ["_law_cell", "_law_k", "_law_rest", "_law_number_here"] ["_law_cell", "_law_k"] (defScope s_L_mixed) := ⟨rfl, rfl, rfl, by decide +kernel, rfl, by decide +kernel, by decide +kernel⟩
abbrev s_L_purse : Stmt := top 4
abbrev N_L_purse : List Str := ["_law_script", "_law_cells", "_law_number_here", "_law_k"]
theorem sc_L_purse : FnScope ["_law_script", "_law_cells", "_law_number_here", "_law_k"] ["_law_script"] (defScope s_L_purse) := ⟨rfl, rfl, rfl, by decide +kernel, rfl, by decide +kernel, by decide +kernel⟩
abbrev s_L_draw : Stmt := top 5
abbrev N_L_draw : List Str := ["_law_purse_here", "_law_out_of", "_law_drawn"]
theorem sc_L_draw : FnScope ["_law_purse_here", "_law_out_of", "_law_drawn"] ["_law_purse_here", "_law_out_of"] (defScope s_L_draw) := ⟨rfl, rfl, rfl, by decide +kernel, rfl, by decide +kernel, by decide +kernel⟩
abbrev s_L_number : Stmt := top 6
abbrev N_L_number : List Str := ["_law_purse_here"]
theorem sc_L_number : FnScope ["_law_purse_here"] ["_law_purse_here"] (defScope s_L_number) := ⟨rfl, rfl, rfl, by decide +kernel, rfl, by decide +kernel, by decide +kernel⟩
abbrev s_L_word_of : Stmt := top 7
abbrev N_L_word_of : List Str := ["_law_purse_here", "_law_width", "_law_k"]
theorem sc_L_word_of : FnScope ["_law_purse_here", "_law_width", "_law_k"] ["_law_purse_here", "_law_width"] (defScope s_L_word_of) := ⟨rfl, rfl, rfl, by decide +kernel, rfl, by decide +kernel, by decide +kernel⟩
abbrev s_L_paper : Stmt := top 8
abbrev N_L_paper : List Str := ["_law_purse_here", "_law_kind", "_law_width", "_law_lots", "_law_k", "_law_j", "_law_middles", "_law_ends"]
theorem sc_L_paper : FnScope ["_law_purse_here", "_law_kind", "_law_width", "_law_lots", "_law_k", "_law_j", "_law_middles", "_law_ends"] ["_law_purse_here"] (defScope s_L_paper) := ⟨rfl, rfl, rfl, by decide +kernel, rfl, by decide +kernel, by decide +kernel⟩
abbrev s_L_kept : Stmt := top 10
abbrev N_L_kept : List Str := ["_law_paper_here", "_law_found", "_law_thing"]
theorem sc_L_kept : FnScope ["_law_paper_here", "_law_found", "_law_thing"] ["_law_paper_here"] (defScope s_L_kept) := ⟨rfl, rfl, rfl, by decide +kernel, rfl, by decide +kernel, by decide +kernel⟩
abbrev s_L_due : Stmt := top 9
abbrev N_L_due : List Str := ["_law_paper_here", "_law_words", "_law_thing"]
theorem sc_L_due : FnScope ["_law_paper_here", "_law_words", "_law_thing"] ["_law_paper_here"] (defScope s_L_due) := ⟨rfl, rfl, rfl, by decide +kernel, rfl, by decide +kernel, by decide +kernel⟩
abbrev s_show_paper : Stmt := top 1
abbrev N_show_paper : List Str := ["paper", "some", "number"]
theorem sc_show_paper : FnScope ["paper", "some", "number"] ["paper"] (defScope s_show_paper) := ⟨rfl, rfl, rfl, by decide +kernel, rfl, by decide +kernel, by decide +kernel⟩
abbrev s_law : Stmt := top 11
abbrev N_law : List Str := ["_law_script", "_law_purse_here", "_law_k", "_law_paper_here", "_law_kept_here", "_law_due_here", "_law_turn", "_law_text"]
theorem sc_law : FnScope ["_law_script", "_law_purse_here", "_law_k", "_law_paper_here", "_law_kept_here", "_law_due_here", "_law_turn", "_law_text"] ["_law_script"] (defScope s_law) := ⟨rfl, rfl, rfl, by decide +kernel, rfl, by decide +kernel, by decide +kernel⟩
/-- what the top has written: where each def stands, what the names hold -/
structure Tx (K : PySem.W.Frag) (mg : Str → Option Value) where
  a_L_mixed : Addr
  fd_L_mixed : FuncData
  F_L_mixed : Fun K "_law_mixed" "_law_mixed" s_L_mixed a_L_mixed fd_L_mixed
  b_L_mixed : Binds K fd_L_mixed ["_law_cell", "_law_k"] []
  m_L_mixed : mg "_law_mixed" = some (.ref a_L_mixed)
  a_L_purse : Addr
  fd_L_purse : FuncData
  F_L_purse : Fun K "_law_purse" "_law_purse" s_L_purse a_L_purse fd_L_purse
  b_L_purse : Binds K fd_L_purse ["_law_script"] []
  m_L_purse : mg "_law_purse" = some (.ref a_L_purse)
  a_L_draw : Addr
  fd_L_draw : FuncData
  F_L_draw : Fun K "_law_draw" "_law_draw" s_L_draw a_L_draw fd_L_draw
  b_L_draw : Binds K fd_L_draw ["_law_purse_here", "_law_out_of"] []
  m_L_draw : mg "_law_draw" = some (.ref a_L_draw)
  a_L_number : Addr
  fd_L_number : FuncData
  F_L_number : Fun K "_law_number" "_law_number" s_L_number a_L_number fd_L_number
  b_L_number : Binds K fd_L_number ["_law_purse_here"] []
  m_L_number : mg "_law_number" = some (.ref a_L_number)
  a_L_word_of : Addr
  fd_L_word_of : FuncData
  F_L_word_of : Fun K "_law_word_of" "_law_word_of" s_L_word_of a_L_word_of fd_L_word_of
  b_L_word_of : Binds K fd_L_word_of ["_law_purse_here", "_law_width"] []
  m_L_word_of : mg "_law_word_of" = some (.ref a_L_word_of)
  a_L_paper : Addr
  fd_L_paper : FuncData
  F_L_paper : Fun K "_law_paper" "_law_paper" s_L_paper a_L_paper fd_L_paper
  b_L_paper : Binds K fd_L_paper ["_law_purse_here"] []
  m_L_paper : mg "_law_paper" = some (.ref a_L_paper)
  a_L_kept : Addr
  fd_L_kept : FuncData
  F_L_kept : Fun K "_law_kept" "_law_kept" s_L_kept a_L_kept fd_L_kept
  b_L_kept : Binds K fd_L_kept ["_law_paper_here"] []
  m_L_kept : mg "_law_kept" = some (.ref a_L_kept)
  a_L_due : Addr
  fd_L_due : FuncData
  F_L_due : Fun K "_law_due" "_law_due" s_L_due a_L_due fd_L_due
  b_L_due : Binds K fd_L_due ["_law_paper_here"] []
  m_L_due : mg "_law_due" = some (.ref a_L_due)
  a_show_paper : Addr
  fd_show_paper : FuncData
  F_show_paper : Fun K "show_paper" "show_paper" s_show_paper a_show_paper fd_show_paper
  b_show_paper : Binds K fd_show_paper ["paper"] []
  m_show_paper : mg "show_paper" = some (.ref a_show_paper)
  a_law : Addr
  fd_law : FuncData
  F_law : Fun K "law" "law" s_law a_law fd_law
  b_law : Binds K fd_law ["_law_script"] []
  m_law : mg "law" = some (.ref a_law)
  n_range : mg "range" = none
  n_len : mg "len" = none
  n_abs : mg "abs" = none
  n_tuple : mg "tuple" = none
  n_isinstance : mg "isinstance" = none
  n_list : mg "list" = none
  n_str : mg "str" = none
section
variable {P : Program} {w : World} {K : PySem.W.Frag} {mg : Str → Option Value} {base : Heap}
/-! ### draws -/
def sp_L_mixed : Sp := fun vs H Q _ => ∃ c k : Int, vs = [.int c, .int k] ∧ 0 ≤ k ∧ k < 1000 ∧ ∀ n : Int, 0 ≤ n → n < 2147483587 → Q (.int n) H
theorem ok_L_mixed (t : Tx K mg) : FnOk P w K mg base CX0 1 t.a_L_mixed t.fd_L_mixed ["_law_cell", "_law_k"] sp_L_mixed := by
  refine t.F_L_mixed.ok sc_L_mixed (fun vs H Q E h => ?_) (fun cdv A outer s H vs Q E hr h => ?_)
  · obtain ⟨c, k, rfl, _⟩ := h
    rfl
  · obtain ⟨c, k, rfl, k0, k1, q⟩ := h
    refine ⟨_, (pss_cons (ps_set (i := 2) sc_L_mixed.nd rfl (by first | exact Or.inl rfl | exact Or.inr rfl) (pe_op op_mod (pv 0) (pe_op op_pow pe_int pe_int)))
      (pss_cons (ps_set (i := 3) sc_L_mixed.nd rfl (by first | exact Or.inl rfl | exact Or.inr rfl) (pe_op op_mod (pe_op op_mul (pe_op op_add (pe_op op_add (pe_op op_add (pe_op op_mul (pv 2) (pv 2)) (pe_op op_mul pe_int (pv 2))) (pe_op op_mul pe_int (pv 1))) pe_int) pe_int) pe_int))
      (pss_one (ps_ret (pe_op op_mod (pe_op op_add (pe_op op_mul (pv 3) (pv 3)) pe_int) pe_int))))), ?_⟩
    have e15 : (10 : Int) ^ (15 : Int).toNat = 1000000000000000 := by decide
    refine ⟨_, rfl, _, _, rfl, rfl, ⟨by decide, by decide, by decide⟩, _, _, rfl, rfl, (by show (0 : Int) < 10 ^ (15 : Int).toNat; decide), ?_⟩
    rw [e15]
    have h0 : (0 : Int) ≤ c % 1000000000000000 := Int.emod_nonneg _ (by decide)
    have h1 : c % 1000000000000000 < 1000000000000000 := Int.emod_lt_of_pos _ (by decide)
    generalize c % 1000000000000000 = r at h0 h1
    refine ⟨_, rfl, _, rfl, _, _, rfl, rfl, .inl ⟨by omega, by omega⟩, _, rfl, _, _, rfl, rfl, .inl ⟨by decide, by decide⟩, _, _, rfl, rfl, _, rfl, _, _, rfl, rfl, .inl ⟨by decide, by decide⟩, _, _, rfl, rfl, _, _, rfl, rfl,
      _, _, rfl, rfl, .inr ⟨by decide, by decide⟩, _, _, rfl, rfl, (by show (0 : Int) < 2147483629; decide), ?_⟩
    have g0 := Int.emod_nonneg ((r * r + 3 * r + 7919 * k + 1) * 48271) (show (2147483629 : Int) ≠ 0 by decide)
    have g1 := Int.emod_lt_of_pos ((r * r + 3 * r + 7919 * k + 1) * 48271) (show (0 : Int) < 2147483629 by decide)
    generalize (r * r + 3 * r + 7919 * k + 1) * 48271 % 2147483629 = n at g0 g1
    refine ⟨_, rfl, _, rfl, _, _, rfl, rfl, .inl ⟨by omega, by omega⟩, _, _, rfl, rfl, _, _, rfl, rfl, (by show (0 : Int) < 2147483587; decide), ?_⟩
    exact q _ (Int.emod_nonneg _ (by decide)) (Int.emod_lt_of_pos _ (by decide))
/-- the purse: two numbers that aren't below 0 -/
def PurseO (a b : Int) : HO := .lst [.int a, .int b]
def sp_L_purse (K : PySem.W.Frag) : Sp := fun vs H Q _ => ∃ (l : Addr) (ns : List Int), vs = [.ref l] ∧ SqL K H l (ns.map V.int) ∧ ns.length ≤ 63 ∧
  ∀ (a b : Int) (p : Addr) (H' : Hp), 0 ≤ a → 0 ≤ b → Same H H' → H p = none → H' p = some (PurseO a b) → Q (.ref p) H'
theorem ok_L_purse (t : Tx K mg) : FnOk P w K mg base CX0 2 t.a_L_purse t.fd_L_purse ["_law_script"] (sp_L_purse K) := by
  refine t.F_L_purse.ok sc_L_purse (fun vs H Q E h => ?_) (fun cdv A outer s H vs Q E hr h => ?_)
  · obtain ⟨l, ns, rfl, _⟩ := h
    rfl
  · obtain ⟨l, ns, rfl, hS, hn, q⟩ := h
    refine ⟨_, (pss_cons (ps_set (i := 1) sc_L_purse.nd rfl (by first | exact Or.inl rfl | exact Or.inr rfl) (pe_op op_cat (pe_slice sl_list (pv 0) po_none (po_some pe_int)) (pe_lst (pa_cons pe_int pa_nil))))
      (pss_cons (ps_set (i := 2) sc_L_purse.nd rfl (by first | exact Or.inl rfl | exact Or.inr rfl) pe_int)
      (pss_cons (ps_for PassesOwn.never rfl (pi_range1 (by rfl) t.n_range (pa_cons pe_int pa_nil)) (pg_name (i := 3) sc_L_purse.nd rfl (by first | exact Or.inl rfl | exact Or.inr rfl)) (pss_one (ps_set (i := 2) sc_L_purse.nd rfl (by first | exact Or.inl rfl | exact Or.inr rfl) (pe_op op_add (pe_op op_mul (pv 2) pe_int) (pe_call (ok_L_mixed t) (hr.mono (by decide)) (by rfl) t.m_L_mixed t.F_L_mixed.kp t.b_L_mixed .nil pass0 (pa_cons (pe_ix ix_list (pv 1) (pe_op op_mod (pv 3) (pe_callB (id := "len") call_lenQ (by rfl) t.n_len (by decide +kernel) (pa_cons (pv 1) pa_nil))) (fun _ _ => rfl)) (pa_cons (pv 3) pa_nil)))))))
      (pss_cons (ps_if (pt_cmpR op_ge (pe_callB (id := "abs") call_abs (by rfl) t.n_abs (by decide +kernel) (pa_cons (pe_ix ix_list (pv 1) pe_int (fun _ _ => rfl)) pa_nil)) (pe_op op_pow pe_int pe_int) (nomark _)) (pss_one (ps_ret (pe_lst (pa_cons (pe_callB (id := "abs") call_abs (by rfl) t.n_abs (by decide +kernel) (pa_cons (pe_ix ix_list (pv 1) pe_int (fun _ _ => rfl)) pa_nil)) (pa_cons (pv 2) pa_nil))))) pss_nil)
      (pss_one (ps_ret (pe_lst (pa_cons (pv 2) (pa_cons (pv 2) pa_nil))))))))), ?_⟩
    refine ⟨_, rfl, _, rfl, l, _, rfl, hS, fun p np => ?_⟩
    rw [cut_63 hn]
    have e0 : ([V.int 0] : List V) = [(0 : Int)].map V.int := rfl
    refine ⟨by show 1 ≤ sizeLine; decide, fun p2 np2 => ⟨p, p2, _, _, rfl, rfl, (by rw [upd_ne (ne_of_none upd_same np2)]; exact upd_same), upd_same, (by show _ + 1 ≤ _; rw [List.length_map]; exact Nat.le_trans (Nat.add_le_add_right hn 1) (by decide)), fun p3 np3 => ?_⟩⟩
    rw [e0, ← List.map_append]
    have s3 : Same H (upd (upd (upd H p (.lst (ns.map V.int))) p2 (.lst ([(0 : Int)].map V.int))) p3 (.lst ((ns ++ [0]).map V.int))) := sm_new (sm_new (sm_new (Same.refl H) np) np2) np3
    have hl : 0 < (ns ++ [0]).length := by simp
    generalize ec : ns ++ [0] = cs at s3 hl
    have h3 : (upd (upd (upd H p (.lst (ns.map V.int))) p2 (.lst ([(0 : Int)].map V.int))) p3 (.lst (cs.map V.int))) p3 = some (.lst (cs.map V.int)) := upd_same
    generalize upd (upd (upd H p (.lst (ns.map V.int))) p2 (.lst ([(0 : Int)].map V.int))) p3 (.lst (cs.map V.int)) = H3 at s3 h3
    refine ⟨64, rfl, by decide, by decide, for_range (lo := 0) (n := 64) (fun i σ H2 => ∃ (n : Int) (v : Option V), σ = [some (.ref l), some (.ref p3), some (.int n), v] ∧ H2 = H3 ∧ 0 ≤ n) ⟨1, none, rfl, rfl, by decide⟩ ?_ ?_⟩
    · rintro i σ H2 hi ⟨n, v, rfl, rfl, hn0⟩
      refine ⟨_, rfl, _, _, rfl, rfl, .inr ⟨by decide, by decide⟩, ?_⟩
      have hm := Int.emod_nonneg (0 + (i : Int)) (show ((cs.map V.int).length : Int) ≠ 0 by rw [List.length_map]; omega)
      have hm1 := Int.emod_lt_of_pos (0 + (i : Int)) (show (0 : Int) < ((cs.map V.int).length : Int) by rw [List.length_map]; omega)
      have hj : (((0 + (i : Int)) % ((cs.map V.int).length : Int)).toNat : Int) = (0 + (i : Int)) % ((cs.map V.int).length : Int) := Int.toNat_of_nonneg hm
      have hj1 : ((0 + (i : Int)) % ((cs.map V.int).length : Int)).toNat < cs.length := by rw [List.length_map] at hm1 ⊢; omega
      refine ⟨_, rfl, _, rfl, _, rfl, p3, _, rfl, .inl (SqL.of h3), _, _, rfl, rfl, (by rw [List.length_map]; omega), p3, _, _, _, rfl, rfl, SqL.of h3, at_of hj.symm (by rw [List.getElem?_map, List.getElem?_eq_getElem hj1]; rfl), ?_⟩
      refine ⟨_, rfl, _, _, rfl, by omega, by omega, fun m m0 m1 => ⟨_, _, rfl, rfl, ?_⟩⟩
      exact ⟨_, _, rfl, rfl, by omega⟩
    · rintro σ H2 ⟨n, v, rfl, rfl, hn0⟩
      have h0 : (cs.map V.int)[0]? = some (.int (cs[0])) := by rw [List.getElem?_map, List.getElem?_eq_getElem hl]; rfl
      refine ⟨_, rfl, p3, _, _, _, rfl, rfl, SqL.of h3, atI_nat (j := 0) h0, _, rfl, _, _, rfl, rfl, ⟨by decide, by decide, by decide⟩, _, _, rfl, rfl, _, rfl, ?_⟩
      refine ite2 (fun c => ?_) (fun c => ?_)
      · refine ⟨_, rfl, p3, _, _, _, rfl, rfl, SqL.of h3, atI_nat (j := 0) h0, _, rfl, _, rfl, by show 2 ≤ sizeLine; decide, fun q0 nq => ?_⟩
        exact q _ _ q0 _ (by split <;> omega) hn0 (sm_new s3 nq) (s3.free nq) upd_same
      · refine ⟨_, rfl, _, rfl, by show 2 ≤ sizeLine; decide, fun q0 nq => ?_⟩
        exact q _ _ q0 _ hn0 hn0 (sm_new s3 nq) (s3.free nq) upd_same
def sp_L_draw : Sp := fun vs H Q _ => ∃ (p : Addr) (a b n : Int), vs = [.ref p, .int n] ∧ H p = some (PurseO a b) ∧ 0 ≤ a ∧ 0 ≤ b ∧ 0 < n ∧ n < 1267650600228229401496703205376 ∧
  ∀ d a' b' : Int, 0 ≤ d → d < n → 0 ≤ a' → 0 ≤ b' → Q (.int d) (upd H p (PurseO a' b'))
theorem ok_L_draw (t : Tx K mg) : FnOk P w K mg base CX0 1 t.a_L_draw t.fd_L_draw ["_law_purse_here", "_law_out_of"] sp_L_draw := by
  refine t.F_L_draw.ok sc_L_draw (fun vs H Q E h => ?_) (fun cdv A outer s H vs Q E hr h => ?_)
  · obtain ⟨p, a, b, n, rfl, _⟩ := h
    rfl
  · obtain ⟨p, a, b, n, rfl, hp, ha, hb, n0, n1, q⟩ := h
    refine ⟨_, (pss_cons (ps_if (pt_cmpR op_eq (pe_ix ix_list (pv 0) pe_int (fun _ _ => rfl)) pe_int (nomark _)) (pss_one (ps_asg (pe_ix ix_list (pv 0) pe_int (fun _ _ => rfl)) (pg_sub (pv 0) pe_int set_list))) pss_nil)
      (pss_cons (ps_set (i := 2) sc_L_draw.nd rfl (by first | exact Or.inl rfl | exact Or.inr rfl) (pe_op op_mod (pe_ix ix_list (pv 0) pe_int (fun _ _ => rfl)) (pv 1)))
      (pss_cons (ps_asg (pe_op op_fdivW (pe_ix ix_list (pv 0) pe_int (fun _ _ => rfl)) (pv 1)) (pg_sub (pv 0) pe_int set_list))
      (pss_one (ps_ret (pv 2)))))), ?_⟩
    refine ⟨_, rfl, p, _, _, _, rfl, rfl, SqL.of hp, atI_nat (j := 0) rfl, rfl, _, rfl, ?_⟩
    refine ite2 (fun c => ?_) (fun c => ?_)
    · refine ⟨_, rfl, p, _, _, _, rfl, rfl, SqL.of hp, atI_nat (j := 1) rfl, _, rfl, p, _, _, 0, rfl, rfl, hp, rfl, ?_⟩
      refine ⟨_, rfl, p, _, _, _, rfl, rfl, SqL.of upd_same, atI_nat (j := 0) rfl, _, rfl, _, _, rfl, rfl, n0, ?_⟩
      refine ⟨_, rfl, p, _, _, _, rfl, rfl, SqL.of upd_same, atI_nat (j := 0) rfl, _, rfl, _, _, rfl, rfl, wide_div n0 (b := 100) (by have e : (2 : Nat) ^ 100 = 1267650600228229401496703205376 := rfl; rw [e]; omega) (by decide) (by decide), _, rfl, p, _, _, 0, rfl, rfl, upd_same, rfl, _, rfl, ?_⟩
      rw [upd_upd]
      exact q _ _ _ (Int.emod_nonneg _ (by omega)) (Int.emod_lt_of_pos _ n0) (Int.ediv_nonneg hb (by omega)) hb
    · refine ⟨_, rfl, p, _, _, _, rfl, rfl, SqL.of hp, atI_nat (j := 0) rfl, _, rfl, _, _, rfl, rfl, n0, ?_⟩
      refine ⟨_, rfl, p, _, _, _, rfl, rfl, SqL.of hp, atI_nat (j := 0) rfl, _, rfl, _, _, rfl, rfl, wide_div n0 (b := 100) (by have e : (2 : Nat) ^ 100 = 1267650600228229401496703205376 := rfl; rw [e]; omega) (by decide) (by decide), _, rfl, p, _, _, 0, rfl, rfl, hp, rfl, _, rfl, ?_⟩
      exact q _ _ _ (Int.emod_nonneg _ (by omega)) (Int.emod_lt_of_pos _ n0) (Int.ediv_nonneg ha (by omega)) hb
/-! ### words -/
/-- a text that may stand in a datum -/
structure TStr where
  x : Str
  ok : PyData.strOk x = true
  deriving DecidableEq
instance : Dat TStr where
  rep := fun _ v d => v = .str d.x
  mono := fun _ h => h
  py := fun d => .str d.x
  dp := fun h => h ▸ .str _
  can := fun d => d.ok
  dep := 0
  depth := fun _ => Nat.le_refl _
  eqv := fun a b => by
    obtain ⟨a, _⟩ := a; obtain ⟨b, _⟩ := b
    simp [PyData.eqv]
/-! ### small things -/
theorem ln {H : Hp} {p q : Addr} {o u : HO} (n : H q = none) (h : H p = some o) : upd H q u p = some o := (upd_ne (ne_of_none h n)).trans h
theorem kt_int_int {K : PySem.W.Frag} : PySem.W.kitOne K (.type "int") (.type "int") = some true := kit_ty (by decide +kernel)
theorem kt_int_bool {K : PySem.W.Frag} : PySem.W.kitOne K (.type "int") (.type "bool") = some false := kit_ty (by decide +kernel)
theorem kt_tup {K : PySem.W.Frag} : PySem.W.kitOne K (.type "tuple") (.type "tuple") = some true := kit_ty (by decide +kernel)
theorem kt_list {K : PySem.W.Frag} : PySem.W.kitOne K (.type "list") (.type "list") = some true := kit_ty (by decide +kernel)
theorem gr_purse {H H1 : Hp} (s : Same H H1) : Gr mu0 H H H H1 := ⟨fun _ _ h => h, s, fun _ _ h => .inl h, fun c o h _ => s c o h, fun c h => s.free h⟩
theorem at_end {xs : List V} {k : Nat} {v : V} (l : xs.length = k + 1) (h : xs[k]? = some v) : atI xs (-1) = some v := by
  have e : ixN xs.length (-1) = some k := by
    unfold ixN
    rw [if_neg (by decide), if_pos (by omega)]
    congr 1
    omega
  unfold atI
  rw [e]
  exact h
theorem cut_all {xs : List V} {j : Nat} (h : xs.length ≤ j) : cutV xs none (some (j : Int)) = xs := by
  unfold cutV
  have e1 : HT.sIx xs.length 0 none = 0 := rfl
  have e2 : HT.sIx xs.length xs.length (some (j : Int)) = xs.length := by
    simp only [HT.sIx]
    rw [if_neg (by omega), Int.toNat_natCast]
    omega
  rw [e1, e2, List.drop_zero, Nat.sub_zero, List.take_length]
theorem map_take_succ {α β : Type} {f : α → β} {xs : List α} {i : Nat} {x : α} (h : xs[i]? = some x) : (xs.take (i + 1)).map f = (xs.take i).map f ++ [f x] := by
  rw [List.take_add_one, h, List.map_append]; rfl
theorem cut_1 {xs : List V} : cutV xs (some 1) none = xs.drop 1 := by
  unfold cutV
  have e2 : HT.sIx xs.length xs.length none = xs.length := rfl
  rw [e2]
  cases xs with
  | nil => simp
  | cons x xs =>
    have e1 : HT.sIx (x :: xs).length 0 (some 1) = 1 := by
      simp only [HT.sIx, List.length_cons]
      rw [if_neg (by decide), show (1 : Int).toNat = 1 from rfl]
      omega
    rw [e1]
    show (xs.take (xs.length + 1 - 1)) = xs
    rw [Nat.add_sub_cancel, List.take_length]
theorem cut32 : ¬ (HT.sIx 3 0 none = 0 ∧ HT.sIx 3 3 (some 2) = 3) := by decide
theorem Gr.frzS {mu : Addr → Prop} {F H F1 H1 : Hp} (g : Gr mu F H F1 H1) (P : Addr → Prop) [DecidablePred P] (h : ∀ c, P c → H c = none ∧ F1 c = none) : Gr mu F H (fun c => if P c then H1 c else F1 c) H1 ∧ Same F1 (fun c => if P c then H1 c else F1 c) := by
  have s : Same F1 (fun c => if P c then H1 c else F1 c) := fun c o e => by
    by_cases p : P c
    · rw [(h c p).2] at e; cases e
    · simp only [p, if_false]; exact e
  refine ⟨⟨fun c o e => s c o (g.ff c o e), fun c o e => ?_, fun c o e => ?_, g.fr, g.th⟩, s⟩
  · by_cases p : P c
    · simp only [p, if_true] at e; exact e
    · simp only [p, if_false] at e; exact g.fh c o e
  · by_cases p : P c
    · exact .inr (h c p).1
    · simp only [p, if_false] at e; exact g.nw c o e
theorem Gr.pf {mu : Addr → Prop} {F H F1 H1 : Hp} {p : Addr} {o : HO} (g : Gr mu F H F1 H1) (f : F p = none) (h : H p = some o) : F1 p = none := by
  cases e : F1 p with
  | none => rfl
  | some z =>
    rcases g.nw p z e with k | k
    · rw [f] at k; cases k
    · rw [h] at k; cases k
theorem four_le : 4 ≤ sizeLine := by decide
/-! ### papers of things: numbers, words, middles -/
structure T4 (α β γ δ : Type) where
  a : α
  b : β
  c : γ
  d : δ
  deriving DecidableEq
instance [Dat α] [Dat β] [Dat γ] [Dat δ] : Dat (T4 α β γ δ) where
  rep := fun H v d => ∃ p x y z w, v = .ref p ∧ H p = some (.tup [x, y, z, w]) ∧ Is H x d.a ∧ Is H y d.b ∧ Is H z d.c ∧ Is H w d.d
  mono := fun s h => by
    obtain ⟨p, x, y, z, w, e, h, i, j, k, l⟩ := h
    exact ⟨p, x, y, z, w, e, s _ _ h, Is.up i s, Is.up j s, Is.up k s, Is.up l s⟩
  py := fun d => .tuple [Dat.py d.a, Dat.py d.b, Dat.py d.c, Dat.py d.d]
  dp := fun h => by
    obtain ⟨p, x, y, z, w, rfl, h, i, j, k, l⟩ := h
    exact .tup (SqT.of h) (.cons (Dat.dp i) (.cons (Dat.dp j) (.cons (Dat.dp k) (.cons (Dat.dp l) .nil))))
  can := fun d => by
    show (PyData.canLay0 (Dat.py d.a) && (PyData.canLay0 (Dat.py d.b) && (PyData.canLay0 (Dat.py d.c) && (PyData.canLay0 (Dat.py d.d) && true)))) = true
    rw [Dat.can, Dat.can, Dat.can, Dat.can]; rfl
  dep := max (Dat.dep α) (max (Dat.dep β) (max (Dat.dep γ) (Dat.dep δ))) + 1
  depth := fun d => by
    have h1 := Dat.depth d.a
    have h2 := Dat.depth d.b
    have h3 := Dat.depth d.c
    have h4 := Dat.depth d.d
    show max (PyData.depth (Dat.py d.a)) (max (PyData.depth (Dat.py d.b)) (max (PyData.depth (Dat.py d.c)) (max (PyData.depth (Dat.py d.d)) 0))) + 1 ≤ _
    omega
  eqv := fun a b => by
    obtain ⟨a, a', a'', a3⟩ := a; obtain ⟨b, b', b'', b3⟩ := b
    simp [PyData.eqv, PyData.eqvAll, Dat.eqv]
abbrev Wd := Tup Int
abbrev Mid := T4 Wd Int Int Wd
inductive Th where
  | num (n : Nat)
  | words (ws : List Wd)
  | mids (ms : List Mid)
def Th.py : Th → PyData
  | .num n => Dat.py (n : Int)
  | .words ws => Dat.py ws
  | .mids ms => Dat.py ms
/-- the number that is told of it -/
def Th.no : Th → Nat
  | .num n => n
  | .words ws => ws.length
  | .mids ms => ms.length
def Th.lot : Th → Bool
  | .num _ => false
  | _ => true
def ThAt (F : Hp) (v : V) (t : Th) : Prop := t.no ≤ 2000 ∧ match t with
  | .num n => v = .int n
  | .words ws => Is F v ws
  | .mids ms => Is F v ms
theorem ThAt.up {F F' : Hp} {v : V} {t : Th} (h : ThAt F v t) (s : Same F F') : ThAt F' v t := by
  refine ⟨h.1, ?_⟩
  have h2 := h.2
  cases t with
  | num n => exact h2
  | words ws => exact Is.up (d := ws) h2 s
  | mids ms => exact Is.up (d := ms) h2 s
theorem ThAt.dp {K : PySem.W.Frag} {H : Hp} {v : V} {t : Th} (h : ThAt H v t) : Dp K H v t.py := by
  have h2 := h.2
  cases t with
  | num n => exact Dat.dp (d := (n : Int)) h2
  | words ws => exact Dat.dp (d := ws) h2
  | mids ms => exact Dat.dp (d := ms) h2
theorem Th.can (t : Th) : t.py.canLay0 = true := by
  cases t with
  | num n => exact Dat.can (n : Int)
  | words ws => exact Dat.can ws
  | mids ms => exact Dat.can ms
theorem Th.dep (t : Th) : t.py.depth ≤ 3 := by
  cases t with
  | num n => exact Nat.le_trans (Dat.depth (n : Int)) (by decide)
  | words ws => exact Nat.le_trans (Dat.depth ws) (by decide)
  | mids ms => exact Nat.le_trans (Dat.depth ms) (by decide)
theorem Th.same (t : Th) : PyData.eqv t.py t.py = true := by
  cases t with
  | num n => exact (Dat.eqv (n : Int) n).mpr rfl
  | words ws => exact (Dat.eqv ws ws).mpr rfl
  | mids ms => exact (Dat.eqv ms ms).mpr rfl
theorem ThAt.num {F : Hp} {v : V} {t : Th} (h : ThAt F v t) (l : t.lot = false) : v = .int t.no := by
  cases t with
  | num n => exact h.2
  | words ws => cases l
  | mids ms => cases l
theorem ThAt.lst {F : Hp} {v : V} {t : Th} (h : ThAt F v t) (l : t.lot = true) : ∃ p xs, v = .ref p ∧ F p = some (.lst xs) ∧ xs.length = t.no ∧ ∀ F' q, Same F F' → F' q = some (.lst xs) → ThAt F' (.ref q) t := by
  cases t with
  | num n => cases l
  | words ws =>
    obtain ⟨p, xs, e, h1, al⟩ := h.2
    exact ⟨p, xs, e, h1, al.1, fun F' q s hq => ⟨h.1, q, xs, rfl, hq, IsAll.up al s⟩⟩
  | mids ms =>
    obtain ⟨p, xs, e, h1, al⟩ := h.2
    exact ⟨p, xs, e, h1, al.1, fun F' q s hq => ⟨h.1, q, xs, rfl, hq, IsAll.up al s⟩⟩
theorem things_dp {K : PySem.W.Frag} {H : Hp} : ∀ {vs : List V} {ts : List Th}, All2 (fun v t => ThAt H v t) vs ts → DpAll K H vs (ts.map Th.py)
  | [], [], _ => .nil
  | [], t :: ts, h => by have := h.1; simp at this
  | x :: xs, [], h => by have := h.1; simp at this
  | x :: xs, t :: ts, h => .cons ((h.2 0 x t rfl rfl).dp) (things_dp ⟨by have := h.1; simpa using this, fun i a b p q => h.2 (i + 1) a b (by simpa using p) (by simpa using q)⟩)
theorem things_can : ∀ ts : List Th, PyData.canLayAll0 (ts.map Th.py) = true
  | [] => rfl
  | t :: ts => by
    show (PyData.canLay0 t.py && PyData.canLayAll0 (ts.map Th.py)) = true
    rw [Th.can, things_can ts]; rfl
theorem things_dep : ∀ ts : List Th, PyData.depthAll (ts.map Th.py) ≤ 3
  | [] => Nat.zero_le _
  | t :: ts => by
    show max (PyData.depth t.py) (PyData.depthAll (ts.map Th.py)) ≤ _
    exact Nat.max_le.mpr ⟨Th.dep t, things_dep ts⟩
theorem things_same : ∀ ts : List Th, PyData.eqvAll (ts.map Th.py) (ts.map Th.py) = true
  | [] => by simp [PyData.eqvAll]
  | t :: ts => by
    rw [List.map_cons, PyData.eqvAll, Th.same, things_same ts]; rfl
def tShut : TStr := ⟨"shut", by decide +kernel⟩
/-- a paper: a word and things -/
def PaperAt (F : Hp) (v : V) (w : TStr) (ts : List Th) : Prop := ∃ a vs, v = .ref a ∧ F a = some (.tup (.str w.x :: vs)) ∧ All2 (fun v t => ThAt F v t) vs ts
theorem PaperAt.up {F F' : Hp} {v : V} {w : TStr} {ts : List Th} (h : PaperAt F v w ts) (s : Same F F') : PaperAt F' v w ts := by
  obtain ⟨a, vs, e, h1, h2⟩ := h
  exact ⟨a, vs, e, s _ _ h1, h2.imp fun _ _ z => z.up s⟩
theorem paper_ne {K : PySem.W.Frag} {H : Hp} {x y : V} {w : TStr} {ts : List Th} {Q : VK} (hx : PaperAt H x w ts) (hy : PaperAt H y w ts) (q : Q (.bl false) H) : rNeD K x y H Q := by
  obtain ⟨a, vs, rfl, h1, h2⟩ := hx
  obtain ⟨b, us, rfl, k1, k2⟩ := hy
  have sh : SeqAt.shaped (PyData.tuple (.str w.x :: ts.map Th.py)) = true := by
    show (PyData.canLay0 _ && decide _) = true
    have e1 : PyData.canLay0 (PyData.tuple (.str w.x :: ts.map Th.py)) = true := by
      show (PyData.canLay0 (.str w.x) && PyData.canLayAll0 (ts.map Th.py)) = true
      rw [things_can, show PyData.canLay0 (.str w.x) = true from w.ok]; rfl
    have e2 : PyData.depth (PyData.tuple (.str w.x :: ts.map Th.py)) ≤ 64 := by
      show max (PyData.depth (.str w.x)) (PyData.depthAll (ts.map Th.py)) + 1 ≤ 64
      have := things_dep ts
      have e3 : PyData.depth (.str w.x) = 0 := rfl
      omega
    rw [e1, decide_eq_true e2]; rfl
  refine ⟨_, _, .tup (SqT.of h1) (.cons (.str _) (things_dp h2)), .tup (SqT.of k1) (.cons (.str _) (things_dp k2)), sh, sh, ?_⟩
  have e : PyData.eqv (PyData.tuple (.str w.x :: ts.map Th.py)) (PyData.tuple (.str w.x :: ts.map Th.py)) = true := by
    rw [PyData.eqv, PyData.eqvAll, things_same]
    simp [PyData.eqv]
  rw [e]
  exact q
/-- what may be drawn -/
structure Good (w : TStr) (ts : List Th) : Prop where
  wl : w.x.length ≤ 10
  tl : ts.length ≤ 5
  kind : (w = tShut ∧ ∃ k lots, ts = .num k :: lots ∧ ∀ t ∈ lots, t.lot = true) ∨ (w.x ≠ tShut.x ∧ ∀ t ∈ ts, t.lot = false)
def numT (n : Nat) : Str := toString (n : Int)
theorem numT_len : ∀ n, n ≤ 2000 → (numT n).length ≤ 5 := by decide +kernel
def paperT (w : TStr) (ts : List Th) : Str := Txt.join " " (w.x :: ts.map fun t => numT t.no)
theorem join_few {w : Str} {ts : List Th} (wl : w.length ≤ 10) (tl : ts.length ≤ 5) (sm : ∀ t ∈ ts, t.no ≤ 2000) : ((w :: ts.map fun t => numT t.no).map (·.length)).sum + (w :: ts.map fun t => numT t.no).length * (" " : Str).length ≤ 16777216 := by
  have h : ∀ ts : List Th, (∀ t ∈ ts, t.no ≤ 2000) → ((ts.map fun t => numT t.no).map (·.length)).sum ≤ 5 * ts.length := by
    intro ts
    induction ts with
    | nil => intro _; exact Nat.le_refl _
    | cons t ts ih =>
      intro h
      have h1 := ih fun t m => h t (List.mem_cons_of_mem _ m)
      have h2 := numT_len t.no (h t List.mem_cons_self)
      rw [List.map_cons, List.map_cons, List.sum_cons, List.length_cons]
      omega
  have h1 := h ts sm
  have h2 : (" " : Str).length = 1 := by decide +kernel
  rw [List.map_cons, List.sum_cons, List.length_cons, List.length_map, h2]
  omega
theorem num_log {n : Nat} (h : n ≤ 2000) : ((n : Int).natAbs).log2 < 1920 := by
  rw [Int.natAbs_natCast]
  have : n.log2 ≤ 10 := by
    by_cases z : n = 0
    · rw [z]; decide
    · have := (Nat.log2_lt z (k := 11)).mpr (by omega)
      omega
  omega
theorem kt_int_list {K : PySem.W.Frag} : PySem.W.kitOne K (.type "int") (.type "list") = some false := kit_ty (by decide +kernel)
theorem kt_str_list {K : PySem.W.Frag} : PySem.W.kitOne K (.type "str") (.type "list") = some false := kit_ty (by decide +kernel)
theorem kt_str {K : PySem.W.Frag} : PySem.W.kitOne K (.type "str") (.type "str") = some true := kit_ty (by decide +kernel)
theorem cut_no {n : Nat} : ¬ (HT.sIx (n + 1) 0 (some 1) = 0 ∧ HT.sIx (n + 1) (n + 1) none = n + 1) := fun ⟨h, _⟩ => by
  simp only [HT.sIx] at h
  rw [if_neg (by decide), show (1 : Int).toNat = 1 from rfl] at h
  omega
theorem cut_no2 {n : Nat} : ¬ (HT.sIx (n + 1) 0 (some 2) = 0 ∧ HT.sIx (n + 1) (n + 1) none = n + 1) := fun ⟨h, _⟩ => by
  simp only [HT.sIx] at h
  rw [if_neg (by decide), show (2 : Int).toNat = 2 from rfl] at h
  omega
theorem cut_from2 {x y : V} {vs : List V} : cutV (x :: y :: vs) (some 2) none = vs := by
  unfold cutV
  have e2 : HT.sIx (x :: y :: vs).length (x :: y :: vs).length none = (x :: y :: vs).length := rfl
  have e1 : HT.sIx (x :: y :: vs).length 0 (some 2) = 2 := by
    simp only [HT.sIx, List.length_cons]
    rw [if_neg (by decide), show (2 : Int).toNat = 2 from rfl]
    omega
  rw [e1, e2]
  show (vs.take (vs.length + 1 + 1 - 2)) = vs
  rw [show vs.length + 1 + 1 - 2 = vs.length by omega, List.take_length]
def sp_L_number : Sp := fun vs H Q _ => ∃ (F : Hp) (p : Addr) (a b : Int), vs = [.ref p] ∧ Same F H ∧ F p = none ∧ H p = some (PurseO a b) ∧ 0 ≤ a ∧ 0 ≤ b ∧
  ∀ (H' : Hp) (n : Nat) (a' b' : Int), Gr (muP p) F H F H' → H' p = some (PurseO a' b') → 0 ≤ a' → 0 ≤ b' → n ≤ 1001 → Q (.int n) H'
theorem ok_L_number (t : Tx K mg) : FnOk P w K mg base CX0 2 t.a_L_number t.fd_L_number ["_law_purse_here"] sp_L_number := by
  refine t.F_L_number.ok sc_L_number (fun vs H Q E h => ?_) (fun cdv A outer s H vs Q E hr h => ?_)
  · obtain ⟨F, p, a, b, rfl, _⟩ := h
    rfl
  · obtain ⟨F, p, a, b, rfl, sF, fp, hp, ha, hb, q⟩ := h
    refine ⟨_, (pss_one (ps_ret (pe_ix ix_list (pe_lst (pa_cons pe_int (pa_cons pe_int (pa_cons (pe_call (ok_L_draw t) (hr.mono (by decide)) (by rfl) t.m_L_draw t.F_L_draw.kp t.b_L_draw .nil pass0 (pa_cons (pv 0) (pa_cons pe_int pa_nil))) (pa_cons (pe_call (ok_L_draw t) (hr.mono (by decide)) (by rfl) t.m_L_draw t.F_L_draw.kp t.b_L_draw .nil pass0 (pa_cons (pv 0) (pa_cons pe_int pa_nil))) (pa_cons pe_int pa_nil)))))) (pe_call (ok_L_draw t) (hr.mono (by decide)) (by rfl) t.m_L_draw t.F_L_draw.kp t.b_L_draw .nil pass0 (pa_cons (pv 0) (pa_cons pe_int pa_nil))) (fun _ _ => rfl)))), ?_⟩
    have g0 : Gr (muP p) F H F H := Gr.refl sF
    refine ⟨_, rfl, p, a, b, 10, rfl, hp, ha, hb, by decide, by decide, fun d1 a1 b1 d10 d11 ha1 hb1 => ?_⟩
    have g1 := g0.set (o := PurseO a1 b1) fp (.inr rfl)
    refine ⟨_, rfl, p, a1, b1, 1001, rfl, upd_same, ha1, hb1, by decide, by decide, fun d2 a2 b2 d20 d21 ha2 hb2 => ⟨five_le, fun l nl => ?_⟩⟩
    have g2 := g1.set (o := PurseO a2 b2) fp (.inr rfl)
    have hp2 : (upd (upd H p (PurseO a1 b1)) p (PurseO a2 b2)) p = some (PurseO a2 b2) := upd_same
    generalize upd (upd H p (PurseO a1 b1)) p (PurseO a2 b2) = H2 at g2 hp2 nl
    have g3 := g2.own (o := .lst [.int 0, .int 1, .int d1, .int d2, .int 1000]) nl
    have hp3 := ln (u := .lst [.int 0, .int 1, .int d1, .int d2, .int 1000]) nl hp2
    have hl3 : (upd H2 l (.lst [.int 0, .int 1, .int d1, .int d2, .int 1000])) l = some (.lst [.int 0, .int 1, .int d1, .int d2, .int 1000]) := upd_same
    have pl : l ≠ p := (ne_of_none hp2 nl).symm
    generalize upd H2 l (.lst [.int 0, .int 1, .int d1, .int d2, .int 1000]) = H3 at g3 hp3 hl3
    refine ⟨_, rfl, p, a2, b2, 5, rfl, hp3, ha2, hb2, by decide, by decide, fun d a3 b3 d0 d1' ha3 hb3 => ?_⟩
    have g4 := g3.set (o := PurseO a3 b3) fp (.inr rfl)
    obtain ⟨n, hn, hn1⟩ : ∃ n : Nat, atI [V.int 0, V.int 1, V.int d1, V.int d2, V.int 1000] d = some (.int n) ∧ n ≤ 1001 := by
      have h : d = 0 ∨ d = 1 ∨ d = 2 ∨ d = 3 ∨ d = 4 := by omega
      rcases h with rfl | rfl | rfl | rfl | rfl
      · exact ⟨0, rfl, by decide⟩
      · exact ⟨1, rfl, by decide⟩
      · exact ⟨d1.toNat, by rw [Int.toNat_of_nonneg d10]; rfl, by omega⟩
      · exact ⟨d2.toNat, by rw [Int.toNat_of_nonneg d20]; rfl, by omega⟩
      · exact ⟨1000, rfl, by decide⟩
    exact ⟨l, _, _, _, rfl, rfl, SqL.of ((upd_ne pl).trans hl3), hn, q _ n a3 b3 g4 upd_same ha3 hb3 hn1⟩
def sp_L_word_of : Sp := fun vs H Q _ => ∃ (F : Hp) (p : Addr) (a b : Int) (k : Nat), vs = [.ref p, .int k] ∧ Same F H ∧ F p = none ∧ H p = some (PurseO a b) ∧ 0 ≤ a ∧ 0 ≤ b ∧ k ≤ 4 ∧
  ∀ (F' H' : Hp) (v : V) (w : Wd) (a' b' : Int), Gr (muP p) F H F' H' → H' p = some (PurseO a' b') → 0 ≤ a' → 0 ≤ b' → Is F' v w → Q v H'
theorem ok_L_word_of (t : Tx K mg) : FnOk P w K mg base CX0 2 t.a_L_word_of t.fd_L_word_of ["_law_purse_here", "_law_width"] sp_L_word_of := by
  refine t.F_L_word_of.ok sc_L_word_of (fun vs H Q E h => ?_) (fun cdv A outer s H vs Q E hr h => ?_)
  · obtain ⟨F, p, a, b, k, rfl, _⟩ := h
    rfl
  · obtain ⟨F, p, a, b, k, rfl, sF, fp, hp, ha, hb, hk, q⟩ := h
    refine ⟨_, (pss_one (ps_ret (pe_callTy (T := "tuple") call_tupQ (by rfl) t.n_tuple (by decide +kernel) (pa_cons (pe_lc (own := [("_law_k", 2)]) (g := gName 2) (tt := tYes) rfl sc_L_word_of.nd (pi_range1 (by rfl) t.n_range (pa_cons (pv 1) pa_nil)) (blkOk_by (N := N_L_word_of) (sc := defScope s_L_word_of) (by decide +kernel)) (fun _ _ _ _ _ => (pg_name (i := 2) sc_L_word_of.nd rfl (by first | exact Or.inl rfl | exact Or.inr rfl))) (fun _ _ _ _ _ => pts_nil) (fun _ _ _ _ _ => (pe_call (ok_L_draw t) (hr.mono (by decide)) (by rfl) t.m_L_draw t.F_L_draw.kp t.b_L_draw .nil pass0 (pa_cons (pv 0) (pa_cons pe_int pa_nil))))) pa_nil)))), ?_⟩
    have g0 : Gr (muP p) F H F H := Gr.refl sF
    refine ⟨_, rfl, (k : Int), rfl, by omega, by omega, fun D nD => ?_⟩
    refine lc_range (lo := 0) (n := ((k : Int)).toNat) (fun j G => ∃ (ns : List Int) (a b : Int), Gr (muP p) F H F G ∧ G p = some (PurseO a b) ∧ 0 ≤ a ∧ 0 ≤ b ∧ Ow H F G D (.lst (ns.map V.int)) ∧ ns.length = j) ⟨[], a, b, g0.own nD, ln nD hp, ha, hb, Ow.mk1 g0 nD, rfl⟩ ?_ ?_
    · rintro j G hj ⟨ns, a, b, g, hpG, ha, hb, w, hl⟩
      refine ⟨rfl, yes ⟨_, rfl, p, a, b, 2, rfl, hpG, ha, hb, by decide, by decide, fun d a1 b1 d0 d1 ha1 hb1 => ?_⟩⟩
      have pD : D ≠ p := fun z => by rw [z] at w; rw [w.n] at hp; cases hp
      have g1 := g.set (o := PurseO a1 b1) fp (.inr rfl)
      have w1 := w.other (u := PurseO a1 b1) pD
      refine ⟨_, w1.h, lt_size (by rw [List.length_map]; omega), ns ++ [d], a1, b1, g1.set w1.f (.inl w1.n), (upd_ne pD.symm).trans upd_same, ha1, hb1, ?_, by rw [List.length_append, hl]; rfl⟩
      rw [List.map_append]
      exact w1.set
    · rintro G ⟨ns, a, b, g, hpG, ha, hb, w, hl⟩
      refine ⟨D, _, rfl, .inl ⟨SqL.of w.h, fun l nl => ?_⟩⟩
      have g1 := g.new (o := .tup (ns.map V.int)) nl
      refine q _ _ (.ref l) ⟨ns⟩ a b g1 (ln nl hpG) ha hb ⟨l, _, rfl, upd_same, ?_⟩
      refine ⟨by rw [List.length_map], fun i x y h1 h2 => ?_⟩
      rw [List.getElem?_map] at h1
      have h2 : ns[i]? = some y := h2
      rw [h2] at h1
      exact (Option.some.inj h1).symm
def sp_L_paper : Sp := fun vs H Q _ => ∃ (F : Hp) (p : Addr) (a b : Int), vs = [.ref p] ∧ Same F H ∧ F p = none ∧ H p = some (PurseO a b) ∧ 0 ≤ a ∧ 0 ≤ b ∧
  ∀ (F' H' : Hp) (v : V) (w : TStr) (ts : List Th) (a' b' : Int), Gr (muP p) F H F' H' → H' p = some (PurseO a' b') → 0 ≤ a' → 0 ≤ b' → PaperAt F' v w ts → Good w ts → Q v H'
theorem ok_L_paper (t : Tx K mg) : FnOk P w K mg base CX0 3 t.a_L_paper t.fd_L_paper ["_law_purse_here"] sp_L_paper := by
  refine t.F_L_paper.ok sc_L_paper (fun vs H Q E h => ?_) (fun cdv A outer s H vs Q E hr h => ?_)
  · obtain ⟨F, p, a, b, rfl, _⟩ := h
    rfl
  · obtain ⟨F, p, a, b, rfl, sF, fp, hp, ha, hb, q⟩ := h
    refine ⟨_, (pss_cons (ps_set (i := 1) sc_L_paper.nd rfl (by first | exact Or.inl rfl | exact Or.inr rfl) (pe_call (ok_L_draw t) (hr.mono (by decide)) (by rfl) t.m_L_draw t.F_L_draw.kp t.b_L_draw .nil pass0 (pa_cons (pv 0) (pa_cons pe_int pa_nil))))
      (pss_cons (ps_if (pt_cmpR op_lt (pv 1) pe_int (nomark _)) (pss_one (ps_ret (pe_tup (pa_cons (pe_ix ix_list (pe_lst (pa_cons pe_str (pa_cons pe_str pa_nil))) (pv 1) (fun _ _ => rfl)) (pa_cons (pe_call (ok_L_number t) (hr.mono (by decide)) (by rfl) t.m_L_number t.F_L_number.kp t.b_L_number .nil pass0 (pa_cons (pv 0) pa_nil)) pa_nil))))) pss_nil)
      (pss_cons (ps_if (pt_cmpR op_lt (pv 1) pe_int (nomark _)) (pss_one (ps_ret (pe_tup (pa_cons (pe_ix ix_list (pe_lst (pa_cons pe_str (pa_cons pe_str pa_nil))) (pe_op op_sub (pv 1) pe_int) (fun _ _ => rfl)) (pa_cons (pe_call (ok_L_number t) (hr.mono (by decide)) (by rfl) t.m_L_number t.F_L_number.kp t.b_L_number .nil pass0 (pa_cons (pv 0) pa_nil)) (pa_cons (pe_call (ok_L_number t) (hr.mono (by decide)) (by rfl) t.m_L_number t.F_L_number.kp t.b_L_number .nil pass0 (pa_cons (pv 0) pa_nil)) pa_nil)))))) pss_nil)
      (pss_cons (ps_if (pt_cmpR op_eq (pv 1) pe_int (nomark _)) (pss_one (ps_ret (pe_tup (pa_cons pe_str pa_nil)))) pss_nil)
      (pss_cons (ps_set (i := 2) sc_L_paper.nd rfl (by first | exact Or.inl rfl | exact Or.inr rfl) (pe_op op_add pe_int (pe_call (ok_L_draw t) (hr.mono (by decide)) (by rfl) t.m_L_draw t.F_L_draw.kp t.b_L_draw .nil pass0 (pa_cons (pv 0) (pa_cons pe_int pa_nil)))))
      (pss_cons (ps_set (i := 3) sc_L_paper.nd rfl (by first | exact Or.inl rfl | exact Or.inr rfl) (pe_lst pa_nil))
      (pss_cons (ps_for PassesOwn.never rfl (pi_range1 (by rfl) t.n_range (pa_cons pe_int pa_nil)) (pg_name (i := 4) sc_L_paper.nd rfl (by first | exact Or.inl rfl | exact Or.inr rfl)) (pss_one (ps_expr (pe_bm PySem.F.plainAttrs_list PySem.F.slot_list_append PySem.F.type_list_append mt_append (pv 3) (pa_cons (pe_lc (own := [("_law_j", 5)]) (g := gName 5) (tt := tYes) rfl sc_L_paper.nd (pi_range1 (by rfl) t.n_range (pa_cons (pe_call (ok_L_draw t) (hr.mono (by decide)) (by rfl) t.m_L_draw t.F_L_draw.kp t.b_L_draw .nil pass0 (pa_cons (pv 0) (pa_cons pe_int pa_nil))) pa_nil)) (blkOk_by (N := N_L_paper) (sc := defScope s_L_paper) (by decide +kernel)) (fun _ _ _ _ _ => (pg_name (i := 5) sc_L_paper.nd rfl (by first | exact Or.inl rfl | exact Or.inr rfl))) (fun _ _ _ _ _ => pts_nil) (fun _ _ _ _ _ => (pe_call (ok_L_word_of t) (hr.mono (by decide)) (by rfl) t.m_L_word_of t.F_L_word_of.kp t.b_L_word_of .nil pass0 (pa_cons (pv 0) (pa_cons (pv 2) pa_nil))))) pa_nil)))))
      (pss_cons (ps_set (i := 6) sc_L_paper.nd rfl (by first | exact Or.inl rfl | exact Or.inr rfl) (pe_lst pa_nil))
      (pss_cons (ps_for PassesOwn.never rfl (pi_range1 (by rfl) t.n_range (pa_cons (pe_call (ok_L_draw t) (hr.mono (by decide)) (by rfl) t.m_L_draw t.F_L_draw.kp t.b_L_draw .nil pass0 (pa_cons (pv 0) (pa_cons pe_int pa_nil))) pa_nil)) (pg_name (i := 4) sc_L_paper.nd rfl (by first | exact Or.inl rfl | exact Or.inr rfl)) (pss_cons (ps_set (i := 7) sc_L_paper.nd rfl (by first | exact Or.inl rfl | exact Or.inr rfl) (pe_lst (pa_cons (pe_call (ok_L_word_of t) (hr.mono (by decide)) (by rfl) t.m_L_word_of t.F_L_word_of.kp t.b_L_word_of .nil pass0 (pa_cons (pv 0) (pa_cons (pv 2) pa_nil))) (pa_cons (pe_call (ok_L_word_of t) (hr.mono (by decide)) (by rfl) t.m_L_word_of t.F_L_word_of.kp t.b_L_word_of .nil pass0 (pa_cons (pv 0) (pa_cons (pv 2) pa_nil))) pa_nil))))
      (pss_one (ps_expr (pe_bm PySem.F.plainAttrs_list PySem.F.slot_list_append PySem.F.type_list_append mt_append (pv 6) (pa_cons (pe_tup (pa_cons (pe_ix ix_list (pv 7) pe_int (fun _ _ => rfl)) (pa_cons (pe_call (ok_L_draw t) (hr.mono (by decide)) (by rfl) t.m_L_draw t.F_L_draw.kp t.b_L_draw .nil pass0 (pa_cons (pv 0) (pa_cons pe_int pa_nil))) (pa_cons (pe_call (ok_L_draw t) (hr.mono (by decide)) (by rfl) t.m_L_draw t.F_L_draw.kp t.b_L_draw .nil pass0 (pa_cons (pv 0) (pa_cons pe_int pa_nil))) (pa_cons (pe_ix ix_list (pv 7) pe_int (fun _ _ => rfl)) pa_nil))))) pa_nil))))))
      (pss_one (ps_ret (pe_tup (pa_cons pe_str (pa_cons (pv 2) (pa_cons (pe_ix ix_list (pv 3) pe_int (fun _ _ => rfl)) (pa_cons (pe_ix ix_list (pv 3) pe_int (fun _ _ => rfl)) (pa_cons (pv 6) pa_nil))))))))))))))))), ?_⟩
    have g0 : Gr (muP p) F H F H := Gr.refl sF
    refine ⟨_, rfl, p, a, b, 6, rfl, hp, ha, hb, by decide, by decide, fun kd a1 b1 kd0 kd1 ha1 hb1 => ?_⟩
    have g1 := g0.set (o := PurseO a1 b1) fp (.inr rfl)
    have hp1 : (upd H p (PurseO a1 b1)) p = some (PurseO a1 b1) := upd_same
    generalize upd H p (PurseO a1 b1) = H1 at g1 hp1
    have th : ∀ {F : Hp} {n : Nat}, n ≤ 1001 → ThAt F (.int n) (.num n) := fun {_ n} h => ⟨by show n ≤ 2000; omega, rfl⟩
    -- kind < 2
    refine ⟨_, rfl, _, _, rfl, rfl, _, rfl, ite2 (fun c => ?_) (fun c => ?_)⟩
    · have c : kd < 2 := of_decide_eq_true c
      refine ⟨two_le, fun l nl => ?_⟩
      have g2 := g1.own (o := .lst [.str "ends", .str "back"]) nl
      have hp2 := ln (u := .lst [.str "ends", .str "back"]) nl hp1
      have hl2 : (upd H1 l (.lst [.str "ends", .str "back"])) l = some (.lst [.str "ends", .str "back"]) := upd_same
      generalize upd H1 l (.lst [.str "ends", .str "back"]) = H2 at g2 hp2 hl2
      obtain ⟨w, hw, gw⟩ : ∃ w : TStr, atI [V.str "ends", V.str "back"] kd = some (.str w.x) ∧ (w.x.length ≤ 10 ∧ w.x ≠ tShut.x) := by
        have h : kd = 0 ∨ kd = 1 := by omega
        rcases h with rfl | rfl
        · exact ⟨⟨"ends", by decide +kernel⟩, rfl, by decide +kernel, by decide +kernel⟩
        · exact ⟨⟨"back", by decide +kernel⟩, rfl, by decide +kernel, by decide +kernel⟩
      refine ⟨_, rfl, l, _, _, _, rfl, rfl, SqL.of hl2, hw, ?_⟩
      refine ⟨_, rfl, F, p, a1, b1, rfl, g2.fh, fp, hp2, ha1, hb1, fun H3 n a3 b3 g3 hp3 ha3 hb3 hn => ⟨two_le, fun u nu => ?_⟩⟩
      have g4 := (g2.trans g3).new (o := .tup [.str w.x, .int n]) nu
      exact q _ _ (.ref u) w [.num n] a3 b3 g4 (ln nu hp3) ha3 hb3 ⟨u, [.int n], rfl, upd_same, All2.one (th hn)⟩ ⟨gw.1, by show 1 ≤ 5; decide, .inr ⟨gw.2, fun t m => by rw [List.mem_singleton.mp m]; rfl⟩⟩
    have c : ¬ kd < 2 := fun z => c (decide_eq_true z)
    refine ⟨_, rfl, _, _, rfl, rfl, _, rfl, ite2 (fun c4 => ?_) (fun c4 => ?_)⟩
    · have c4 : kd < 4 := of_decide_eq_true c4
      refine ⟨two_le, fun l nl => ?_⟩
      have g2 := g1.own (o := .lst [.str "ring", .str "drift"]) nl
      have hp2 := ln (u := .lst [.str "ring", .str "drift"]) nl hp1
      have hl2 : (upd H1 l (.lst [.str "ring", .str "drift"])) l = some (.lst [.str "ring", .str "drift"]) := upd_same
      generalize upd H1 l (.lst [.str "ring", .str "drift"]) = H2 at g2 hp2 hl2
      obtain ⟨w, hw, gw⟩ : ∃ w : TStr, atI [V.str "ring", V.str "drift"] (kd - 2) = some (.str w.x) ∧ (w.x.length ≤ 10 ∧ w.x ≠ tShut.x) := by
        have h : kd = 2 ∨ kd = 3 := by omega
        rcases h with rfl | rfl
        · exact ⟨⟨"ring", by decide +kernel⟩, rfl, by decide +kernel, by decide +kernel⟩
        · exact ⟨⟨"drift", by decide +kernel⟩, rfl, by decide +kernel, by decide +kernel⟩
      refine ⟨_, rfl, _, _, rfl, rfl, l, _, _, _, rfl, rfl, SqL.of hl2, hw, ?_⟩
      refine ⟨_, rfl, F, p, a1, b1, rfl, g2.fh, fp, hp2, ha1, hb1, fun H3 n a3 b3 g3 hp3 ha3 hb3 hn => ?_⟩
      refine ⟨_, rfl, F, p, a3, b3, rfl, g3.fh, fp, hp3, ha3, hb3, fun H4 m a4 b4 g4 hp4 ha4 hb4 hm => ⟨three_le, fun u nu => ?_⟩⟩
      have g5 := ((g2.trans g3).trans g4).new (o := .tup [.str w.x, .int n, .int m]) nu
      exact q _ _ (.ref u) w [.num n, .num m] a4 b4 g5 (ln nu hp4) ha4 hb4 ⟨u, [.int n, .int m], rfl, upd_same, All2.cons (th hn) (All2.one (th hm))⟩ ⟨gw.1, by show 2 ≤ 5; decide, .inr ⟨gw.2, fun t z => by
        rcases List.mem_cons.mp z with rfl | z
        · rfl
        · rw [List.mem_singleton.mp z]; rfl⟩⟩
    refine ⟨_, rfl, rfl, _, rfl, ite2 (fun _ => ?_) (fun _ => ?_)⟩
    · refine ⟨one_le, fun u nu => ?_⟩
      have g5 := g1.new (o := .tup [.str "open"]) nu
      exact q _ _ (.ref u) ⟨"open", by decide +kernel⟩ [] a1 b1 g5 (ln nu hp1) ha1 hb1 ⟨u, [], rfl, upd_same, All2.nil⟩ ⟨by decide +kernel, by decide, .inr ⟨by decide +kernel, fun t z => nomatch z⟩⟩
    -- shut: width, lots
    refine ⟨_, rfl, p, a1, b1, 4, rfl, hp1, ha1, hb1, by decide, by decide, fun d a2 b2 d0 d1 ha2 hb2 => ⟨_, _, rfl, rfl, ?_⟩⟩
    have g2 := g1.set (o := PurseO a2 b2) fp (.inr rfl)
    have hp2 : (upd H1 p (PurseO a2 b2)) p = some (PurseO a2 b2) := upd_same
    generalize upd H1 p (PurseO a2 b2) = H2 at g2 hp2
    obtain ⟨k, ek⟩ : ∃ k : Nat, 1 + d = (k : Int) := Int.eq_ofNat_of_zero_le (by omega)
    have k4 : k ≤ 4 := by omega
    dsimp only
    rw [ek]
    refine ⟨nil_le, fun L nL => ?_⟩
    have g3 := g2.own (o := .lst []) nL
    have w3 : Ow H F (upd H2 L (.lst [])) L (.lst []) := Ow.mk1 g2 nL
    have hp3 := ln (u := .lst []) nL hp2
    generalize upd H2 L (.lst []) = H3 at g3 w3 hp3
    have pL : L ≠ p := fun z => by rw [z] at w3; rw [w3.n] at hp; cases hp
    refine ⟨2, rfl, by decide, by decide, for_range (lo := 0) (n := 2) (fun i σ G => ∃ (F1 : Hp) (xs : List V) (wss : List (List Wd)) (a b : Int) (v4 : Option V), σ = [some (.ref p), some (.int kd), some (.int k), some (.ref L), v4, none, none, none] ∧ Gr (muP p) F H F1 G ∧ G p = some (PurseO a b) ∧ 0 ≤ a ∧ 0 ≤ b ∧ Ow H F1 G L (.lst xs) ∧ All2 (fun v ws => ThAt F1 v (.words ws)) xs wss ∧ xs.length = i)
      ⟨F, [], [], a2, b2, none, rfl, g3, hp3, ha2, hb2, w3, All2.nil, rfl⟩ ?_ ?_⟩
    · rintro i σ G hi ⟨F1, xs, wss, a, b, v4, rfl, g, hpG, ha, hb, w, al, hl⟩
      have fpF : F1 p = none := g.pf fp hp
      refine ⟨_, rfl, .inl ⟨rfl, _, SqL.of w.h⟩, ?_⟩
      refine ⟨_, rfl, p, a, b, 13, rfl, hpG, ha, hb, by decide, by decide, fun m a3 b3 m0 m1 ha3 hb3 => ?_⟩
      have g4 := g.set (o := PurseO a3 b3) fpF (.inr rfl)
      have w4 := w.other (u := PurseO a3 b3) pL
      have hp4 : (upd G p (PurseO a3 b3)) p = some (PurseO a3 b3) := upd_same
      generalize upd G p (PurseO a3 b3) = G4 at g4 w4 hp4
      refine ⟨m, rfl, by omega, by omega, fun D nD => ?_⟩
      have LD := w4.ne nD
      have pD : D ≠ p := (ne_of_none hp4 nD).symm
      refine lc_range (lo := 0) (n := m.toNat) (fun j G => ∃ (F2 : Hp) (ys : List V) (ws : List Wd) (a b : Int), Gr (muP p) F H F2 G ∧ G p = some (PurseO a b) ∧ 0 ≤ a ∧ 0 ≤ b ∧ Same F1 F2 ∧ Ow H F2 G L (.lst xs) ∧ Ow H F2 G D (.lst ys) ∧ IsAll F2 ys ws ∧ ws.length = j)
        ⟨F1, [], [], a3, b3, g4.own nD, ln nD hp4, ha3, hb3, Same.refl _, w4.own nD, Ow.mk1 g4 nD, All2.nil, rfl⟩ ?_ ?_
      · rintro j G hj ⟨F2, ys, ws, a, b, g, hpG, ha, hb, s2, wL, wD, alw, hl2⟩
        refine ⟨rfl, yes ⟨_, rfl, _, rfl, F2, p, a, b, k, rfl, g.fh, g.pf fp hp, hpG, ha, hb, k4, fun F3 H5 v wd a5 b5 g5 hp5 ha5 hb5 hv => ?_⟩⟩
        have wL5 := wL.call g5 pL
        have wD5 := wD.call g5 pD
        refine ⟨ys, wD5.h, lt_size (by rw [alw.1, hl2]; omega), F3, ys ++ [v], ws ++ [wd], a5, b5, (g.trans g5).set wD5.f (.inl wD5.n), (upd_ne pD.symm).trans hp5, ha5, hb5, fun c o h => g5.ff _ _ (s2 _ _ h), wL5.other LD, wD5.set, (IsAll.up alw g5.ff).app (All2.one hv), by rw [List.length_append, hl2]; rfl⟩
      · rintro G5 ⟨F2, ys, ws, a5, b5, g5, hp5, ha5, hb5, s2, wL, wD, alw, hl2⟩
        have g6 := g5.frz wD.h wD.n wD.f
        have s6 : Same F2 (upd F2 D (.lst ys)) := sm_new (Same.refl F2) wD.f
        have wL6 : Ow H (upd F2 D (.lst ys)) G5 L (.lst xs) := ⟨wL.n, by rw [upd_ne LD]; exact wL.f, wL.h⟩
        refine ⟨L, _, _, rfl, rfl, wL.h, lt_size (by omega), ?_⟩
        refine ⟨_, xs ++ [.ref D], wss ++ [ws], a5, b5, _, rfl, g6.set wL6.f (.inl wL6.n), (upd_ne pL.symm).trans hp5, ha5, hb5, wL6.set, (al.imp fun v ws z => (z.up s2).up s6).app (All2.one ⟨by show ws.length ≤ 2000; omega, D, ys, rfl, upd_same, IsAll.up alw s6⟩), by rw [List.length_append, hl]; rfl⟩
    rintro σ G ⟨F1, xs, wss, a3, b3, v4, rfl, g4, hp4, ha3, hb3, w4, al, hl⟩
    -- middles
    refine ⟨nil_le, fun N nN => ?_⟩
    have g5 := g4.own (o := .lst []) nN
    have hp5 := ln (u := .lst []) nN hp4
    have w5 := w4.own (u := .lst []) nN
    have wN : Ow H F1 (upd G N (.lst [])) N (.lst []) := Ow.mk1 g4 nN
    have LN := w4.ne nN
    have pN : N ≠ p := (ne_of_none hp4 nN).symm
    generalize upd G N (.lst []) = G5 at g5 hp5 w5 wN
    have fp1 : F1 p = none := g4.pf fp hp
    refine ⟨_, rfl, p, a3, b3, 13, rfl, hp5, ha3, hb3, by decide, by decide, fun m a6 b6 m0 m1 ha6 hb6 => ?_⟩
    have g6 := g5.set (o := PurseO a6 b6) fp1 (.inr rfl)
    have w6 := w5.other (u := PurseO a6 b6) pL
    have wN6 := wN.other (u := PurseO a6 b6) pN
    have hp6 : (upd G5 p (PurseO a6 b6)) p = some (PurseO a6 b6) := upd_same
    generalize upd G5 p (PurseO a6 b6) = G6 at g6 w6 wN6 hp6
    refine ⟨m, rfl, by omega, by omega, for_range (lo := 0) (n := m.toNat) (fun i σ G => ∃ (F2 : Hp) (ys : List V) (ms : List Mid) (a b : Int) (v4 v7 : Option V), σ = [some (.ref p), some (.int kd), some (.int k), some (.ref L), v4, none, some (.ref N), v7] ∧ Gr (muP p) F H F2 G ∧ G p = some (PurseO a b) ∧ 0 ≤ a ∧ 0 ≤ b ∧ Same F1 F2 ∧ Ow H F2 G L (.lst xs) ∧ Ow H F2 G N (.lst ys) ∧ IsAll F2 ys ms ∧ ms.length = i)
      ⟨F1, [], [], a6, b6, v4, none, rfl, g6, hp6, ha6, hb6, Same.refl _, w6, wN6, All2.nil, rfl⟩ ?_ ?_⟩
    · rintro i σ G hi ⟨F2, ys, ms, a, b, v4, v7, rfl, g, hpG, ha, hb, s2, wL, wN, alm, hlm⟩
      refine ⟨_, rfl, _, rfl, F2, p, a, b, k, rfl, g.fh, g.pf fp hp, hpG, ha, hb, k4, fun F3 H7 x1 w1 a7 b7 g7 hp7 ha7 hb7 hx1 => ?_⟩
      have gg7 := g.trans g7
      refine ⟨_, rfl, _, rfl, F3, p, a7, b7, k, rfl, g7.fh, gg7.pf fp hp, hp7, ha7, hb7, k4, fun F4 H8 x2 w2 a8 b8 g8 hp8 ha8 hb8 hx2 => ⟨two_le, fun E nE => ?_⟩⟩
      have gg8 := gg7.trans g8
      have wL8 := (wL.call g7 pL).call g8 pL
      have wN8 := (wN.call g7 pN).call g8 pN
      have g9 := gg8.own (o := .lst [x1, x2]) nE
      have hp9 := ln (u := .lst [x1, x2]) nE hp8
      have wL9 := wL8.own (u := .lst [x1, x2]) nE
      have wN9 := wN8.own (u := .lst [x1, x2]) nE
      have hE : (upd H8 E (.lst [x1, x2])) E = some (.lst [x1, x2]) := upd_same
      have pE : E ≠ p := (ne_of_none hp8 nE).symm
      generalize upd H8 E (.lst [x1, x2]) = H9 at g9 hp9 wL9 wN9 hE
      have fp4 : F4 p = none := gg8.pf fp hp
      refine ⟨_, rfl, .inl ⟨rfl, _, SqL.of wN9.h⟩, ?_⟩
      refine ⟨_, rfl, E, _, _, _, rfl, rfl, SqL.of hE, atI_nat (j := 0) rfl, ?_⟩
      refine ⟨_, rfl, p, a8, b8, 4, rfl, hp9, ha8, hb8, by decide, by decide, fun e1 a9 b9 e10 e11 ha9 hb9 => ?_⟩
      have g10 := g9.set (o := PurseO a9 b9) fp4 (.inr rfl)
      refine ⟨_, rfl, p, a9, b9, 2, rfl, upd_same, ha9, hb9, by decide, by decide, fun e2 a10 b10 e20 e21 ha10 hb10 => ?_⟩
      have g11 := g10.set (o := PurseO a10 b10) fp4 (.inr rfl)
      have wN11 := (wN9.other (u := PurseO a9 b9) pN).other (u := PurseO a10 b10) pN
      have wL11 := (wL9.other (u := PurseO a9 b9) pL).other (u := PurseO a10 b10) pL
      have hE11 := (upd_ne (o := PurseO a10 b10) pE).trans ((upd_ne (o := PurseO a9 b9) pE).trans hE)
      have hp11 : (upd (upd H9 p (PurseO a9 b9)) p (PurseO a10 b10)) p = some (PurseO a10 b10) := upd_same
      generalize upd (upd H9 p (PurseO a9 b9)) p (PurseO a10 b10) = H11 at g11 wN11 wL11 hE11 hp11
      refine ⟨_, rfl, E, _, _, _, rfl, rfl, SqL.of hE11, atI_nat (j := 1) rfl, four_le, fun u nu => ?_⟩
      have g12 := g11.new (o := .tup [x1, .int e1, .int e2, x2]) nu
      have s12 : Same F4 (upd F4 u (.tup [x1, .int e1, .int e2, x2])) := sm_new (Same.refl F4) (g11.fh.free nu)
      have wN12 := wN11.new (u := .tup [x1, .int e1, .int e2, x2]) nu
      have wL12 := wL11.new (u := .tup [x1, .int e1, .int e2, x2]) nu
      refine ⟨N, _, _, rfl, rfl, wN12.h, lt_size (by rw [alm.1, hlm]; omega), ?_⟩
      have hu : Is (upd F4 u (.tup [x1, .int e1, .int e2, x2])) (.ref u) (⟨w1, e1, e2, w2⟩ : Mid) := ⟨u, _, _, _, _, rfl, upd_same, (hx1.up g8.ff).up s12, rfl, rfl, hx2.up s12⟩
      refine ⟨_, ys ++ [.ref u], ms ++ [⟨w1, e1, e2, w2⟩], a10, b10, _, _, rfl, g12.set wN12.f (.inl wN12.n), (upd_ne pN.symm).trans (ln nu hp11), ha10, hb10, fun c o h => s12 _ _ (g8.ff _ _ (g7.ff _ _ (s2 _ _ h))), wL12.other LN, wN12.set, (IsAll.up (IsAll.up (IsAll.up alm g7.ff) g8.ff) s12).app (All2.one hu), by rw [List.length_append, hlm]; rfl⟩
    rintro σ G7 ⟨F2, ys, ms, a7, b7, v4, v7, rfl, g7, hp7, ha7, hb7, s2, wL, wN, alm, hlm⟩
    -- the paper
    have al2 := al.imp fun v ws z => z.up s2
    have lw : wss.length = 2 := by rw [← al.1, hl]
    obtain ⟨x0, h0, t0⟩ := al2.get (i := 0) (List.getElem?_eq_getElem (by omega))
    obtain ⟨x1, h1, t1⟩ := al2.get (i := 1) (List.getElem?_eq_getElem (by omega))
    refine ⟨_, rfl, _, rfl, L, _, _, _, rfl, rfl, SqL.of wL.h, atI_nat (j := 0) h0, _, rfl, L, _, _, _, rfl, rfl, SqL.of wL.h, atI_nat (j := 1) h1, _, rfl, five_le, fun u nu => ?_⟩
    have NU := wN.ne nu
    have g8 := g7.frz wN.h wN.n wN.f
    have s8 : Same F2 (upd F2 N (.lst ys)) := sm_new (Same.refl F2) wN.f
    have hN8 : (upd F2 N (.lst ys)) N = some (.lst ys) := upd_same
    generalize upd F2 N (.lst ys) = F8 at g8 s8 hN8
    have g9 := g8.new (o := .tup [.str tShut.x, .int k, x0, x1, .ref N]) nu
    have s9 : Same F8 (upd F8 u (.tup [.str tShut.x, .int k, x0, x1, .ref N])) := sm_new (Same.refl F8) (g8.fh.free nu)
    refine q _ _ (.ref u) tShut [.num k, .words wss[0], .words wss[1], .mids ms] a7 b7 g9 (ln nu hp7) ha7 hb7 ⟨u, [.int k, x0, x1, .ref N], rfl, upd_same, All2.cons (th (by omega)) (All2.cons ((t0.up s8).up s9) (All2.cons ((t1.up s8).up s9) (All2.one ⟨by show ms.length ≤ 2000; omega, N, ys, rfl, s9 _ _ hN8, IsAll.up (IsAll.up alm s8) s9⟩)))⟩ ⟨by decide +kernel, by show 4 ≤ 5; decide, .inl ⟨rfl, k, _, rfl, fun t z => ?_⟩⟩
    rcases List.mem_cons.mp z with rfl | z
    · rfl
    rcases List.mem_cons.mp z with rfl | z
    · rfl
    rw [List.mem_singleton.mp z]; rfl
theorem TyThing {K : PySem.W.Frag} {F H : Hp} {v : V} {t : Th} (s : Same F H) (h : ThAt F v t) : ∃ ty : Value, TyX K H v ty ∧ PySem.W.kitOne K ty (.type "list") = some t.lot := by
  cases hl : t.lot with
  | true =>
    obtain ⟨p, xs, rfl, hp, _⟩ := h.lst hl
    exact ⟨.type "list", .base (.lst (s _ _ hp)), kt_list⟩
  | false =>
    rw [h.num hl]
    exact ⟨.type "int", .base (.int _), kt_int_list⟩
def sp_L_kept : Sp := fun vs H Q _ => ∃ (F : Hp) (v : V) (w : TStr) (ts : List Th), vs = [v] ∧ Same F H ∧ PaperAt F v w ts ∧ ts.length ≤ 5 ∧
  ∀ (F' H' : Hp) (u : V), Gr mu0 F H F' H' → PaperAt F' u w ts → Q u H'
theorem ok_L_kept (t : Tx K mg) : FnOk P w K mg base CX0 1 t.a_L_kept t.fd_L_kept ["_law_paper_here"] sp_L_kept := by
  refine t.F_L_kept.ok sc_L_kept (fun vs H Q E h => ?_) (fun cdv A outer s H vs Q E hr h => ?_)
  · obtain ⟨F, v, w, ts, rfl, _⟩ := h
    rfl
  · obtain ⟨F, v, w, ts, rfl, sF, hv, hts, q⟩ := h
    refine ⟨_, (pss_cons (ps_set (i := 1) sc_L_kept.nd rfl (by first | exact Or.inl rfl | exact Or.inr rfl) (pe_lst pa_nil))
      (pss_cons (ps_for PassesOwn.never rfl (pi_tup (pv 0)) (pg_name (i := 2) sc_L_kept.nd rfl (by first | exact Or.inl rfl | exact Or.inr rfl)) (pss_cons (ps_if (pt_val (pe_callB (id := "isinstance") call_isi (by rfl) t.n_isinstance (by decide +kernel) (pa_cons (pv 2) (pa_cons (pe_bltn (v := .ty "list") (by rfl) t.n_list (by decide +kernel) rfl) pa_nil)))) (pss_one (ps_set (i := 2) sc_L_kept.nd rfl (by first | exact Or.inl rfl | exact Or.inr rfl) (pe_callTy (T := "list") call_listQ (by rfl) t.n_list (by decide +kernel) (pa_cons (pv 2) pa_nil)))) pss_nil)
      (pss_one (ps_expr (pe_bm PySem.F.plainAttrs_list PySem.F.slot_list_append PySem.F.type_list_append mt_append (pv 1) (pa_cons (pv 2) pa_nil))))))
      (pss_one (ps_ret (pe_callTy (T := "tuple") call_tupQ (by rfl) t.n_tuple (by decide +kernel) (pa_cons (pv 1) pa_nil)))))), ?_⟩
    obtain ⟨a, vs, rfl, ha, al⟩ := id hv
    have g0 : Gr mu0 F H F H := Gr.refl sF
    refine ⟨nil_le, fun D nD => ?_⟩
    have g1 := g0.own (o := .lst []) nD
    refine ⟨_, rfl, a, rfl, ⟨_, SqT.of (g1.fh _ _ ha)⟩, for_tup (K := K) (a := a) (xs := .str w.x :: vs) (fun i σ G => ∃ (F1 : Hp) (us : List V) (v2 : Option V), σ = [some (.ref a), some (.ref D), v2] ∧ Gr mu0 F H F1 G ∧ Ow H F1 G D (.lst us) ∧ us.length = i ∧ (i = 0 ∨ ∃ us', us = .str w.x :: us' ∧ All2 (fun v t => ThAt F1 v t) us' (ts.take (i - 1))))
      ⟨F, [], none, rfl, g1, Ow.mk1 g0 nD, rfl, .inl rfl⟩ (fun i σ G _ ⟨F1, _, _, _, g, _⟩ => SqT.of (g.fh _ _ (g.ff _ _ ha))) ?_ ?_⟩
    · rintro i y σ G hi ⟨F1, us, v2, rfl, g, wD, lu, hu⟩
      have il : i < vs.length + 1 := by have := (List.getElem?_eq_some_iff.mp hi).1; rwa [List.length_cons] at this
      have lts := al.1
      cases i with
      | zero =>
        cases hi
        have hnil : us = [] := List.length_eq_zero_iff.mp lu
        subst hnil
        refine ⟨_, rfl, _, _, _, _, false, rfl, .ty "list", .base (.str _), kt_str_list, _, rfl, ifF rfl ?_⟩
        refine ⟨_, rfl, .inl ⟨rfl, _, SqL.of wD.h⟩, _, rfl, D, _, _, rfl, rfl, wD.h, lt_size (by show 0 ≤ _; omega), ?_⟩
        exact ⟨F1, [.str w.x], _, rfl, g.set wD.f (.inl wD.n), wD.set, rfl, .inr ⟨[], rfl, by rw [show (0 + 1 - 1 : Nat) = 0 from rfl, List.take_zero]; exact All2.nil⟩⟩
      | succ i =>
        have hi : vs[i]? = some y := hi
        obtain ⟨th, hth, hy⟩ := al.get' hi
        have hy1 := hy.up g.ff
        obtain ⟨us', rfl, alu⟩ := hu.resolve_left (by omega)
        have tk : ts.take (i + 1 + 1 - 1) = ts.take (i + 1 - 1) ++ [th] := by
          rw [show i + 1 + 1 - 1 = i + 1 from rfl, show i + 1 - 1 = i from rfl, List.take_add_one, hth]; rfl
        obtain ⟨ty, h1, h2⟩ := TyThing (K := K) g.fh hy1
        refine ⟨_, rfl, _, _, _, _, th.lot, rfl, .ty "list", h1, h2, _, rfl, ite2 (fun c => ?_) (fun c => ?_)⟩
        · obtain ⟨p, xs, rfl, hp, lx, cp⟩ := hy1.lst c
          refine ⟨_, rfl, p, xs, rfl, .inl (SqL.of (g.fh _ _ hp)), fun l nl => ?_⟩
          have g2 := g.new (o := .lst xs) nl
          have s2 : Same F1 (upd F1 l (.lst xs)) := sm_new (Same.refl F1) (g.fh.free nl)
          have w2 := wD.new (u := .lst xs) nl
          refine ⟨_, rfl, .inl ⟨rfl, _, SqL.of w2.h⟩, _, rfl, D, _, _, rfl, rfl, w2.h, lt_size (by omega), ?_⟩
          refine ⟨_, _, _, rfl, g2.set w2.f (.inl w2.n), w2.set, by rw [List.length_append, lu]; rfl, .inr ⟨us' ++ [.ref l], rfl, ?_⟩⟩
          rw [tk]
          exact (alu.imp fun _ _ z => z.up s2).app (All2.one (cp _ l s2 upd_same))
        · refine ⟨_, rfl, .inl ⟨rfl, _, SqL.of wD.h⟩, _, rfl, D, _, _, rfl, rfl, wD.h, lt_size (by omega), ?_⟩
          refine ⟨F1, _, _, rfl, g.set wD.f (.inl wD.n), wD.set, by rw [List.length_append, lu]; rfl, .inr ⟨us' ++ [y], rfl, ?_⟩⟩
          rw [tk]
          exact alu.app (All2.one hy1)
    · rintro σ G ⟨F1, us, v2, rfl, g, wD, lu, hu⟩
      obtain ⟨us', rfl, alu⟩ := hu.resolve_left (by show ¬ vs.length + 1 = 0; omega)
      have e : ts.take ((V.str w.x :: vs).length - 1) = ts := by
        rw [List.length_cons, Nat.add_sub_cancel, al.1, List.take_length]
      rw [e] at alu
      refine ⟨_, rfl, D, _, rfl, .inl ⟨SqL.of wD.h, fun l nl => ?_⟩⟩
      have g2 := g.new (o := .tup (.str w.x :: us')) nl
      have s2 : Same F1 (upd F1 l (.tup (.str w.x :: us'))) := sm_new (Same.refl F1) (g.fh.free nl)
      exact q _ _ (.ref l) g2 ⟨l, us', rfl, upd_same, alu.imp fun _ _ z => z.up s2⟩
def sp_L_due : Sp := fun vs H Q _ => ∃ (F : Hp) (v : V) (w : TStr) (ts : List Th), vs = [v] ∧ Same F H ∧ PaperAt F v w ts ∧ Good w ts ∧ ∀ H', Gr mu0 F H F H' → Q (.str (paperT w ts)) H'
theorem small_things {F : Hp} {vs : List V} {ts : List Th} (al : All2 (fun v t => ThAt F v t) vs ts) : ∀ t ∈ ts, t.no ≤ 2000 := fun t m => by
  obtain ⟨i, hi⟩ := List.getElem?_of_mem m
  obtain ⟨x, _, h⟩ := al.get hi
  exact h.1
theorem cut_from1 {x : V} {vs : List V} : cutV (x :: vs) (some 1) none = vs := cut_1
theorem ok_L_due (t : Tx K mg) : FnOk P w K mg base CX0 1 t.a_L_due t.fd_L_due ["_law_paper_here"] sp_L_due := by
  refine t.F_L_due.ok sc_L_due (fun vs H Q E h => ?_) (fun cdv A outer s H vs Q E hr h => ?_)
  · obtain ⟨F, v, w, ts, rfl, _⟩ := h
    rfl
  · obtain ⟨F, v, w, ts, rfl, sF, hv, hg, q⟩ := h
    refine ⟨_, (pss_cons (ps_set (i := 1) sc_L_due.nd rfl (by first | exact Or.inl rfl | exact Or.inr rfl) (pe_lst (pa_cons (pe_ix ix_tup (pv 0) pe_int (fun _ _ => rfl)) pa_nil)))
      (pss_cons (ps_for PassesOwn.never rfl (pi_tup (pe_slice sl_tupQ (pv 0) (po_some pe_int) po_none)) (pg_name (i := 2) sc_L_due.nd rfl (by first | exact Or.inl rfl | exact Or.inr rfl)) (pss_one (ps_if (pt_val (pe_callB (id := "isinstance") call_isi (by rfl) t.n_isinstance (by decide +kernel) (pa_cons (pv 2) (pa_cons (pe_bltn (v := .ty "list") (by rfl) t.n_list (by decide +kernel) rfl) pa_nil)))) (pss_one (ps_expr (pe_bm PySem.F.plainAttrs_list PySem.F.slot_list_append PySem.F.type_list_append mt_append (pv 1) (pa_cons (pe_callTy (T := "str") call_str_int (by rfl) t.n_str (by decide +kernel) (pa_cons (pe_callB (id := "len") call_lenQ (by rfl) t.n_len (by decide +kernel) (pa_cons (pv 2) pa_nil)) pa_nil)) pa_nil)))) (pss_one (ps_expr (pe_bm PySem.F.plainAttrs_list PySem.F.slot_list_append PySem.F.type_list_append mt_append (pv 1) (pa_cons (pe_callTy (T := "str") call_str_int (by rfl) t.n_str (by decide +kernel) (pa_cons (pv 2) pa_nil)) pa_nil)))))))
      (pss_one (ps_ret (pe_join pe_str (pv 1)))))), ?_⟩
    obtain ⟨a, vs, rfl, ha, al⟩ := id hv
    have g0 : Gr mu0 F H F H := Gr.refl sF
    have sm := small_things al
    have tl := hg.tl
    refine ⟨_, rfl, a, _, _, _, rfl, rfl, SqT.of (sF _ _ ha), atI_nat (j := 0) rfl, one_le, fun D nD => ?_⟩
    have g1 := g0.own (o := .lst [.str w.x]) nD
    have wD : Ow H F (upd H D (.lst [.str w.x])) D (.lst [.str w.x]) := Ow.mk1 g0 nD
    refine ⟨_, rfl, _, rfl, slA_cut (SqT.of (g1.fh _ _ ha)) (by rw [List.length_cons]; exact cut_no) fun p np => ⟨p, rfl, ?_⟩⟩
    rw [cut_from1]
    have g2 := g1.own (o := .tup vs) np
    have w2 := wD.own (u := .tup vs) np
    have hp2 : (upd (upd H D (.lst [.str w.x])) p (.tup vs)) p = some (.tup vs) := upd_same
    generalize upd (upd H D (.lst [.str w.x])) p (.tup vs) = G2 at g2 w2 hp2
    refine ⟨⟨_, SqT.of hp2⟩, for_tup (K := K) (a := p) (xs := vs) (fun i σ G => ∃ v2 : Option V, σ = [some (.ref a), some (.ref D), v2] ∧ Gr mu0 F H F G ∧ G p = some (.tup vs) ∧ Ow H F G D (.lst ((w.x :: (ts.take i).map fun t => numT t.no).map V.str)))
      ⟨none, rfl, g2, hp2, w2⟩ (fun i σ G _ ⟨_, _, _, h, _⟩ => SqT.of h) ?_ ?_⟩
    · rintro i y σ G hi ⟨v2, rfl, g, hp, wD⟩
      have il : i < vs.length := (List.getElem?_eq_some_iff.mp hi).1
      have Dp' : D ≠ p := ne_of wD.h hp (by intro z; cases z)
      obtain ⟨th, hth, hy⟩ := al.get' hi
      obtain ⟨ty, h1, h2⟩ := TyThing (K := K) g.fh hy
      have lD : ((w.x :: (ts.take i).map fun t => numT t.no).map V.str).length ≤ 10 := by
        rw [List.length_map, List.length_cons, List.length_map, List.length_take]; omega
      have fin : ∀ G', G' = upd G D (.lst (((w.x :: (ts.take i).map fun t => numT t.no).map V.str) ++ [.str (numT th.no)])) → ∃ v2 : Option V, [some (V.ref a), some (V.ref D), some y] = [some (.ref a), some (.ref D), v2] ∧ Gr mu0 F H F G' ∧ G' p = some (.tup vs) ∧ Ow H F G' D (.lst ((w.x :: (ts.take (i + 1)).map fun t => numT t.no).map V.str)) := by
        rintro G' rfl
        have e : (w.x :: (ts.take (i + 1)).map fun t => numT t.no).map V.str = ((w.x :: (ts.take i).map fun t => numT t.no).map V.str) ++ [.str (numT th.no)] := by
          rw [List.take_add_one, hth, List.map_append, List.map_cons, List.map_append]; rfl
        rw [e]
        exact ⟨_, rfl, g.set wD.f (.inl wD.n), (upd_ne Dp'.symm).trans hp, wD.set⟩
      refine ⟨_, rfl, _, _, _, _, th.lot, rfl, .ty "list", h1, h2, _, rfl, ite2 (fun c => ?_) (fun c => ?_)⟩
      · obtain ⟨p', xs, rfl, hp', lx, _⟩ := hy.lst c
        refine ⟨_, rfl, .inl ⟨rfl, _, SqL.of wD.h⟩, _, rfl, p', xs, rfl, .inl (SqL.of (g.fh _ _ hp')), (xs.length : Int), rfl, ?_, D, _, _, rfl, rfl, wD.h, lt_size (by omega), ?_⟩
        · exact num_log (by rw [lx]; exact hy.1)
        · rw [lx]; exact fin _ rfl
      · have c : th.lot = false := by cases z : th.lot with | false => rfl | true => exact absurd z c
        rw [hy.num c]
        refine ⟨_, rfl, .inl ⟨rfl, _, SqL.of wD.h⟩, _, rfl, (th.no : Int), rfl, num_log hy.1, D, _, _, rfl, rfl, wD.h, lt_size (by omega), ?_⟩
        rw [← hy.num c]
        exact fin _ rfl
    · rintro σ G ⟨v2, rfl, g, hp, wD⟩
      rw [al.1, List.take_length] at wD
      exact ⟨⟨_, rfl⟩, _, rfl, _, D, _, rfl, rfl, .inl (SqL.of wD.h), join_few hg.wl hg.tl sm, q G g⟩
def sp_show_paper : Sp := sp_L_due
theorem ok_show_paper (t : Tx K mg) : FnOk P w K mg base CX0 1 t.a_show_paper t.fd_show_paper ["paper"] sp_show_paper := by
  refine t.F_show_paper.ok sc_show_paper (fun vs H Q E h => ?_) (fun cdv A outer s H vs Q E hr h => ?_)
  · obtain ⟨F, v, w, ts, rfl, _⟩ := h
    rfl
  · obtain ⟨F, v, w, ts, rfl, sF, hv, hg, q⟩ := h
    refine ⟨_, (pss_cons (ps_if (pt_cmpR op_eq (pe_ix ix_tup (pv 0) pe_int (fun _ _ => rfl)) pe_str (nomark _)) (pss_one (ps_ret (pe_join pe_str (pe_op op_cat (pe_lst (pa_cons pe_str (pa_cons (pe_callTy (T := "str") call_str_int (by rfl) t.n_str (by decide +kernel) (pa_cons (pe_ix ix_tup (pv 0) pe_int (fun _ _ => rfl)) pa_nil)) pa_nil))) (pe_lc (own := [("some", 1)]) (g := gName 1) (tt := tYes) rfl sc_show_paper.nd (pi_tup (pe_slice sl_tupQ (pv 0) (po_some pe_int) po_none)) (blkOk_by (N := N_show_paper) (sc := defScope s_show_paper) (by decide +kernel)) (fun _ _ _ _ _ => (pg_name (i := 1) sc_show_paper.nd rfl (by first | exact Or.inl rfl | exact Or.inr rfl))) (fun _ _ _ _ _ => pts_nil) (fun _ _ _ _ _ => (pe_callTy (T := "str") call_str_int (by rfl) t.n_str (by decide +kernel) (pa_cons (pe_callB (id := "len") (crK (K := K) (r := rLenQ) rfl call_lenQ) (by rfl) t.n_len (by decide +kernel) (pa_cons (pv 1) pa_nil)) pa_nil)))))))) pss_nil)
      (pss_one (ps_ret (pe_join pe_str (pe_op op_cat (pe_lst (pa_cons (pe_ix ix_tup (pv 0) pe_int (fun _ _ => rfl)) pa_nil)) (pe_lc (own := [("number", 2)]) (g := gName 2) (tt := tYes) rfl sc_show_paper.nd (pi_tup (pe_slice sl_tupQ (pv 0) (po_some pe_int) po_none)) (blkOk_by (N := N_show_paper) (sc := defScope s_show_paper) (by decide +kernel)) (fun _ _ _ _ _ => (pg_name (i := 2) sc_show_paper.nd rfl (by first | exact Or.inl rfl | exact Or.inr rfl))) (fun _ _ _ _ _ => pts_nil) (fun _ _ _ _ _ => (pe_callTy (T := "str") call_str_int (by rfl) t.n_str (by decide +kernel) (pa_cons (pv 2) pa_nil))))))))), ?_⟩
    obtain ⟨a, vs, rfl, ha, al⟩ := id hv
    have g0 : Gr mu0 F H F H := Gr.refl sF
    have sm := small_things al
    have tl := hg.tl
    have hA := SqT.of (K := K) (sF _ _ ha)
    refine ⟨_, rfl, a, _, _, _, rfl, rfl, hA, atI_nat (j := 0) rfl, rfl, _, rfl, ite2 (fun c => ?_) (fun c => ?_)⟩
    · have ew : w.x = tShut.x := V.str.inj (of_decide_eq_true c)
      obtain ⟨_, k, lots, rfl, hl⟩ := hg.kind.resolve_right (fun z => z.1 ew)
      obtain ⟨x0, h0, t0⟩ := al.get (i := 0) rfl
      have e0 : x0 = .int k := t0.2
      subst e0
      have t0' : k ≤ 2000 := t0.1
      refine ⟨⟨_, rfl⟩, _, rfl, a, _, _, _, rfl, rfl, hA, atI_nat (j := 1) h0, (k : Int), rfl, num_log t0', two_le, fun l nl => ?_⟩
      have g1 := g0.own (o := .lst [.str "shut", .str (toString (k : Int))]) nl
      have h1 : (upd H l (.lst [.str "shut", .str (toString (k : Int))])) l = some (.lst [.str "shut", .str (toString (k : Int))]) := upd_same
      generalize upd H l (.lst [.str "shut", .str (toString (k : Int))]) = H1 at g1 h1
      refine ⟨_, rfl, _, rfl, slA_cut (SqT.of (g1.fh _ _ ha)) (by rw [List.length_cons]; exact cut_no2) fun p np => ⟨p, rfl, ?_⟩⟩
      obtain ⟨vs', rfl⟩ : ∃ vs', vs = .int k :: vs' := by
        cases vs with
        | nil => cases h0
        | cons x vs' => cases h0; exact ⟨vs', rfl⟩
      have al' : All2 (fun v t => ThAt F v t) vs' lots := ⟨by have := al.1; simpa using this, fun i x t h1 h2 => al.2 (i + 1) x t h1 h2⟩
      rw [cut_from2]
      have g2 := g1.own (o := .tup vs') np
      have h2 := ln (u := .tup vs') np h1
      have hp2 : (upd H1 p (.tup vs')) p = some (.tup vs') := upd_same
      generalize upd H1 p (.tup vs') = H2 at g2 h2 hp2
      have lvs : vs'.length ≤ 5 := by rw [al'.1]; have := tl; rw [List.length_cons] at this; omega
      refine ⟨⟨_, SqT.of hp2⟩, fun D nD => lc_tup (K := K) (a := p) (xs := vs') (fun i G => Gr mu0 F H2 F G ∧ Ow H2 F G D (.lst (((lots.take i).map fun t => numT t.no).map V.str))) ⟨(Gr.refl g2.fh).own nD, Ow.mk1 (Gr.refl (mu := mu0) g2.fh) nD⟩ (fun i G _ ⟨g, _⟩ => SqT.of (g.fr _ _ hp2 fun z => z)) ?_ ?_⟩
      · rintro i y G hi ⟨g, wD⟩
        obtain ⟨th, hth, hy⟩ := al'.get' hi
        have il : i < vs'.length := (List.getElem?_eq_some_iff.mp hi).1
        obtain ⟨p', xs, rfl, hp', lx, _⟩ := hy.lst (hl th (List.mem_of_getElem? hth))
        refine ⟨rfl, yes ⟨_, rfl, p', xs, rfl, .inl (SqL.of (g.fh _ _ hp')), (xs.length : Int), rfl, num_log (by rw [lx]; exact hy.1), _, wD.h, lt_size (by rw [List.length_map, List.length_map, List.length_take]; omega), g.set wD.f (.inl wD.n), ?_⟩⟩
        have e : ((lots.take (i + 1)).map fun t => numT t.no).map V.str = (((lots.take i).map fun t => numT t.no).map V.str) ++ [.str (numT th.no)] := by
          rw [List.take_add_one, hth, List.map_append, List.map_append]; rfl
        rw [e, lx]
        exact wD.set
      · rintro G ⟨g, wD⟩
        rw [al'.1, List.take_length] at wD
        have hl2 := g.fr _ _ h2 fun z => z
        refine ⟨l, D, _, _, rfl, rfl, hl2, wD.h, le_size (by rw [List.length_map, List.length_map, ← al'.1]; show 2 + _ ≤ _; omega), fun r nr => ?_⟩
        have e : [V.str "shut", V.str (toString (k : Int))] ++ ((lots.map fun t => numT t.no).map V.str) = (w.x :: (Th.num k :: lots).map fun t => numT t.no).map V.str := by
          rw [ew]; rfl
        rw [e]
        exact ⟨_, r, _, rfl, rfl, .inl (SqL.of upd_same), join_few hg.wl hg.tl sm, q _ ((g2.trans g).own nr)⟩
    · have ew : w.x ≠ tShut.x := fun z => c (decide_eq_true (by rw [z]; rfl))
      have hl := (hg.kind.resolve_left (fun z => ew (by rw [z.1]))).2
      refine ⟨⟨_, rfl⟩, _, rfl, a, _, _, _, rfl, rfl, hA, atI_nat (j := 0) rfl, one_le, fun l nl => ?_⟩
      have g1 := g0.own (o := .lst [.str w.x]) nl
      have h1 : (upd H l (.lst [.str w.x])) l = some (.lst [.str w.x]) := upd_same
      generalize upd H l (.lst [.str w.x]) = H1 at g1 h1
      refine ⟨_, rfl, _, rfl, slA_cut (SqT.of (g1.fh _ _ ha)) (by rw [List.length_cons]; exact cut_no) fun p np => ⟨p, rfl, ?_⟩⟩
      rw [cut_from1]
      have g2 := g1.own (o := .tup vs) np
      have h2 := ln (u := .tup vs) np h1
      have hp2 : (upd H1 p (.tup vs)) p = some (.tup vs) := upd_same
      generalize upd H1 p (.tup vs) = H2 at g2 h2 hp2
      have lvs : vs.length ≤ 5 := by rw [al.1]; exact tl
      refine ⟨⟨_, SqT.of hp2⟩, fun D nD => lc_tup (K := K) (a := p) (xs := vs) (fun i G => Gr mu0 F H2 F G ∧ Ow H2 F G D (.lst (((ts.take i).map fun t => numT t.no).map V.str))) ⟨(Gr.refl g2.fh).own nD, Ow.mk1 (Gr.refl (mu := mu0) g2.fh) nD⟩ (fun i G _ ⟨g, _⟩ => SqT.of (g.fr _ _ hp2 fun z => z)) ?_ ?_⟩
      · rintro i y G hi ⟨g, wD⟩
        obtain ⟨th, hth, hy⟩ := al.get' hi
        have il : i < vs.length := (List.getElem?_eq_some_iff.mp hi).1
        have ey := hy.num (hl th (List.mem_of_getElem? hth))
        subst ey
        refine ⟨rfl, yes ⟨_, rfl, (th.no : Int), rfl, num_log hy.1, _, wD.h, lt_size (by rw [List.length_map, List.length_map, List.length_take]; omega), g.set wD.f (.inl wD.n), ?_⟩⟩
        have e : ((ts.take (i + 1)).map fun t => numT t.no).map V.str = (((ts.take i).map fun t => numT t.no).map V.str) ++ [.str (numT th.no)] := by
          rw [List.take_add_one, hth, List.map_append, List.map_append]; rfl
        rw [e]
        exact wD.set
      · rintro G ⟨g, wD⟩
        rw [al.1, List.take_length] at wD
        have hl2 := g.fr _ _ h2 fun z => z
        refine ⟨l, D, _, _, rfl, rfl, hl2, wD.h, le_size (by rw [List.length_map, List.length_map, ← al.1]; show 1 + _ ≤ _; omega), fun r nr => ?_⟩
        have e : [V.str w.x] ++ ((ts.map fun t => numT t.no).map V.str) = (w.x :: ts.map fun t => numT t.no).map V.str := by
          rw [List.map_cons]; rfl
        rw [e]
        exact ⟨_, r, _, rfl, rfl, .inl (SqL.of upd_same), join_few hg.wl hg.tl sm, q _ ((g2.trans g).own nr)⟩
def sp_law (K : PySem.W.Frag) : Sp := fun vs H Q _ => ∃ (a : Addr) (ns : List Int), vs = [.ref a] ∧ SqL K H a (ns.map V.int) ∧ ns.length ≤ 63 ∧ ∀ H', Q (.bl true) H'
theorem ok_law (t : Tx K mg) : FnOk P w K mg base CX0 4 t.a_law t.fd_law ["_law_script"] (sp_law K) := by
  refine t.F_law.ok sc_law (fun vs H Q E h => ?_) (fun cdv A outer s H vs Q E hr h => ?_)
  · obtain ⟨a, ns, rfl, _⟩ := h
    rfl
  · obtain ⟨a, ns, rfl, hS, hn, q⟩ := h
    refine ⟨_, (pss_cons (ps_set (i := 1) sc_law.nd rfl (by first | exact Or.inl rfl | exact Or.inr rfl) (pe_call (ok_L_purse t) (hr.mono (by decide)) (by rfl) t.m_L_purse t.F_L_purse.kp t.b_L_purse .nil pass0 (pa_cons (pv 0) pa_nil)))
      (pss_cons (ps_for PassesOwn.never rfl (pi_range1 (by rfl) t.n_range (pa_cons pe_int pa_nil)) (pg_name (i := 2) sc_law.nd rfl (by first | exact Or.inl rfl | exact Or.inr rfl)) (pss_cons (ps_set (i := 3) sc_law.nd rfl (by first | exact Or.inl rfl | exact Or.inr rfl) (pe_call (ok_L_paper t) (hr.mono (by decide)) (by rfl) t.m_L_paper t.F_L_paper.kp t.b_L_paper .nil pass0 (pa_cons (pv 1) pa_nil)))
      (pss_cons (ps_set (i := 4) sc_law.nd rfl (by first | exact Or.inl rfl | exact Or.inr rfl) (pe_call (ok_L_kept t) (hr.mono (by decide)) (by rfl) t.m_L_kept t.F_L_kept.kp t.b_L_kept .nil pass0 (pa_cons (pv 3) pa_nil)))
      (pss_cons (ps_set (i := 5) sc_law.nd rfl (by first | exact Or.inl rfl | exact Or.inr rfl) (pe_call (ok_L_due t) (hr.mono (by decide)) (by rfl) t.m_L_due t.F_L_due.kp t.b_L_due .nil pass0 (pa_cons (pv 3) pa_nil)))
      (pss_one (ps_for PassesOwn.never rfl (pi_range1 (by rfl) t.n_range (pa_cons pe_int pa_nil)) (pg_name (i := 6) sc_law.nd rfl (by first | exact Or.inl rfl | exact Or.inr rfl)) (pss_cons (ps_set (i := 7) sc_law.nd rfl (by first | exact Or.inl rfl | exact Or.inr rfl) (pe_call (ok_show_paper t) (hr.mono (by decide)) (by rfl) t.m_show_paper t.F_show_paper.kp t.b_show_paper .nil pass0 (pa_cons (pv 3) pa_nil)))
      (pss_one (ps_if (PW.pt (pw_or (pt_not (pt_val (pe_callB (id := "isinstance") call_isi (by rfl) t.n_isinstance (by decide +kernel) (pa_cons (pv 7) (pa_cons (pe_bltn (v := .ty "str") (by rfl) t.n_str (by decide +kernel) rfl) pa_nil))))) (pw_or (pt_cmpR op_ne (pv 7) (pv 5) (nomark _)) (pw_or1 (pt_cmpR (op_neD hr.units) (pv 3) (pv 4) (nomark _)))))) (pss_one (ps_ret pe_bl)) pss_nil)))))))))
      (pss_one (ps_ret pe_bl)))), ?_⟩
    refine ⟨_, rfl, a, ns, rfl, hS, hn, fun a0 b0 p H1 ha0 hb0 s1 np hp1 => ?_⟩
    refine ⟨10, rfl, by decide, by decide, for_range (lo := 0) (n := 10) (fun i σ G => ∃ (F : Hp) (a1 b1 : Int) (v2 v3 v4 v5 v6 v7 : Option V), σ = [some (.ref a), some (.ref p), v2, v3, v4, v5, v6, v7] ∧ Gr (muP p) H H1 F G ∧ G p = some (PurseO a1 b1) ∧ 0 ≤ a1 ∧ 0 ≤ b1) ⟨H, a0, b0, none, none, none, none, none, none, rfl, Gr.refl s1, hp1, ha0, hb0⟩ ?_ ?_⟩
    · rintro i σ G hi ⟨F, a1, b1, v2, v3, v4, v5, v6, v7, rfl, g, hpG, ha1, hb1⟩
      refine ⟨_, rfl, F, p, a1, b1, rfl, g.fh, g.pf np hp1, hpG, ha1, hb1, fun F2 H2 v w ts a2 b2 g2 hp2 ha2 hb2 hv hg => ?_⟩
      refine ⟨_, rfl, F2, v, w, ts, rfl, g2.fh, hv, hg.tl, fun F3 H3 u g3 hu => ?_⟩
      refine ⟨_, rfl, F3, v, w, ts, rfl, g3.fh, hv.up g3.ff, hg, fun H4 g4 => ?_⟩
      have gb := (g.trans g2).trans ((g3.trans g4).weak (mu' := muP p) fun c z => z.elim)
      have hp4 := (g3.trans g4).fr _ _ hp2 fun z => z
      refine ⟨2, rfl, by decide, by decide, for_range (lo := 0) (n := 2) (fun j σ G' => ∃ v6 v7 : Option V, σ = [some (.ref a), some (.ref p), some (.int (0 + (i : Int))), some v, some u, some (.str (paperT w ts)), v6, v7] ∧ Gr mu0 F3 H4 F3 G') ⟨v6, v7, rfl, Gr.refl g4.fh⟩ ?_ ?_⟩
      · rintro j σ G' hj ⟨v6, v7, rfl, g5⟩
        refine ⟨_, rfl, F3, v, w, ts, rfl, g5.fh, hv.up g3.ff, hg, fun H6 g6 => ?_⟩
        refine ⟨_, rfl, _, _, _, _, true, rfl, .ty "str", .base (.str _), kt_str, _, rfl, ifF rfl ?_⟩
        refine ⟨_, rfl, _, rfl, rfl, _, rfl, ifF (by rw [decide_eq_true rfl]; rfl) ?_⟩
        refine ⟨_, rfl, _, rfl, paper_ne ((hv.up g3.ff).up g6.fh) (hu.up g6.fh) ⟨_, rfl, ifF rfl ?_⟩⟩
        exact ⟨_, _, rfl, g5.trans g6⟩
      · rintro σ G' ⟨v6, v7, rfl, g5⟩
        exact ⟨F3, a2, b2, _, _, _, _, _, _, rfl, gb.trans (g5.weak (mu' := muP p) fun c z => z.elim), g5.fr _ _ hp4 fun z => z, ha2, hb2⟩
    · rintro σ G ⟨F, a1, b1, v2, v3, v4, v5, v6, v7, rfl, g, _⟩
      exact q _

end
def all_tx {K : PySem.W.Frag} {h : Heap} {mg : Str → Option Value} {a_L_mixed a_L_purse a_L_draw a_L_number a_L_word_of a_L_paper a_L_kept a_L_due a_show_paper a_law : Addr} {od_L_mixed an_L_mixed od_L_purse an_L_purse od_L_draw an_L_draw od_L_number an_L_number od_L_word_of an_L_word_of od_L_paper an_L_paper od_L_kept an_L_kept od_L_due an_L_due od_show_paper an_show_paper od_law an_law : Option Addr} {sl_L_mixed sl_L_purse sl_L_draw sl_L_number sl_L_word_of sl_L_paper sl_L_kept sl_L_due sl_show_paper sl_law : Array (Option Value)} {oc_L_mixed kV_L_mixed dc_L_mixed pm_L_mixed cd_L_mixed ct_L_mixed oc_L_purse kV_L_purse dc_L_purse pm_L_purse cd_L_purse ct_L_purse oc_L_draw kV_L_draw dc_L_draw pm_L_draw cd_L_draw ct_L_draw oc_L_number kV_L_number dc_L_number pm_L_number cd_L_number ct_L_number oc_L_word_of kV_L_word_of dc_L_word_of pm_L_word_of cd_L_word_of ct_L_word_of oc_L_paper kV_L_paper dc_L_paper pm_L_paper cd_L_paper ct_L_paper oc_L_kept kV_L_kept dc_L_kept pm_L_kept cd_L_kept ct_L_kept oc_L_due kV_L_due dc_L_due pm_L_due cd_L_due ct_L_due oc_show_paper kV_show_paper dc_show_paper pm_show_paper cd_show_paper ct_show_paper oc_law kV_law dc_law pm_law cd_law ct_law : Value} (X : K.In h) (G : h.Ns mainGlobals mg)
    (n_L_mixed : PySem.W.nsIn K mainGlobals "_law_mixed" = some (some (.ref a_L_mixed)))
    (l_L_mixed : K.lookup a_L_mixed = some ⟨oc_L_mixed, od_L_mixed, .func (PySem.W.fnOf "_law_mixed" "_law_mixed" (defArgs s_L_mixed) (defBody s_L_mixed) (defScope s_L_mixed) .none kV_L_mixed dc_L_mixed pm_L_mixed an_L_mixed cd_L_mixed ct_L_mixed), sl_L_mixed⟩)
    (c_L_mixed : PySem.W.codeIn K cd_L_mixed "_law_mixed" = true)
    (k_L_mixed : PySem.W.keepIn K (.ref a_L_mixed) = true)
    (n_L_purse : PySem.W.nsIn K mainGlobals "_law_purse" = some (some (.ref a_L_purse)))
    (l_L_purse : K.lookup a_L_purse = some ⟨oc_L_purse, od_L_purse, .func (PySem.W.fnOf "_law_purse" "_law_purse" (defArgs s_L_purse) (defBody s_L_purse) (defScope s_L_purse) .none kV_L_purse dc_L_purse pm_L_purse an_L_purse cd_L_purse ct_L_purse), sl_L_purse⟩)
    (c_L_purse : PySem.W.codeIn K cd_L_purse "_law_purse" = true)
    (k_L_purse : PySem.W.keepIn K (.ref a_L_purse) = true)
    (n_L_draw : PySem.W.nsIn K mainGlobals "_law_draw" = some (some (.ref a_L_draw)))
    (l_L_draw : K.lookup a_L_draw = some ⟨oc_L_draw, od_L_draw, .func (PySem.W.fnOf "_law_draw" "_law_draw" (defArgs s_L_draw) (defBody s_L_draw) (defScope s_L_draw) .none kV_L_draw dc_L_draw pm_L_draw an_L_draw cd_L_draw ct_L_draw), sl_L_draw⟩)
    (c_L_draw : PySem.W.codeIn K cd_L_draw "_law_draw" = true)
    (k_L_draw : PySem.W.keepIn K (.ref a_L_draw) = true)
    (n_L_number : PySem.W.nsIn K mainGlobals "_law_number" = some (some (.ref a_L_number)))
    (l_L_number : K.lookup a_L_number = some ⟨oc_L_number, od_L_number, .func (PySem.W.fnOf "_law_number" "_law_number" (defArgs s_L_number) (defBody s_L_number) (defScope s_L_number) .none kV_L_number dc_L_number pm_L_number an_L_number cd_L_number ct_L_number), sl_L_number⟩)
    (c_L_number : PySem.W.codeIn K cd_L_number "_law_number" = true)
    (k_L_number : PySem.W.keepIn K (.ref a_L_number) = true)
    (n_L_word_of : PySem.W.nsIn K mainGlobals "_law_word_of" = some (some (.ref a_L_word_of)))
    (l_L_word_of : K.lookup a_L_word_of = some ⟨oc_L_word_of, od_L_word_of, .func (PySem.W.fnOf "_law_word_of" "_law_word_of" (defArgs s_L_word_of) (defBody s_L_word_of) (defScope s_L_word_of) .none kV_L_word_of dc_L_word_of pm_L_word_of an_L_word_of cd_L_word_of ct_L_word_of), sl_L_word_of⟩)
    (c_L_word_of : PySem.W.codeIn K cd_L_word_of "_law_word_of" = true)
    (k_L_word_of : PySem.W.keepIn K (.ref a_L_word_of) = true)
    (n_L_paper : PySem.W.nsIn K mainGlobals "_law_paper" = some (some (.ref a_L_paper)))
    (l_L_paper : K.lookup a_L_paper = some ⟨oc_L_paper, od_L_paper, .func (PySem.W.fnOf "_law_paper" "_law_paper" (defArgs s_L_paper) (defBody s_L_paper) (defScope s_L_paper) .none kV_L_paper dc_L_paper pm_L_paper an_L_paper cd_L_paper ct_L_paper), sl_L_paper⟩)
    (c_L_paper : PySem.W.codeIn K cd_L_paper "_law_paper" = true)
    (k_L_paper : PySem.W.keepIn K (.ref a_L_paper) = true)
    (n_L_kept : PySem.W.nsIn K mainGlobals "_law_kept" = some (some (.ref a_L_kept)))
    (l_L_kept : K.lookup a_L_kept = some ⟨oc_L_kept, od_L_kept, .func (PySem.W.fnOf "_law_kept" "_law_kept" (defArgs s_L_kept) (defBody s_L_kept) (defScope s_L_kept) .none kV_L_kept dc_L_kept pm_L_kept an_L_kept cd_L_kept ct_L_kept), sl_L_kept⟩)
    (c_L_kept : PySem.W.codeIn K cd_L_kept "_law_kept" = true)
    (k_L_kept : PySem.W.keepIn K (.ref a_L_kept) = true)
    (n_L_due : PySem.W.nsIn K mainGlobals "_law_due" = some (some (.ref a_L_due)))
    (l_L_due : K.lookup a_L_due = some ⟨oc_L_due, od_L_due, .func (PySem.W.fnOf "_law_due" "_law_due" (defArgs s_L_due) (defBody s_L_due) (defScope s_L_due) .none kV_L_due dc_L_due pm_L_due an_L_due cd_L_due ct_L_due), sl_L_due⟩)
    (c_L_due : PySem.W.codeIn K cd_L_due "_law_due" = true)
    (k_L_due : PySem.W.keepIn K (.ref a_L_due) = true)
    (n_show_paper : PySem.W.nsIn K mainGlobals "show_paper" = some (some (.ref a_show_paper)))
    (l_show_paper : K.lookup a_show_paper = some ⟨oc_show_paper, od_show_paper, .func (PySem.W.fnOf "show_paper" "show_paper" (defArgs s_show_paper) (defBody s_show_paper) (defScope s_show_paper) .none kV_show_paper dc_show_paper pm_show_paper an_show_paper cd_show_paper ct_show_paper), sl_show_paper⟩)
    (c_show_paper : PySem.W.codeIn K cd_show_paper "show_paper" = true)
    (k_show_paper : PySem.W.keepIn K (.ref a_show_paper) = true)
    (n_law : PySem.W.nsIn K mainGlobals "law" = some (some (.ref a_law)))
    (l_law : K.lookup a_law = some ⟨oc_law, od_law, .func (PySem.W.fnOf "law" "law" (defArgs s_law) (defBody s_law) (defScope s_law) .none kV_law dc_law pm_law an_law cd_law ct_law), sl_law⟩)
    (c_law : PySem.W.codeIn K cd_law "law" = true)
    (k_law : PySem.W.keepIn K (.ref a_law) = true)
    (z_range : PySem.W.nsIn K mainGlobals "range" = some none)
    (z_len : PySem.W.nsIn K mainGlobals "len" = some none)
    (z_abs : PySem.W.nsIn K mainGlobals "abs" = some none)
    (z_tuple : PySem.W.nsIn K mainGlobals "tuple" = some none)
    (z_isinstance : PySem.W.nsIn K mainGlobals "isinstance" = some none)
    (z_list : PySem.W.nsIn K mainGlobals "list" = some none)
    (z_str : PySem.W.nsIn K mainGlobals "str" = some none) : Tx K mg where
  a_L_mixed := a_L_mixed
  fd_L_mixed := PySem.W.fnOf "_law_mixed" "_law_mixed" (defArgs s_L_mixed) (defBody s_L_mixed) (defScope s_L_mixed) .none kV_L_mixed dc_L_mixed pm_L_mixed an_L_mixed cd_L_mixed ct_L_mixed
  F_L_mixed := fun_mk l_L_mixed c_L_mixed k_L_mixed
  b_L_mixed := (fun_mk (st := s_L_mixed) l_L_mixed c_L_mixed k_L_mixed).binds (ps := ["_law_cell", "_law_k"]) fun _ _ _ _ _ _ us hl => match us, hl with | [_, _], _ => rfl
  m_L_mixed := PySem.W.mg_of X G n_L_mixed
  a_L_purse := a_L_purse
  fd_L_purse := PySem.W.fnOf "_law_purse" "_law_purse" (defArgs s_L_purse) (defBody s_L_purse) (defScope s_L_purse) .none kV_L_purse dc_L_purse pm_L_purse an_L_purse cd_L_purse ct_L_purse
  F_L_purse := fun_mk l_L_purse c_L_purse k_L_purse
  b_L_purse := (fun_mk (st := s_L_purse) l_L_purse c_L_purse k_L_purse).binds (ps := ["_law_script"]) fun _ _ _ _ _ _ us hl => match us, hl with | [_], _ => rfl
  m_L_purse := PySem.W.mg_of X G n_L_purse
  a_L_draw := a_L_draw
  fd_L_draw := PySem.W.fnOf "_law_draw" "_law_draw" (defArgs s_L_draw) (defBody s_L_draw) (defScope s_L_draw) .none kV_L_draw dc_L_draw pm_L_draw an_L_draw cd_L_draw ct_L_draw
  F_L_draw := fun_mk l_L_draw c_L_draw k_L_draw
  b_L_draw := (fun_mk (st := s_L_draw) l_L_draw c_L_draw k_L_draw).binds (ps := ["_law_purse_here", "_law_out_of"]) fun _ _ _ _ _ _ us hl => match us, hl with | [_, _], _ => rfl
  m_L_draw := PySem.W.mg_of X G n_L_draw
  a_L_number := a_L_number
  fd_L_number := PySem.W.fnOf "_law_number" "_law_number" (defArgs s_L_number) (defBody s_L_number) (defScope s_L_number) .none kV_L_number dc_L_number pm_L_number an_L_number cd_L_number ct_L_number
  F_L_number := fun_mk l_L_number c_L_number k_L_number
  b_L_number := (fun_mk (st := s_L_number) l_L_number c_L_number k_L_number).binds (ps := ["_law_purse_here"]) fun _ _ _ _ _ _ us hl => match us, hl with | [_], _ => rfl
  m_L_number := PySem.W.mg_of X G n_L_number
  a_L_word_of := a_L_word_of
  fd_L_word_of := PySem.W.fnOf "_law_word_of" "_law_word_of" (defArgs s_L_word_of) (defBody s_L_word_of) (defScope s_L_word_of) .none kV_L_word_of dc_L_word_of pm_L_word_of an_L_word_of cd_L_word_of ct_L_word_of
  F_L_word_of := fun_mk l_L_word_of c_L_word_of k_L_word_of
  b_L_word_of := (fun_mk (st := s_L_word_of) l_L_word_of c_L_word_of k_L_word_of).binds (ps := ["_law_purse_here", "_law_width"]) fun _ _ _ _ _ _ us hl => match us, hl with | [_, _], _ => rfl
  m_L_word_of := PySem.W.mg_of X G n_L_word_of
  a_L_paper := a_L_paper
  fd_L_paper := PySem.W.fnOf "_law_paper" "_law_paper" (defArgs s_L_paper) (defBody s_L_paper) (defScope s_L_paper) .none kV_L_paper dc_L_paper pm_L_paper an_L_paper cd_L_paper ct_L_paper
  F_L_paper := fun_mk l_L_paper c_L_paper k_L_paper
  b_L_paper := (fun_mk (st := s_L_paper) l_L_paper c_L_paper k_L_paper).binds (ps := ["_law_purse_here"]) fun _ _ _ _ _ _ us hl => match us, hl with | [_], _ => rfl
  m_L_paper := PySem.W.mg_of X G n_L_paper
  a_L_kept := a_L_kept
  fd_L_kept := PySem.W.fnOf "_law_kept" "_law_kept" (defArgs s_L_kept) (defBody s_L_kept) (defScope s_L_kept) .none kV_L_kept dc_L_kept pm_L_kept an_L_kept cd_L_kept ct_L_kept
  F_L_kept := fun_mk l_L_kept c_L_kept k_L_kept
  b_L_kept := (fun_mk (st := s_L_kept) l_L_kept c_L_kept k_L_kept).binds (ps := ["_law_paper_here"]) fun _ _ _ _ _ _ us hl => match us, hl with | [_], _ => rfl
  m_L_kept := PySem.W.mg_of X G n_L_kept
  a_L_due := a_L_due
  fd_L_due := PySem.W.fnOf "_law_due" "_law_due" (defArgs s_L_due) (defBody s_L_due) (defScope s_L_due) .none kV_L_due dc_L_due pm_L_due an_L_due cd_L_due ct_L_due
  F_L_due := fun_mk l_L_due c_L_due k_L_due
  b_L_due := (fun_mk (st := s_L_due) l_L_due c_L_due k_L_due).binds (ps := ["_law_paper_here"]) fun _ _ _ _ _ _ us hl => match us, hl with | [_], _ => rfl
  m_L_due := PySem.W.mg_of X G n_L_due
  a_show_paper := a_show_paper
  fd_show_paper := PySem.W.fnOf "show_paper" "show_paper" (defArgs s_show_paper) (defBody s_show_paper) (defScope s_show_paper) .none kV_show_paper dc_show_paper pm_show_paper an_show_paper cd_show_paper ct_show_paper
  F_show_paper := fun_mk l_show_paper c_show_paper k_show_paper
  b_show_paper := (fun_mk (st := s_show_paper) l_show_paper c_show_paper k_show_paper).binds (ps := ["paper"]) fun _ _ _ _ _ _ us hl => match us, hl with | [_], _ => rfl
  m_show_paper := PySem.W.mg_of X G n_show_paper
  a_law := a_law
  fd_law := PySem.W.fnOf "law" "law" (defArgs s_law) (defBody s_law) (defScope s_law) .none kV_law dc_law pm_law an_law cd_law ct_law
  F_law := fun_mk l_law c_law k_law
  b_law := (fun_mk (st := s_law) l_law c_law k_law).binds (ps := ["_law_script"]) fun _ _ _ _ _ _ us hl => match us, hl with | [_], _ => rfl
  m_law := PySem.W.mg_of X G n_law
  n_range := PySem.W.mg_none_of X G z_range
  n_len := PySem.W.mg_none_of X G z_len
  n_abs := PySem.W.mg_none_of X G z_abs
  n_tuple := PySem.W.mg_none_of X G z_tuple
  n_isinstance := PySem.W.mg_none_of X G z_isinstance
  n_list := PySem.W.mg_none_of X G z_list
  n_str := PySem.W.mg_none_of X G z_str
theorem all_mk {l : PySem.W.OpenLaw} {w : World} {K : PySem.W.Frag} {h : Heap} {mg : Str → Option Value} {fa : Addr} (X : K.In h) (G : h.Ns mainGlobals mg) (hfa : mg "law" = some (.ref fa)) (t : Tx K mg)
    (hb : ∃ (kV dc pm : Value) (an : Option Addr) (cd ct : Value), t.fd_law = PySem.W.fnOf "law" "law" (defArgs s_law) (defBody s_law) (defScope s_law) .none kV dc pm an cd ct) :
    ∃ fd : FuncData, (∀ (s : Shared) (v : Value), BindsTo s fd ⟨[v], []⟩ [("_law_script", v)]) ∧ ∀ base : Heap, K.In base → base.Ns mainGlobals mg → FnOk l.prog w K mg base CX0 4 fa fd ["_law_script"] (sp_law K) := by
  have e := hfa.symm.trans t.m_law
  cases e
  refine ⟨t.fd_law, fun s v => ?_, fun base _ _ => ok_law t⟩
  obtain ⟨kV, dc, pm, an, cd, ct, e⟩ := hb
  rw [e]
  exact .of_eq rfl
theorem walk {l : PySem.W.OpenLaw} {q : Program} {loose : List Str} {XP : (Str → Option Value) → Heap → Prop} {YP : World → Heap → Prop} {d : DefRec} {K : Params → PySem.W.Frag} (hn : l.most = some 63) (hdf : d.params.defaults = [])
    (hY : ∀ (w : World) (h : Heap), YP w h → (K w.params).In h)
    (F : ∀ (w : World) (mg : Str → Option Value) (fa : Addr) (h : Heap), (K w.params).In h → h.Ns mainGlobals mg → mg d.name = some (.ref fa) →
      ∃ fd : FuncData, (∀ (s : Shared) (u : Value), BindsTo s fd ⟨[u], []⟩ [("_law_script", u)]) ∧ ∀ base : Heap, (K w.params).In base → base.Ns mainGlobals mg → FnOk l.prog w (K w.params) mg base CX0 4 fa fd ["_law_script"] (sp_law (K w.params))) :
    PySem.W.WalkO q loose XP YP l.row.toRowW d [] (fun f vs => PySem.call f vs) :=
  L2.walk_of (n := 63) (k := 4) (x := "_law_script") (CX := fun _ => CX0) (sp := fun w => sp_law (K w.params)) hn (by decide) hdf ⟨rfl, by decide, by decide⟩ hY F (fun _ _ a ns hl _ hS => ⟨a, ns, rfl, hS, hl, fun _ => rfl⟩) fun _ _ _ _ _ z => z
theorem all_go {l : PySem.W.OpenLaw} {w : World} {K : PySem.W.Frag} {h : Heap} {mg : Str → Option Value} {fa : Addr} {a_L_mixed a_L_purse a_L_draw a_L_number a_L_word_of a_L_paper a_L_kept a_L_due a_show_paper a_law : Addr} {od_L_mixed an_L_mixed od_L_purse an_L_purse od_L_draw an_L_draw od_L_number an_L_number od_L_word_of an_L_word_of od_L_paper an_L_paper od_L_kept an_L_kept od_L_due an_L_due od_show_paper an_show_paper od_law an_law : Option Addr} {sl_L_mixed sl_L_purse sl_L_draw sl_L_number sl_L_word_of sl_L_paper sl_L_kept sl_L_due sl_show_paper sl_law : Array (Option Value)} {oc_L_mixed kV_L_mixed dc_L_mixed pm_L_mixed cd_L_mixed ct_L_mixed oc_L_purse kV_L_purse dc_L_purse pm_L_purse cd_L_purse ct_L_purse oc_L_draw kV_L_draw dc_L_draw pm_L_draw cd_L_draw ct_L_draw oc_L_number kV_L_number dc_L_number pm_L_number cd_L_number ct_L_number oc_L_word_of kV_L_word_of dc_L_word_of pm_L_word_of cd_L_word_of ct_L_word_of oc_L_paper kV_L_paper dc_L_paper pm_L_paper cd_L_paper ct_L_paper oc_L_kept kV_L_kept dc_L_kept pm_L_kept cd_L_kept ct_L_kept oc_L_due kV_L_due dc_L_due pm_L_due cd_L_due ct_L_due oc_show_paper kV_show_paper dc_show_paper pm_show_paper cd_show_paper ct_show_paper oc_law kV_law dc_law pm_law cd_law ct_law : Value} (X : K.In h) (G : h.Ns mainGlobals mg) (hfa : mg "law" = some (.ref fa))
    (n_L_mixed : PySem.W.nsIn K mainGlobals "_law_mixed" = some (some (.ref a_L_mixed)))
    (l_L_mixed : K.lookup a_L_mixed = some ⟨oc_L_mixed, od_L_mixed, .func (PySem.W.fnOf "_law_mixed" "_law_mixed" (defArgs s_L_mixed) (defBody s_L_mixed) (defScope s_L_mixed) .none kV_L_mixed dc_L_mixed pm_L_mixed an_L_mixed cd_L_mixed ct_L_mixed), sl_L_mixed⟩)
    (c_L_mixed : PySem.W.codeIn K cd_L_mixed "_law_mixed" = true)
    (k_L_mixed : PySem.W.keepIn K (.ref a_L_mixed) = true)
    (n_L_purse : PySem.W.nsIn K mainGlobals "_law_purse" = some (some (.ref a_L_purse)))
    (l_L_purse : K.lookup a_L_purse = some ⟨oc_L_purse, od_L_purse, .func (PySem.W.fnOf "_law_purse" "_law_purse" (defArgs s_L_purse) (defBody s_L_purse) (defScope s_L_purse) .none kV_L_purse dc_L_purse pm_L_purse an_L_purse cd_L_purse ct_L_purse), sl_L_purse⟩)
    (c_L_purse : PySem.W.codeIn K cd_L_purse "_law_purse" = true)
    (k_L_purse : PySem.W.keepIn K (.ref a_L_purse) = true)
    (n_L_draw : PySem.W.nsIn K mainGlobals "_law_draw" = some (some (.ref a_L_draw)))
    (l_L_draw : K.lookup a_L_draw = some ⟨oc_L_draw, od_L_draw, .func (PySem.W.fnOf "_law_draw" "_law_draw" (defArgs s_L_draw) (defBody s_L_draw) (defScope s_L_draw) .none kV_L_draw dc_L_draw pm_L_draw an_L_draw cd_L_draw ct_L_draw), sl_L_draw⟩)
    (c_L_draw : PySem.W.codeIn K cd_L_draw "_law_draw" = true)
    (k_L_draw : PySem.W.keepIn K (.ref a_L_draw) = true)
    (n_L_number : PySem.W.nsIn K mainGlobals "_law_number" = some (some (.ref a_L_number)))
    (l_L_number : K.lookup a_L_number = some ⟨oc_L_number, od_L_number, .func (PySem.W.fnOf "_law_number" "_law_number" (defArgs s_L_number) (defBody s_L_number) (defScope s_L_number) .none kV_L_number dc_L_number pm_L_number an_L_number cd_L_number ct_L_number), sl_L_number⟩)
    (c_L_number : PySem.W.codeIn K cd_L_number "_law_number" = true)
    (k_L_number : PySem.W.keepIn K (.ref a_L_number) = true)
    (n_L_word_of : PySem.W.nsIn K mainGlobals "_law_word_of" = some (some (.ref a_L_word_of)))
    (l_L_word_of : K.lookup a_L_word_of = some ⟨oc_L_word_of, od_L_word_of, .func (PySem.W.fnOf "_law_word_of" "_law_word_of" (defArgs s_L_word_of) (defBody s_L_word_of) (defScope s_L_word_of) .none kV_L_word_of dc_L_word_of pm_L_word_of an_L_word_of cd_L_word_of ct_L_word_of), sl_L_word_of⟩)
    (c_L_word_of : PySem.W.codeIn K cd_L_word_of "_law_word_of" = true)
    (k_L_word_of : PySem.W.keepIn K (.ref a_L_word_of) = true)
    (n_L_paper : PySem.W.nsIn K mainGlobals "_law_paper" = some (some (.ref a_L_paper)))
    (l_L_paper : K.lookup a_L_paper = some ⟨oc_L_paper, od_L_paper, .func (PySem.W.fnOf "_law_paper" "_law_paper" (defArgs s_L_paper) (defBody s_L_paper) (defScope s_L_paper) .none kV_L_paper dc_L_paper pm_L_paper an_L_paper cd_L_paper ct_L_paper), sl_L_paper⟩)
    (c_L_paper : PySem.W.codeIn K cd_L_paper "_law_paper" = true)
    (k_L_paper : PySem.W.keepIn K (.ref a_L_paper) = true)
    (n_L_kept : PySem.W.nsIn K mainGlobals "_law_kept" = some (some (.ref a_L_kept)))
    (l_L_kept : K.lookup a_L_kept = some ⟨oc_L_kept, od_L_kept, .func (PySem.W.fnOf "_law_kept" "_law_kept" (defArgs s_L_kept) (defBody s_L_kept) (defScope s_L_kept) .none kV_L_kept dc_L_kept pm_L_kept an_L_kept cd_L_kept ct_L_kept), sl_L_kept⟩)
    (c_L_kept : PySem.W.codeIn K cd_L_kept "_law_kept" = true)
    (k_L_kept : PySem.W.keepIn K (.ref a_L_kept) = true)
    (n_L_due : PySem.W.nsIn K mainGlobals "_law_due" = some (some (.ref a_L_due)))
    (l_L_due : K.lookup a_L_due = some ⟨oc_L_due, od_L_due, .func (PySem.W.fnOf "_law_due" "_law_due" (defArgs s_L_due) (defBody s_L_due) (defScope s_L_due) .none kV_L_due dc_L_due pm_L_due an_L_due cd_L_due ct_L_due), sl_L_due⟩)
    (c_L_due : PySem.W.codeIn K cd_L_due "_law_due" = true)
    (k_L_due : PySem.W.keepIn K (.ref a_L_due) = true)
    (n_show_paper : PySem.W.nsIn K mainGlobals "show_paper" = some (some (.ref a_show_paper)))
    (l_show_paper : K.lookup a_show_paper = some ⟨oc_show_paper, od_show_paper, .func (PySem.W.fnOf "show_paper" "show_paper" (defArgs s_show_paper) (defBody s_show_paper) (defScope s_show_paper) .none kV_show_paper dc_show_paper pm_show_paper an_show_paper cd_show_paper ct_show_paper), sl_show_paper⟩)
    (c_show_paper : PySem.W.codeIn K cd_show_paper "show_paper" = true)
    (k_show_paper : PySem.W.keepIn K (.ref a_show_paper) = true)
    (n_law : PySem.W.nsIn K mainGlobals "law" = some (some (.ref a_law)))
    (l_law : K.lookup a_law = some ⟨oc_law, od_law, .func (PySem.W.fnOf "law" "law" (defArgs s_law) (defBody s_law) (defScope s_law) .none kV_law dc_law pm_law an_law cd_law ct_law), sl_law⟩)
    (c_law : PySem.W.codeIn K cd_law "law" = true)
    (k_law : PySem.W.keepIn K (.ref a_law) = true)
    (z_range : PySem.W.nsIn K mainGlobals "range" = some none)
    (z_len : PySem.W.nsIn K mainGlobals "len" = some none)
    (z_abs : PySem.W.nsIn K mainGlobals "abs" = some none)
    (z_tuple : PySem.W.nsIn K mainGlobals "tuple" = some none)
    (z_isinstance : PySem.W.nsIn K mainGlobals "isinstance" = some none)
    (z_list : PySem.W.nsIn K mainGlobals "list" = some none)
    (z_str : PySem.W.nsIn K mainGlobals "str" = some none) :
    ∃ fd : FuncData, (∀ (s : Shared) (v : Value), BindsTo s fd ⟨[v], []⟩ [("_law_script", v)]) ∧ ∀ base : Heap, K.In base → base.Ns mainGlobals mg → FnOk l.prog w K mg base CX0 4 fa fd ["_law_script"] (sp_law K) :=
  all_mk X G hfa (all_tx X G n_L_mixed l_L_mixed c_L_mixed k_L_mixed n_L_purse l_L_purse c_L_purse k_L_purse n_L_draw l_L_draw c_L_draw k_L_draw n_L_number l_L_number c_L_number k_L_number n_L_word_of l_L_word_of c_L_word_of k_L_word_of n_L_paper l_L_paper c_L_paper k_L_paper n_L_kept l_L_kept c_L_kept k_L_kept n_L_due l_L_due c_L_due k_L_due n_show_paper l_show_paper c_show_paper k_show_paper n_law l_law c_law k_law z_range z_len z_abs z_tuple z_isinstance z_list z_str) ⟨_, _, _, _, _, _, rfl⟩
end E
open PySem PySem.W PyProof.Rows
set_option maxRecDepth 100000 in
set_option maxHeartbeats 0 in
theorem PySem.Challenge.cw_endnever_k15_papers_shown_holds : PySem.Challenge.rw_endnever_k15_papers_shown.Holds := by
  w_on; o_law; k_head; (case hw => w_witness2)
  k_fill
  refine E.walk (l := PySem.Challenge.rw_endnever_k15_papers_shown) rfl rfl (fun w h Y => PySem.W.kIn_of Y) ?F
  case F =>
    intro w mg fa h KX G hmg
    refine' E.all_go KX G hmg ?n_L_mixed ?l_L_mixed ?c_L_mixed ?k_L_mixed ?n_L_purse ?l_L_purse ?c_L_purse ?k_L_purse ?n_L_draw ?l_L_draw ?c_L_draw ?k_L_draw ?n_L_number ?l_L_number ?c_L_number ?k_L_number ?n_L_word_of ?l_L_word_of ?c_L_word_of ?k_L_word_of ?n_L_paper ?l_L_paper ?c_L_paper ?k_L_paper ?n_L_kept ?l_L_kept ?c_L_kept ?k_L_kept ?n_L_due ?l_L_due ?c_L_due ?k_L_due ?n_show_paper ?l_show_paper ?c_show_paper ?k_show_paper ?n_law ?l_law ?c_law ?k_law ?z_range ?z_len ?z_abs ?z_tuple ?z_isinstance ?z_list ?z_str
    (case n_L_mixed => k_is); (case l_L_mixed => k_is); (case c_L_mixed => k_is); (case k_L_mixed => k_is); (case n_L_purse => k_is); (case l_L_purse => k_is); (case c_L_purse => k_is); (case k_L_purse => k_is)
    (case n_L_draw => k_is); (case l_L_draw => k_is); (case c_L_draw => k_is); (case k_L_draw => k_is); (case n_L_number => k_is); (case l_L_number => k_is); (case c_L_number => k_is); (case k_L_number => k_is)
    (case n_L_word_of => k_is); (case l_L_word_of => k_is); (case c_L_word_of => k_is); (case k_L_word_of => k_is); (case n_L_paper => k_is); (case l_L_paper => k_is); (case c_L_paper => k_is); (case k_L_paper => k_is)
    (case n_L_kept => k_is); (case l_L_kept => k_is); (case c_L_kept => k_is); (case k_L_kept => k_is); (case n_L_due => k_is); (case l_L_due => k_is); (case c_L_due => k_is); (case k_L_due => k_is)
    (case n_show_paper => k_is); (case l_show_paper => k_is); (case c_show_paper => k_is); (case k_show_paper => k_is); (case n_law => k_is); (case l_law => k_is); (case c_law => k_is); (case k_law => k_is)
    (case z_range => k_is); (case z_len => k_is); (case z_abs => k_is); (case z_tuple => k_is); (case z_isinstance => k_is); (case z_list => k_is); (case z_str => k_is)
#print axioms PySem.Challenge.cw_endnever_k15_papers_shown_holds
