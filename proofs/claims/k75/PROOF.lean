import PyProof.Rows.All
import Wide.All
import OpenK.AllK
import Wide.FinOn
import HandS.ForMost
import HandS.SortRule
import HandS.IsInst
import HandS.TupAny
import HandS.TupMul
import HandS.Walk
import HandS.More
import HandS.ListItems
import HandS.Wide
import KE.KTupSum
import HandS.Style
import HandS.Conv
import PySem.Challenge.RW_endnever_k75_whole_strides_and_steps
set_option Elab.async false
set_option maxRecDepth 100000
set_option maxHeartbeats 4000000
namespace E
open PySem L2
/-! ### small words of our own -/
theorem inr_int {x : V} {ns : List Int} {i : Nat} (h : (ns.map V.int)[i]? = some x) : ∃ z, x = V.int z ∧ ns[i]? = some z := by
  rw [List.getElem?_map] at h
  cases e : ns[i]? with
  | none => rw [e] at h; cases h
  | some z => rw [e] at h; exact ⟨z, (Option.some.inj h).symm, rfl⟩
/-- F stands in H, whatever comes to it -/
theorem sm_new {F H : Hp} {p : Addr} {o : HO} (s : Same F H) (n : H p = Option.none) : Same F (upd H p o) := fun b u e => by
  rw [upd_ne (ne_of_none (s b u e) n)]
  exact s b u e
theorem sm_set {F H : Hp} {p : Addr} {o : HO} (s : Same F H) (n : F p = Option.none) : Same F (upd H p o) := fun b u e => by
  rw [upd_ne (ne_of_none e n)]
  exact s b u e
theorem sm_up {H : Hp} {p : Addr} {o : HO} (n : H p = none) : Same H (upd H p o) := sm_new (Same.refl H) n
theorem cut_63 {ns : List Int} (h : ns.length ≤ 63) : cutV (ns.map V.int) none (some 63) = ns.map V.int := by
  unfold cutV
  have e1 : HT.sIx (ns.map V.int).length 0 none = 0 := rfl
  have e2 : HT.sIx (ns.map V.int).length (ns.map V.int).length (some 63) = (ns.map V.int).length := by
    simp only [HT.sIx, List.length_map]
    rw [if_neg (by decide), show (63 : Int).toNat = 63 from rfl]
    omega
  rw [e1, e2, List.drop_zero, Nat.sub_zero, List.take_length]
theorem ifT {c : Bool} {A B : Prop} (h : c = true) (a : A) : if c = true then A else B := by
  rw [if_pos h]; exact a
theorem ifF {c : Bool} {A B : Prop} (h : c = false) (b : B) : if c = true then A else B := by
  rw [h, if_neg Bool.false_ne_true]; exact b
theorem one_le : 1 ≤ sizeLine := by decide
theorem two_le : 2 ≤ sizeLine := by decide
theorem three_le : 3 ≤ sizeLine := by decide
theorem five_le : 5 ≤ sizeLine := by decide
theorem nil_le : 0 ≤ sizeLine := by decide
theorem lt_size {n : Nat} (h : n ≤ 1000000) : n < sizeLine := Nat.lt_of_le_of_lt h (by decide)
theorem le_size {n : Nat} (h : n ≤ 1000000) : n ≤ sizeLine := Nat.le_of_lt (lt_size h)
theorem pi_listK {X : Cx} {K : PySem.W.Frag} {tg l : Expr} {tl : TE} (e : X.K = K) (h : PE X l tl) : PI X tg l (iList K tl) := by
  subst e; exact pi_list h
theorem pi_tupK {X : Cx} {K : PySem.W.Frag} {tg l : Expr} {tl : TE} (e : X.K = K) (h : PE X l tl) : PI X tg l (iTup K tl) := by
  subst e; exact pi_tup h
theorem crK {X : Cx} {K : PySem.W.Frag} {f : Value} {r : PySem.W.Frag → List V → Hp → VK → Prop} (e : X.K = K) (h : CallR X f (r X.K)) : CallR X f (r K) := by
  subst e; exact h
theorem orK {X : Cx} {K : PySem.W.Frag} {f : Value → Value → Sem Value} {r : PySem.W.Frag → R2} (e : X.K = K) (h : OpR X f (r X.K)) : OpR X f (r K) := by
  subst e; exact h
theorem ixK {X : Cx} {K : PySem.W.Frag} {r : PySem.W.Frag → R2} (e : X.K = K) (h : IxR X (r X.K)) : IxR X (r K) := by
  subst e; exact h
theorem slK {X : Cx} {K : PySem.W.Frag} {r : PySem.W.Frag → V → Option Int → Option Int → Hp → VK → Prop} (e : X.K = K) (h : SlR X (r X.K)) : SlR X (r K) := by
  subst e; exact h
def rLenQ (K : PySem.W.Frag) : List V → Hp → VK → Prop := fun xs H Q => ∃ p ys, xs = [.ref p] ∧ (SqL K H p ys ∨ SqT K H p ys) ∧ Q (.int ys.length) H
def rListQ (K : PySem.W.Frag) : List V → Hp → VK → Prop := fun xs H Q => ∃ p ys, xs = [.ref p] ∧ (SqL K H p ys ∨ SqT K H p ys) ∧ ∀ l, H l = none → Q (.ref l) (upd H l (.lst ys))
def rTupQ (K : PySem.W.Frag) : List V → Hp → VK → Prop := fun xs H Q => ∃ p ys, xs = [.ref p] ∧ ((SqL K H p ys ∧ ∀ l, H l = none → Q (.ref l) (upd H l (.tup ys))) ∨ (SqT K H p ys ∧ Q (.ref p) H))
theorem ne_of_none' {F H : Hp} {q : Addr} (s : Same F H) (n : H q = none) : F q = none := s.free n
/-- a comprehension without a test: its item comes in -/
theorem yes {σ : St} {H : Hp} {A : Hp → Prop} {B : Hp → Prop} (a : A H) : tYes σ H (fun b H3 => if b = true then A H3 else B H3) := by
  show if true = true then A H else B H
  rw [if_pos rfl]; exact a
theorem call_lenQ {X : Cx} : CallR X (.builtin "len") (rLenQ X.K) := call_len_seq
theorem call_listQ {X : Cx} : CallR X (.type "list") (rListQ X.K) := call_list_of
theorem call_tupQ {X : Cx} : CallR X (.type "tuple") (rTupQ X.K) := call_tuple_of
@[irreducible] def rDictP (K : PySem.W.Frag) : List V → Hp → VK → Prop := fun xs H Q => ∃ (a : Addr) (ps : List Addr) (kvs : List (Key × V)), xs = [.ref a] ∧ SqL K H a (ps.map V.ref) ∧ Paired (fun p kv => SqT K H p [kV kv.1, kv.2]) ps kvs ∧ ∀ p, H p = none → Q (.ref p) (upd H p (.dK (mergeK [] kvs)))
theorem call_dictQ {X : Cx} (hc : X.calm = true) : CallR X (.type "dict") (rDictP X.K) := by
  unfold rDictP
  exact call_dictP hc
@[irreducible] def rSortQ (K : PySem.W.Frag) : List V → Hp → VK → Prop := rSortedPO K
theorem call_sortQ {X : Cx} : CallR X (.builtin "sorted") (rSortQ X.K) := by
  unfold rSortQ
  exact cr_sortedPO
theorem pg_tupK {X : Cx} {K : PySem.W.Frag} {es : List Expr} {k n : Nat} {t : TGs} {pos : Pos} (e : X.K = K) (hc : X.calm = true) (h : PGs X es t) (hn : (assignEach es X.env).length = n := by rfl) (hst : (assignEach es X.env).findIdx? (·.1) = none := by rfl) : PG X (.Tuple es k pos) (gTup K n t) := by
  subst e; exact pg_tup hc h hn hst
theorem pe_fldK {X : Cx} {K : PySem.W.Frag} {e : Expr} {f : Str} {pos : Pos} {ta : TE} (ek : X.K = K) (he : PE X e ta) (hb : attributeBase e f X.env (eval e X.env) = eval e X.env) : PE X (.Attribute e f pos) (tFld K ta f) := by
  subst ek; exact pe_fld he hb
/-! ### what stands, what is new: F the frozen part (nobody changes it), H the heap; from F, H to F', H' with changes at mu alone -/
structure Gr (mu : Addr → Prop) (F H F' H' : Hp) : Prop where
  ff : Same F F'
  fh : Same F' H'
  nw : ∀ c o, F' c = some o → F c = some o ∨ H c = none
  fr : ∀ c o, H c = some o → ¬ mu c → H' c = some o
  th : ∀ c, H' c = none → H c = none
/-- nothing but new things -/
abbrev mu0 : Addr → Prop := fun _ => False
/-- the purse alone -/
abbrev muP (p : Addr) : Addr → Prop := fun c => c = p
section
variable {mu : Addr → Prop} {F H F1 H1 F2 H2 : Hp} {q : Addr} {o u : HO}
theorem Gr.refl (s : Same F H) : Gr mu F H F H := ⟨fun _ _ h => h, s, fun _ _ h => .inl h, fun _ _ h _ => h, fun _ h => h⟩
theorem Gr.trans (a : Gr mu F H F1 H1) (b : Gr mu F1 H1 F2 H2) : Gr mu F H F2 H2 where
  ff := fun c o h => b.ff c o (a.ff c o h)
  fh := b.fh
  nw := fun c o h => by
    rcases b.nw c o h with h | h
    · exact a.nw c o h
    · exact .inr (a.th c h)
  fr := fun c o h m => b.fr c o (a.fr c o h m) m
  th := fun c h => a.th c (b.th c h)
/-- a part that changes what is ours, or what mu has -/
theorem Gr.thn {mu' : Addr → Prop} (a : Gr mu F H F1 H1) (b : Gr mu' F1 H1 F2 H2) (k : ∀ c, mu' c → mu c ∨ H c = none) : Gr mu F H F2 H2 where
  ff := fun c o h => b.ff c o (a.ff c o h)
  fh := b.fh
  nw := fun c o h => by
    rcases b.nw c o h with h | h
    · exact a.nw c o h
    · exact .inr (a.th c h)
  fr := fun c o h m => b.fr c o (a.fr c o h m) fun z => (k c z).elim m fun n => by rw [n] at h; cases h
  th := fun c h => a.th c (b.th c h)
theorem Gr.weak {mu' : Addr → Prop} (a : Gr mu F H F1 H1) (m : ∀ c, mu c → mu' c) : Gr mu' F H F1 H1 :=
  ⟨a.ff, a.fh, a.nw, fun c o h n => a.fr c o h fun z => n (m c z), a.th⟩
theorem Gr.of0 (a : Gr mu0 F H F1 H1) : Gr mu F H F1 H1 := a.weak fun _ z => z.elim
/-- a new thing that nobody will change -/
theorem Gr.new (a : Gr mu F H F1 H1) (n : H1 q = none) : Gr mu F H (upd F1 q o) (upd H1 q o) where
  ff := fun c o h => by
    rw [upd_ne (ne_of_none (a.fh c o (a.ff c o h)) n)]
    exact a.ff c o h
  fh := fun c u h => by
    by_cases e : c = q
    · subst e; rw [upd_same] at h ⊢; exact h
    · rw [upd_ne e] at h ⊢; exact a.fh c u h
  nw := fun c u h => by
    by_cases e : c = q
    · subst e; exact .inr (a.th _ n)
    · rw [upd_ne e] at h; exact a.nw c u h
  fr := fun c u h m => by
    rw [upd_ne (ne_of_none (a.fr c u h m) n)]
    exact a.fr c u h m
  th := fun c h => by
    by_cases e : c = q
    · subst e; rw [upd_same] at h; cases h
    · rw [upd_ne e] at h; exact a.th c h
/-- a new thing that may be changed yet -/
theorem Gr.own (a : Gr mu F H F1 H1) (n : H1 q = none) : Gr mu F H F1 (upd H1 q o) where
  ff := a.ff
  fh := fun c u h => by
    rw [upd_ne (ne_of_none (a.fh c u h) n)]
    exact a.fh c u h
  nw := a.nw
  fr := fun c u h m => by
    rw [upd_ne (ne_of_none (a.fr c u h m) n)]
    exact a.fr c u h m
  th := fun c h => by
    by_cases e : c = q
    · subst e; rw [upd_same] at h; cases h
    · rw [upd_ne e] at h; exact a.th c h
/-- a change of what is ours, and not frozen -/
theorem Gr.set (a : Gr mu F H F1 H1) (f : F1 q = none) (m : H q = none ∨ mu q) : Gr mu F H F1 (upd H1 q o) where
  ff := a.ff
  fh := fun c u h => by
    rw [upd_ne (ne_of_none h f)]
    exact a.fh c u h
  nw := a.nw
  fr := fun c u h k => by
    have e : c ≠ q := by
      rintro rfl
      rcases m with m | m
      · rw [m] at h; cases h
      · exact k m
    rw [upd_ne e]
    exact a.fr c u h k
  th := fun c h => by
    by_cases e : c = q
    · subst e; rw [upd_same] at h; cases h
    · rw [upd_ne e] at h; exact a.th c h
/-- what was ours is changed no more -/
theorem Gr.frz (a : Gr mu F H F1 H1) (h : H1 q = some o) (n : H q = none) (f : F1 q = none) : Gr mu F H (upd F1 q o) H1 where
  ff := fun c u e => by
    rw [upd_ne (ne_of_none (a.ff c u e) f)]
    exact a.ff c u e
  fh := fun c u e => by
    by_cases k : c = q
    · subst k; rw [upd_same] at e; cases e; exact h
    · rw [upd_ne k] at e; exact a.fh c u e
  nw := fun c u e => by
    by_cases k : c = q
    · subst k; exact .inr n
    · rw [upd_ne k] at e; exact a.nw c u e
  fr := a.fr
  th := a.th
theorem Gr.free (a : Gr mu F H F1 H1) (n : H1 q = none) : F1 q = none := a.fh.free n
end
/-- an owned thing: new since H, not frozen, it is o now -/
structure Ow (H F H1 : Hp) (q : Addr) (o : HO) : Prop where
  n : H q = none
  f : F q = none
  h : H1 q = some o
section
variable {mu mu' : Addr → Prop} {H0 F H F1 H1 : Hp} {q r : Addr} {o u : HO}
theorem Ow.call (w : Ow H0 F H q o) (a : Gr mu F H F1 H1) (m : ¬ mu q) : Ow H0 F1 H1 q o :=
  ⟨w.n, (by
    cases e : F1 q with
    | none => rfl
    | some z =>
      rcases a.nw q z e with k | k
      · rw [w.f] at k; cases k
      · rw [w.h] at k; cases k), a.fr q o w.h m⟩
theorem Ow.ne (w : Ow H0 F H q o) (n : H r = none) : q ≠ r := ne_of_none w.h n
theorem Ow.new (w : Ow H0 F H q o) (n : H r = none) : Ow H0 (upd F r u) (upd H r u) q o :=
  ⟨w.n, by rw [upd_ne (w.ne n)]; exact w.f, by rw [upd_ne (w.ne n)]; exact w.h⟩
theorem Ow.own (w : Ow H0 F H q o) (n : H r = none) : Ow H0 F (upd H r u) q o :=
  ⟨w.n, w.f, by rw [upd_ne (w.ne n)]; exact w.h⟩
theorem Ow.mk1 (a : Gr mu H0' H0 F H) (n : H q = none) : Ow H0 F (upd H q o) q o := ⟨a.th q n, a.free n, upd_same⟩
theorem Ow.set (w : Ow H0 F H q o) : Ow H0 F (upd H q u) q u := ⟨w.n, w.f, upd_same⟩
theorem Ow.other (w : Ow H0 F H q o) (e : q ≠ r) : Ow H0 F (upd H r u) q o := ⟨w.n, w.f, by rw [upd_ne e]; exact w.h⟩
end
/-! ### what stands for a datum -/
def All2 {α β : Type} (r : α → β → Prop) (xs : List α) (ys : List β) : Prop := xs.length = ys.length ∧ ∀ (i : Nat) (x : α) (y : β), xs[i]? = some x → ys[i]? = some y → r x y
section
variable {α β : Type} {r s : α → β → Prop} {xs xs' : List α} {ys ys' : List β}
theorem All2.nil : All2 r [] [] := ⟨rfl, fun i x y h => by simp at h⟩
theorem All2.get (a : All2 r xs ys) {i : Nat} {y : β} (h : ys[i]? = some y) : ∃ x, xs[i]? = some x ∧ r x y := by
  have l := (List.getElem?_eq_some_iff.mp h).1
  have l' : i < xs.length := by rw [a.1]; exact l
  exact ⟨xs[i], List.getElem?_eq_getElem l', a.2 i _ y (List.getElem?_eq_getElem l') h⟩
theorem All2.get' (a : All2 r xs ys) {i : Nat} {x : α} (h : xs[i]? = some x) : ∃ y, ys[i]? = some y ∧ r x y := by
  have l := (List.getElem?_eq_some_iff.mp h).1
  have l' : i < ys.length := by rw [← a.1]; exact l
  exact ⟨ys[i], List.getElem?_eq_getElem l', a.2 i x _ h (List.getElem?_eq_getElem l')⟩
theorem All2.imp (a : All2 r xs ys) (f : ∀ x y, r x y → s x y) : All2 s xs ys := ⟨a.1, fun i x y h k => f x y (a.2 i x y h k)⟩
theorem All2.app (a : All2 r xs ys) (b : All2 r xs' ys') : All2 r (xs ++ xs') (ys ++ ys') := by
  refine ⟨by rw [List.length_append, List.length_append, a.1, b.1], fun i x y h k => ?_⟩
  by_cases l : i < xs.length
  · rw [List.getElem?_append_left l] at h
    rw [List.getElem?_append_left (by rw [← a.1]; exact l)] at k
    exact a.2 i x y h k
  · rw [List.getElem?_append_right (by omega)] at h
    rw [List.getElem?_append_right (by rw [← a.1]; omega), ← a.1] at k
    exact b.2 _ x y h k
theorem All2.one {x : α} {y : β} (h : r x y) : All2 r [x] [y] := ⟨rfl, fun i a b p q => by
  cases i with
  | zero => simp at p q; subst p; subst q; exact h
  | succ n => simp at p⟩
theorem All2.cons {x : α} {y : β} (h : r x y) (a : All2 r xs ys) : All2 r (x :: xs) (y :: ys) := (All2.one h).app a
theorem All2.set (a : All2 r xs ys) {x : α} {y : β} (h : r x y) (j : Nat) : All2 r (xs.set j x) (ys.set j y) := by
  refine ⟨by rw [List.length_set, List.length_set]; exact a.1, fun i u v p q => ?_⟩
  by_cases e : j = i
  · subst e
    rw [List.getElem?_set_self'] at p q
    cases e1 : xs[j]? with
    | none => rw [e1] at p; cases p
    | some z =>
      cases e2 : ys[j]? with
      | none => rw [e2] at q; cases q
      | some z2 =>
        rw [e1] at p; rw [e2] at q
        cases p; cases q
        exact h
  · rw [List.getElem?_set_ne e] at p q
    exact a.2 i u v p q
theorem All2.take (a : All2 r xs ys) (n : Nat) : All2 r (xs.take n) (ys.take n) := by
  refine ⟨by rw [List.length_take, List.length_take, a.1], fun i u v p q => ?_⟩
  rw [List.getElem?_take] at p q
  split at p
  · rw [if_pos (by assumption)] at q; exact a.2 i u v p q
  · cases p
theorem All2.drop (a : All2 r xs ys) (n : Nat) : All2 r (xs.drop n) (ys.drop n) := by
  refine ⟨by rw [List.length_drop, List.length_drop, a.1], fun i u v p q => ?_⟩
  rw [List.getElem?_drop] at p q
  exact a.2 _ u v p q
end
class Dat (α : Type) where
  rep : Hp → V → α → Prop
  mono : ∀ {H H' : Hp} {v : V} {d : α}, Same H H' → rep H v d → rep H' v d
  py : α → PyData
  dp : ∀ {K : PySem.W.Frag} {H : Hp} {v : V} {d : α}, rep H v d → Dp K H v (py d)
  can : ∀ d, (py d).canLay0 = true
  dep : Nat
  depth : ∀ d, (py d).depth ≤ dep
  eqv : ∀ a b, PyData.eqv (py a) (py b) = true ↔ a = b
section
variable {α β γ : Type}
/-- v stands for d in H -/
abbrev Is [Dat α] (H : Hp) (v : V) (d : α) : Prop := Dat.rep H v d
theorem Is.up [Dat α] {H H' : Hp} {v : V} {d : α} (h : Is H v d) (s : Same H H') : Is H' v d := Dat.mono s h
abbrev IsAll [Dat α] (H : Hp) (xs : List V) (ds : List α) : Prop := All2 (fun v d => Is H v d) xs ds
theorem IsAll.up [Dat α] {H H' : Hp} {xs : List V} {ds : List α} (h : IsAll H xs ds) (s : Same H H') : IsAll H' xs ds := h.imp fun _ _ z => Is.up z s
theorem dp_all [Dat α] {K : PySem.W.Frag} {H : Hp} : ∀ {xs : List V} {ds : List α}, IsAll H xs ds → DpAll K H xs (ds.map Dat.py)
  | [], [], _ => .nil
  | [], d :: ds, h => by have := h.1; simp at this
  | x :: xs, [], h => by have := h.1; simp at this
  | x :: xs, d :: ds, h => .cons (Dat.dp (h.2 0 x d rfl rfl)) (dp_all ⟨by have := h.1; simpa using this, fun i a b p q => h.2 (i + 1) a b (by simpa using p) (by simpa using q)⟩)
theorem can_all [Dat α] : ∀ ds : List α, PyData.canLayAll0 (ds.map Dat.py) = true
  | [] => rfl
  | d :: ds => by
    show (PyData.canLay0 (Dat.py d) && PyData.canLayAll0 (ds.map Dat.py)) = true
    rw [Dat.can, can_all ds]; rfl
theorem depth_all [Dat α] : ∀ ds : List α, PyData.depthAll (ds.map Dat.py) ≤ Dat.dep α
  | [] => Nat.zero_le _
  | d :: ds => by
    show max (PyData.depth (Dat.py d)) (PyData.depthAll (ds.map Dat.py)) ≤ _
    exact Nat.max_le.mpr ⟨Dat.depth d, depth_all ds⟩
theorem eqv_all [Dat α] : ∀ a b : List α, PyData.eqvAll (a.map Dat.py) (b.map Dat.py) = true ↔ a = b
  | [], [] => by simp [PyData.eqvAll]
  | [], _ :: _ => by simp [PyData.eqvAll]
  | _ :: _, [] => by simp [PyData.eqvAll]
  | x :: xs, y :: ys => by
    rw [List.map_cons, List.map_cons, PyData.eqvAll, Bool.and_eq_true, Dat.eqv, eqv_all xs ys, List.cons.injEq]
instance : Dat Int where
  rep := fun _ v i => v = .int i
  mono := fun _ h => h
  py := .int
  dp := fun h => h ▸ .int _
  can := fun _ => rfl
  dep := 0
  depth := fun _ => Nat.le_refl _
  eqv := fun a b => by simp [PyData.eqv]
instance : Dat Bool where
  rep := fun _ v i => v = .bl i
  mono := fun _ h => h
  py := .bool
  dp := fun h => h ▸ .bl _
  can := fun _ => rfl
  dep := 0
  depth := fun _ => Nat.le_refl _
  eqv := fun a b => by simp [PyData.eqv]
/-- a list of data -/
instance [Dat α] : Dat (List α) where
  rep := fun H v l => ∃ a xs, v = .ref a ∧ H a = some (.lst xs) ∧ IsAll H xs l
  mono := fun s h => by
    obtain ⟨a, xs, e, h, i⟩ := h
    exact ⟨a, xs, e, s _ _ h, IsAll.up i s⟩
  py := fun l => .list (l.map Dat.py)
  dp := fun h => by
    obtain ⟨a, xs, rfl, h, i⟩ := h
    exact .lst (SqL.of h) (dp_all i)
  can := fun d => can_all d
  dep := Dat.dep α + 1
  depth := fun d => Nat.succ_le_succ (depth_all d)
  eqv := fun a b => by rw [PyData.eqv]; exact eqv_all a b
/-- a tuple of data of one kind -/
structure Tup (α : Type) where
  l : List α
  deriving DecidableEq
instance [Dat α] : Dat (Tup α) where
  rep := fun H v l => ∃ a xs, v = .ref a ∧ H a = some (.tup xs) ∧ IsAll H xs l.l
  mono := fun s h => by
    obtain ⟨a, xs, e, h, i⟩ := h
    exact ⟨a, xs, e, s _ _ h, IsAll.up i s⟩
  py := fun l => .tuple (l.l.map Dat.py)
  dp := fun h => by
    obtain ⟨a, xs, rfl, h, i⟩ := h
    exact .tup (SqT.of h) (dp_all i)
  can := fun d => can_all d.l
  dep := Dat.dep α + 1
  depth := fun d => Nat.succ_le_succ (depth_all d.l)
  eqv := fun a b => by
    rw [PyData.eqv, eqv_all]
    obtain ⟨a⟩ := a; obtain ⟨b⟩ := b
    simp
/-- a pair; a triple -/
structure T2 (α β : Type) where
  a : α
  b : β
  deriving DecidableEq
structure T3 (α β γ : Type) where
  a : α
  b : β
  c : γ
  deriving DecidableEq
instance [Dat α] [Dat β] : Dat (T2 α β) where
  rep := fun H v d => ∃ p x y, v = .ref p ∧ H p = some (.tup [x, y]) ∧ Is H x d.a ∧ Is H y d.b
  mono := fun s h => by
    obtain ⟨p, x, y, e, h, i, j⟩ := h
    exact ⟨p, x, y, e, s _ _ h, Is.up i s, Is.up j s⟩
  py := fun d => .tuple [Dat.py d.a, Dat.py d.b]
  dp := fun h => by
    obtain ⟨p, x, y, rfl, h, i, j⟩ := h
    exact .tup (SqT.of h) (.cons (Dat.dp i) (.cons (Dat.dp j) .nil))
  can := fun d => by
    show (PyData.canLay0 (Dat.py d.a) && (PyData.canLay0 (Dat.py d.b) && true)) = true
    rw [Dat.can, Dat.can]; rfl
  dep := max (Dat.dep α) (Dat.dep β) + 1
  depth := fun d => by
    have h1 := Dat.depth d.a
    have h2 := Dat.depth d.b
    show max (PyData.depth (Dat.py d.a)) (max (PyData.depth (Dat.py d.b)) 0) + 1 ≤ _
    omega
  eqv := fun a b => by
    obtain ⟨a, a'⟩ := a; obtain ⟨b, b'⟩ := b
    simp [PyData.eqv, PyData.eqvAll, Dat.eqv]
instance [Dat α] [Dat β] [Dat γ] : Dat (T3 α β γ) where
  rep := fun H v d => ∃ p x y z, v = .ref p ∧ H p = some (.tup [x, y, z]) ∧ Is H x d.a ∧ Is H y d.b ∧ Is H z d.c
  mono := fun s h => by
    obtain ⟨p, x, y, z, e, h, i, j, k⟩ := h
    exact ⟨p, x, y, z, e, s _ _ h, Is.up i s, Is.up j s, Is.up k s⟩
  py := fun d => .tuple [Dat.py d.a, Dat.py d.b, Dat.py d.c]
  dp := fun h => by
    obtain ⟨p, x, y, z, rfl, h, i, j, k⟩ := h
    exact .tup (SqT.of h) (.cons (Dat.dp i) (.cons (Dat.dp j) (.cons (Dat.dp k) .nil)))
  can := fun d => by
    show (PyData.canLay0 (Dat.py d.a) && (PyData.canLay0 (Dat.py d.b) && (PyData.canLay0 (Dat.py d.c) && true))) = true
    rw [Dat.can, Dat.can, Dat.can]; rfl
  dep := max (Dat.dep α) (max (Dat.dep β) (Dat.dep γ)) + 1
  depth := fun d => by
    have h1 := Dat.depth d.a
    have h2 := Dat.depth d.b
    have h3 := Dat.depth d.c
    show max (PyData.depth (Dat.py d.a)) (max (PyData.depth (Dat.py d.b)) (max (PyData.depth (Dat.py d.c)) 0)) + 1 ≤ _
    omega
  eqv := fun a b => by
    obtain ⟨a, a', a''⟩ := a; obtain ⟨b, b', b''⟩ := b
    simp [PyData.eqv, PyData.eqvAll, Dat.eqv]
/-- None, or a datum that is a tuple or a list -/
class Big (α : Type) [Dat α] : Prop where
  big : ∀ d : α, (∃ l, Dat.py d = .tuple l) ∨ ∃ l, Dat.py d = .list l
instance [Dat α] : Big (List α) := ⟨fun d => .inr ⟨_, rfl⟩⟩
instance [Dat α] : Big (Tup α) := ⟨fun d => .inl ⟨_, rfl⟩⟩
instance [Dat α] [Dat β] : Big (T2 α β) := ⟨fun d => .inl ⟨_, rfl⟩⟩
instance [Dat α] [Dat β] [Dat γ] : Big (T3 α β γ) := ⟨fun d => .inl ⟨_, rfl⟩⟩
instance [Dat α] [Big α] : Dat (Option α) where
  rep := fun H v d => match d with
    | none => v = .non
    | some d => Is H v d
  mono := fun {H H' v d} s h => by
    cases d with
    | none => exact h
    | some d => exact Is.up (show Is H v d from h) s
  py := fun d => match d with
    | none => .none
    | some d => Dat.py d
  dp := fun {K H v d} h => by
    cases d with
    | none => cases h; exact .non
    | some d => exact Dat.dp (show Is H v d from h)
  can := fun d => by
    cases d with
    | none => rfl
    | some d => exact Dat.can d
  dep := Dat.dep α
  depth := fun d => by
    cases d with
    | none => exact Nat.zero_le _
    | some d => exact Dat.depth d
  eqv := fun a b => by
    cases a with
    | none =>
      cases b with
      | none => exact ⟨fun _ => rfl, fun _ => rfl⟩
      | some b =>
        refine ⟨fun h => ?_, fun h => nomatch h⟩
        have h : PyData.eqv .none (Dat.py b) = true := h
        rcases Big.big b with ⟨l, e⟩ | ⟨l, e⟩ <;> (rw [e] at h; simp only [PyData.eqv] at h; cases h)
    | some a =>
      cases b with
      | none =>
        refine ⟨fun h => ?_, fun h => nomatch h⟩
        have h : PyData.eqv (Dat.py a) .none = true := h
        rcases Big.big a with ⟨l, e⟩ | ⟨l, e⟩ <;> (rw [e] at h; simp only [PyData.eqv] at h; cases h)
      | some b =>
        show PyData.eqv (Dat.py a) (Dat.py b) = true ↔ _
        rw [Dat.eqv, Option.some.injEq]
end
/-- == and != of data -/
theorem eq_dat0 {α : Type} [Dat α] [DecidableEq α] {a b : α} (hd : Dat.dep α ≤ 64) : SeqAt.shaped (Dat.py a) = true ∧ SeqAt.shaped (Dat.py b) = true ∧ PyData.eqv (Dat.py a) (Dat.py b) = decide (a = b) := by
  refine ⟨?_, ?_, ?_⟩
  · show (PyData.canLay0 _ && decide _) = true
    rw [Dat.can, decide_eq_true (Nat.le_trans (Dat.depth a) hd)]; rfl
  · show (PyData.canLay0 _ && decide _) = true
    rw [Dat.can, decide_eq_true (Nat.le_trans (Dat.depth b) hd)]; rfl
  · rw [Bool.eq_iff_iff, Dat.eqv, decide_eq_true_iff]
theorem eq_dat {α : Type} [Dat α] [DecidableEq α] {K : PySem.W.Frag} {H : Hp} {x y : V} {a b : α} {Q : VK} (ha : Is H x a) (hb : Is H y b) (q : Q (.bl (decide (a = b))) H) (hd : Dat.dep α ≤ 64 := by decide) : rEqD K x y H Q := by
  obtain ⟨h1, h2, h3⟩ := eq_dat0 (a := a) (b := b) hd
  exact ⟨Dat.py a, Dat.py b, Dat.dp ha, Dat.dp hb, h1, h2, by rw [h3]; exact q⟩
theorem ne_dat {α : Type} [Dat α] [DecidableEq α] {K : PySem.W.Frag} {H : Hp} {x y : V} {a b : α} {Q : VK} (ha : Is H x a) (hb : Is H y b) (q : Q (.bl (!decide (a = b))) H) (hd : Dat.dep α ≤ 64 := by decide) : rNeD K x y H Q := by
  obtain ⟨h1, h2, h3⟩ := eq_dat0 (a := a) (b := b) hd
  exact ⟨Dat.py a, Dat.py b, Dat.dp ha, Dat.dp hb, h1, h2, by rw [h3]; exact q⟩
/-! ### machines -/
/-- an entry -/
inductive Ent where
  | emp
  | go (put way row : Int)
  deriving DecidableEq
def entO : Ent → HO
  | .emp => .tup []
  | .go p w r => .tup [.int p, .int w, .int r]
def entP : Ent → PyData
  | .emp => .tuple []
  | .go p w r => .tuple [.int p, .int w, .int r]
instance : Dat Ent where
  rep := fun H v e => ∃ a, v = .ref a ∧ H a = some (entO e)
  mono := fun s h => by obtain ⟨a, e, h⟩ := h; exact ⟨a, e, s _ _ h⟩
  py := entP
  dp := fun {K H v d} h => by
    obtain ⟨a, rfl, h⟩ := h
    cases d with
    | emp => exact .tup (SqT.of h) .nil
    | go p w r => exact .tup (SqT.of h) (.cons (.int _) (.cons (.int _) (.cons (.int _) .nil)))
  can := fun d => by cases d <;> rfl
  dep := 1
  depth := fun d => by cases d <;> simp [entP, PyData.depth, PyData.depthAll]
  eqv := fun a b => by cases a <;> cases b <;> simp [entP, PyData.eqv, PyData.eqvAll]
instance : Big Ent := ⟨fun d => by cases d <;> exact .inl ⟨_, rfl⟩⟩
abbrev Mach := List (List Ent)
/-! ### pairs of ints: a dict's items, sorted ones -/
abbrev PI := T2 Int Int
def dI (l : List PI) : List (Key × V) := l.map fun p => (Sum.inl p.a, V.int p.b)
def look (l : List PI) (x : Int) : Option Int := (l.find? fun p => decide (p.a = x)).map (·.b)
def put (l : List PI) (x v : Int) : List PI := if (l.any fun p => decide (p.a = x)) = true then l.map (fun p => if p.a = x then ⟨p.a, v⟩ else p) else l ++ [⟨x, v⟩]
def merge (l m : List PI) : List PI := m.foldl (fun acc p => put acc p.a p.b) l
theorem key_inl (a b : Int) : ((Sum.inl a : Key) = Sum.inl b) = (a = b) := propext ⟨Sum.inl.inj, fun h => by rw [h]⟩
theorem dI_val (x : Int) : ∀ l : List PI, valV (dI l) (Sum.inl x) = (look l x).map V.int
  | [] => rfl
  | p :: l => by
    have ih := dI_val x l
    show valV ((Sum.inl p.a, V.int p.b) :: dI l) (Sum.inl x) = _
    by_cases e : p.a = x
    · rw [valV_pos (by rw [key_inl]; exact e)]
      simp [look, e]
    · rw [valV_neg (by rw [key_inl]; exact e), ih]
      simp [look, e]
theorem dI_put (l : List PI) (x v : Int) : putK (dI l) (Sum.inl x) (.int v) = dI (put l x v) := by
  have e : ((dI l).any fun kv => decide (kv.1 = Sum.inl x)) = (l.any fun p => decide (p.a = x)) := by
    unfold dI
    rw [List.any_map]
    congr 1
    funext p
    simp only [Function.comp, key_inl]
  unfold putK put
  rw [e]
  by_cases a : (l.any fun p => decide (p.a = x)) = true
  · rw [if_pos a, if_pos a]
    unfold dI
    rw [List.map_map, List.map_map]
    congr 1
    funext p
    simp only [Function.comp, key_inl]
    by_cases h : p.a = x
    · rw [if_pos h, if_pos h]
    · rw [if_neg h, if_neg h]
  · rw [if_neg a, if_neg a]
    unfold dI
    rw [List.map_append]
    rfl
theorem dI_merge (m : List PI) : ∀ l : List PI, mergeK (dI l) (dI m) = dI (merge l m) := by
  induction m with
  | nil => intro l; rfl
  | cons p m ih =>
    intro l
    show mergeK (putK (dI l) (Sum.inl p.a) (.int p.b)) (dI m) = dI (merge (put l p.a p.b) m)
    rw [dI_put]
    exact ih _
theorem look_nil (x : Int) : look [] x = none := rfl
theorem look_cons (p : PI) (l : List PI) (x : Int) : look (p :: l) x = if p.a = x then some p.b else look l x := by
  unfold look
  rw [List.find?_cons]
  by_cases e : p.a = x
  · simp [e]
  · simp [e]
theorem look_any (x : Int) : ∀ l : List PI, (l.any fun p => decide (p.a = x)) = (look l x).isSome
  | [] => rfl
  | p :: l => by
    rw [List.any_cons, look_any x l, look_cons]
    by_cases e : p.a = x
    · simp [e]
    · simp [e]
theorem look_map (x y v : Int) : ∀ l : List PI, look (l.map fun p => if p.a = x then ⟨p.a, v⟩ else p) y = (look l y).map fun z => if y = x then v else z
  | [] => rfl
  | p :: l => by
    rw [List.map_cons, look_cons, look_cons, look_map x y v l]
    by_cases e : p.a = x
    · rw [if_pos e]
      by_cases f : p.a = y
      · rw [if_pos f, if_pos f]
        rw [← f, Option.map_some, if_pos e]
      · rw [if_neg f, if_neg f]
    · rw [if_neg e]
      by_cases f : p.a = y
      · rw [if_pos f, if_pos f, Option.map_some, if_neg (by rw [← f]; exact e)]
      · rw [if_neg f, if_neg f]
theorem look_app (l m : List PI) (x : Int) : look (l ++ m) x = (look l x).or (look m x) := by
  induction l with
  | nil => rfl
  | cons p l ih =>
    rw [List.cons_append, look_cons, look_cons, ih]
    by_cases e : p.a = x
    · rw [if_pos e, if_pos e]; rfl
    · rw [if_neg e, if_neg e]
theorem look_put (l : List PI) (x v y : Int) : look (put l x v) y = if y = x then some v else look l y := by
  unfold put
  by_cases a : (l.any fun p => decide (p.a = x)) = true
  · rw [if_pos a, look_map]
    by_cases e : y = x
    · rw [if_pos e, e]
      rw [look_any] at a
      obtain ⟨z, hz⟩ := Option.isSome_iff_exists.mp a
      rw [hz, Option.map_some, if_pos rfl]
    · rw [if_neg e]
      cases look l y with
      | none => rfl
      | some z => rw [Option.map_some, if_neg e]
  · rw [if_neg a, look_app]
    rw [look_any] at a
    by_cases e : y = x
    · rw [if_pos e, e]
      cases h : look l x with
      | none => rw [look_cons, if_pos rfl]; rfl
      | some z => rw [h] at a; exact absurd rfl a
    · rw [if_neg e, look_cons, if_neg (fun z => e z.symm), look_nil]
      cases look l y <;> rfl
/-- no place twice -/
def Nd (l : List PI) : Prop := (l.map (·.a)).Nodup
theorem look_none {l : List PI} {x : Int} : look l x = none ↔ x ∉ l.map (·.a) := by
  induction l with
  | nil => simp [look_nil]
  | cons p l ih =>
    rw [look_cons, List.map_cons, List.mem_cons]
    by_cases e : p.a = x
    · rw [if_pos e]; simp [e]
    · rw [if_neg e, ih]
      constructor
      · intro h z
        rcases z with z | z
        · exact e z.symm
        · exact h z
      · intro h z
        exact h (.inr z)
theorem look_mem {l : List PI} (h : Nd l) {p : PI} (m : p ∈ l) : look l p.a = some p.b := by
  induction l with
  | nil => cases m
  | cons q l ih =>
    have h' := List.nodup_cons.mp h
    rw [look_cons]
    rcases List.mem_cons.mp m with rfl | m
    · rw [if_pos rfl]
    · rw [if_neg (fun e => h'.1 (by show q.a ∈ _; rw [e]; exact List.mem_map.mpr ⟨p, m, rfl⟩))]
      exact ih h'.2 m
theorem mem_look {l : List PI} {x v : Int} (h : look l x = some v) : (⟨x, v⟩ : PI) ∈ l := by
  induction l with
  | nil => cases h
  | cons q l ih =>
    rw [look_cons] at h
    by_cases e : q.a = x
    · rw [if_pos e] at h
      cases h
      subst e
      exact List.mem_cons_self
    · rw [if_neg e] at h
      exact List.mem_cons_of_mem _ (ih h)
theorem nd_put {l : List PI} (h : Nd l) (x v : Int) : Nd (put l x v) := by
  unfold put
  by_cases a : (l.any fun p => decide (p.a = x)) = true
  · rw [if_pos a]
    unfold Nd
    rw [List.map_map]
    have e : ((fun p : PI => p.a) ∘ fun p : PI => if p.a = x then (⟨p.a, v⟩ : PI) else p) = fun p : PI => p.a := by
      funext p
      simp only [Function.comp]
      split <;> rfl
    rw [e]; exact h
  · rw [if_neg a]
    unfold Nd
    rw [List.map_append]
    refine nd_snoc h ?_
    rw [look_any] at a
    refine look_none.mp ?_
    cases q : look l x with
    | none => rfl
    | some z => rw [q] at a; exact absurd rfl a
theorem put_new {l : List PI} {x : Int} (v : Int) (h : look l x = none) : put l x v = l ++ [⟨x, v⟩] := by
  unfold put
  rw [look_any, h]
  rfl
theorem merge_nd {m : List PI} : ∀ {l : List PI}, Nd (l ++ m) → merge l m = l ++ m := by
  induction m with
  | nil => intro l _; simp [merge]
  | cons p m ih =>
    intro l h
    have e : l ++ p :: m = (l ++ [p]) ++ m := by simp
    have hn : look l p.a = none := by
      refine look_none.mpr fun z => ?_
      unfold Nd at h
      rw [List.map_append] at h
      exact (List.nodup_append.mp h).2.2 _ z _ (by rw [List.map_cons]; exact List.mem_cons_self) rfl
    show merge (put l p.a p.b) m = _
    rw [put_new _ hn, e]
    exact ih (by rw [← e]; exact h)
theorem nd_nil : Nd [] := List.nodup_nil
theorem put_len (l : List PI) (x v : Int) : (put l x v).length ≤ l.length + 1 := by
  unfold put
  split
  · rw [List.length_map]; omega
  · rw [List.length_append]; exact Nat.le_refl _
/-- Python's order of pairs -/
def leP (p q : PI) : Bool := decide (p.a < q.a) || (decide (p.a = q.a) && decide (p.b ≤ q.b))
theorem leP_iff {p q : PI} : leP p q = true ↔ p.a < q.a ∨ (p.a = q.a ∧ p.b ≤ q.b) := by simp [leP]
def ins (p : PI) : List PI → List PI
  | [] => [p]
  | q :: l => if leP p q = true then p :: q :: l else q :: ins p l
def srt (l : List PI) : List PI := l.foldr ins []
theorem ins_perm (p : PI) : ∀ l : List PI, (ins p l).Perm (p :: l)
  | [] => List.Perm.refl _
  | q :: l => by
    unfold ins
    split
    · exact List.Perm.refl _
    · exact (List.Perm.cons q (ins_perm p l)).trans (List.Perm.swap p q l)
theorem srt_perm : ∀ l : List PI, (srt l).Perm l
  | [] => List.Perm.refl _
  | p :: l => (ins_perm p (srt l)).trans ((srt_perm l).cons p)
abbrev LeP (p q : PI) : Prop := leP p q = true
theorem leP_trans {p q r : PI} (h1 : LeP p q) (h2 : LeP q r) : LeP p r := by
  have a := leP_iff.mp h1
  have b := leP_iff.mp h2
  exact leP_iff.mpr (by omega)
theorem leP_total (p q : PI) : LeP p q ∨ LeP q p := by
  show leP p q = true ∨ leP q p = true
  rw [leP_iff, leP_iff]
  omega
theorem ins_srt (p : PI) : ∀ {l : List PI}, l.Pairwise LeP → (ins p l).Pairwise LeP
  | [], _ => List.pairwise_singleton _ _
  | q :: l, h => by
    have h' := List.pairwise_cons.mp h
    unfold ins
    split
    · rename_i e
      refine List.pairwise_cons.mpr ⟨fun x m => ?_, h⟩
      rcases List.mem_cons.mp m with rfl | m
      · exact e
      · exact leP_trans e (h'.1 x m)
    · rename_i e
      refine List.pairwise_cons.mpr ⟨fun x m => ?_, ins_srt p h'.2⟩
      rcases List.mem_cons.mp ((ins_perm p l).mem_iff.mp m) with rfl | m
      · rcases leP_total q x with z | z
        · exact z
        · exact absurd z e
      · exact h'.1 x m
theorem srt_srt : ∀ l : List PI, (srt l).Pairwise LeP
  | [] => List.Pairwise.nil
  | p :: l => ins_srt p (srt_srt l)
theorem leP_anti {p q : PI} (h1 : LeP p q) (h2 : LeP q p) : p = q := by
  have a := leP_iff.mp h1
  have b := leP_iff.mp h2
  obtain ⟨x, y⟩ := p
  obtain ⟨x', y'⟩ := q
  have e1 : x = x' := by show x = x'; simp only at a b; omega
  have e2 : y = y' := by simp only at a b; omega
  rw [e1, e2]
/-- there is one sorted list of them -/
theorem srt_uniq : ∀ {l m : List PI}, l.Pairwise LeP → m.Pairwise LeP → l.Perm m → l = m
  | [], m, _, _, h => (List.Perm.eq_nil h.symm).symm
  | x :: l, [], _, _, h => absurd h.length_eq (by simp)
  | x :: l, y :: m, hl, hm, h => by
    have l' := List.pairwise_cons.mp hl
    have m' := List.pairwise_cons.mp hm
    have h1 : LeP y x := by
      rcases List.mem_cons.mp (h.mem_iff.mp (List.mem_cons_self (a := x) (l := l))) with e | z
      · rw [e]; rcases leP_total y y with z | z <;> exact z
      · exact m'.1 x z
    have h2 : LeP x y := by
      rcases List.mem_cons.mp (h.mem_iff.mpr (List.mem_cons_self (a := y) (l := m))) with e | z
      · rw [e]; rcases leP_total x x with z | z <;> exact z
      · exact l'.1 y z
    have e := leP_anti h2 h1
    subst e
    rw [srt_uniq l'.2 m'.2 h.cons_inv]
theorem srt_of {l m : List PI} (h : m.Pairwise LeP) (p : m.Perm l) : m = srt l := srt_uniq h (srt_srt l) (p.trans (srt_perm l).symm)
/-- what a value says as a pair, read off the heap -/
def pOf (H : Hp) : V → Int × Int
  | .ref t => match H t with
    | some (.tup [.int i, .int j]) => (i, j)
    | _ => (0, 0)
  | _ => (0, 0)
theorem pOf_is {H : Hp} {v : V} {d : PI} (h : Is H v d) : ∃ t, v = .ref t ∧ H t = some (.tup [.int (pOf H v).1, .int (pOf H v).2]) ∧ d = ⟨(pOf H v).1, (pOf H v).2⟩ := by
  obtain ⟨t, x, y, rfl, h1, h2, h3⟩ := h
  have h2 : x = .int d.a := h2
  have h3 : y = .int d.b := h3
  subst h2
  subst h3
  have e : pOf H (.ref t) = (d.a, d.b) := by simp only [pOf, h1]
  exact ⟨t, rfl, by rw [e]; exact h1, by rw [e]⟩
theorem all_of {H : Hp} : ∀ {xs : List V} {l : List PI}, IsAll H xs l → l = xs.map fun v => (⟨(pOf H v).1, (pOf H v).2⟩ : PI) := fun {xs l} h => by
  refine List.ext_getElem? fun i => ?_
  rw [List.getElem?_map]
  cases e : xs[i]? with
  | none =>
    have := List.getElem?_eq_none_iff.mp e
    exact List.getElem?_eq_none_iff.mpr (by rw [← h.1]; exact this)
  | some x =>
    obtain ⟨d, hd, hx⟩ := h.get' e
    obtain ⟨t, _, _, q⟩ := pOf_is hx
    rw [hd, q]
    rfl
/-- sorted of a list of pairs -/
theorem sort_pairs {K : PySem.W.Frag} {F H : Hp} {a : Addr} {xs : List V} {l : List PI} {Q : VK} (sF : Same F H) (hx : IsAll F xs l) (ha : SqL K H a xs) (q : ∀ ys p, H p = none → IsAll F ys (srt l) → Q (.ref p) (upd H p (.lst ys))) : rSortQ K [.ref a] H Q := by
  unfold rSortQ
  refine ⟨a, xs, pOf F, rfl, ha, fun x m => ?_, fun ys p hs hb np => q ys p np ?_⟩
  · obtain ⟨i, hi⟩ := List.getElem?_of_mem m
    obtain ⟨d, _, hd⟩ := hx.get' hi
    obtain ⟨t, e, h, _⟩ := pOf_is hd
    exact ⟨t, e, sF _ _ h⟩
  · have el := all_of hx
    have hys : IsAll F ys (ys.map fun v => (⟨(pOf F v).1, (pOf F v).2⟩ : PI)) := by
      refine ⟨by rw [List.length_map], fun i x y h1 h2 => ?_⟩
      rw [List.getElem?_map, h1] at h2
      cases h2
      have m : x ∈ xs := hb.perm.mem_iff.mp (List.mem_of_getElem? h1)
      obtain ⟨j, hj⟩ := List.getElem?_of_mem m
      obtain ⟨d, _, hd⟩ := hx.get' hj
      obtain ⟨t, e, h, e2⟩ := pOf_is hd
      exact ⟨t, _, _, e, h, rfl, rfl⟩
    have es : (ys.map fun v => (⟨(pOf F v).1, (pOf F v).2⟩ : PI)) = srt l := by
      refine srt_of ?_ ?_
      · refine List.pairwise_map.mpr (List.Pairwise.imp (fun {x y} h => ?_) hs)
        have h := SrtO.lexB_no.mp h
        exact leP_iff.mpr (by simp only; omega)
      · rw [el]
        exact hb.perm.map _
    rw [es] at hys
    exact hys
theorem pairs_of {K : PySem.W.Frag} {H : Hp} : ∀ {xs : List V} {l : List PI}, IsAll H xs l → ∃ ps : List Addr, xs = ps.map V.ref ∧ Paired (fun p kv => SqT K H p [kV kv.1, kv.2]) ps (dI l)
  | [], [], _ => ⟨[], rfl, .nil⟩
  | [], d :: l, h => by have := h.1; simp at this
  | x :: xs, [], h => by have := h.1; simp at this
  | x :: xs, d :: l, h => by
    obtain ⟨t, x1, x2, e, h1, h2, h3⟩ := h.2 0 x d rfl rfl
    have h2 : x1 = .int d.a := h2
    have h3 : x2 = .int d.b := h3
    subst h2
    subst h3
    obtain ⟨ps, e2, p⟩ := pairs_of (K := K) (xs := xs) (l := l) ⟨by have := h.1; simpa using this, fun i a b p q => h.2 (i + 1) a b (by simpa using p) (by simpa using q)⟩
    exact ⟨t :: ps, by rw [e, e2]; rfl, .cons (SqT.of h1) p⟩
/-- dict(pairs) -/
theorem dict_pairs {K : PySem.W.Frag} {H : Hp} {a : Addr} {xs : List V} {l : List PI} {Q : VK} (hx : IsAll H xs l) (ha : SqL K H a xs) (q : ∀ p, H p = none → Q (.ref p) (upd H p (.dK (dI (merge [] l))))) : rDictP K [.ref a] H Q := by
  unfold rDictP
  obtain ⟨ps, e, p⟩ := pairs_of (K := K) hx
  refine ⟨a, ps, dI l, rfl, by rw [← e]; exact ha, p, fun d nd => ?_⟩
  have e2 : mergeK [] (dI l) = dI (merge [] l) := dI_merge l []
  rw [e2]
  exact q d nd
/-! ### a dict under its lock -/
theorem lock_in {F H : Hp} {d : Addr} {o : HO} (s : Same F H) : Same (fun c => if c = d then none else F c) (upd H d o) := fun c u h => by
  by_cases e : c = d
  · simp only [e, if_true] at h; cases h
  · simp only [e, if_false] at h
    rw [upd_ne e]; exact s c u h
theorem lock_out {F H F2 H2 : Hp} {d : Addr} {o u : HO} (s : Same F H) (h : H d = some u) (g : Gr mu0 (fun c => if c = d then none else F c) (upd H d o) F2 H2) :
    H2 d = some o ∧ Same F2 (fun c => if c = d then F d else F2 c) ∧ Gr mu0 F H (fun c => if c = d then F d else F2 c) (upd H2 d u) := by
  have n2 : F2 d = none := by
    cases e : F2 d with
    | none => rfl
    | some z =>
      rcases g.nw d z e with k | k
      · simp only [if_true] at k; cases k
      · rw [upd_same] at k; cases k
  refine ⟨g.fr d o upd_same (fun z => z), fun c z e => ?_, ⟨fun c z e => ?_, fun c z e => ?_, fun c z e => ?_, fun c z e m => ?_, fun c e => ?_⟩⟩
  · by_cases k : c = d
    · rw [k, n2] at e; cases e
    · simp only [k, if_false]; exact e
  · by_cases k : c = d
    · simp only [k, if_true]; rw [← k]; exact e
    · simp only [k, if_false]
      exact g.ff c z (by simp only [k, if_false]; exact e)
  · by_cases k : c = d
    · simp only [k, if_true] at e
      rw [k, upd_same, ← h]
      exact s d z e
    · simp only [k, if_false] at e
      rw [upd_ne k]; exact g.fh c z e
  · by_cases k : c = d
    · simp only [k, if_true] at e
      exact .inl (by rw [k]; exact e)
    · simp only [k, if_false] at e
      rcases g.nw c z e with q | q
      · simp only [k, if_false] at q; exact .inl q
      · rw [upd_ne k] at q; exact .inr q
  · by_cases k : c = d
    · rw [k, upd_same]; rw [k, h] at e; exact e
    · rw [upd_ne k]
      exact g.fr c z (by rw [upd_ne k]; exact e) (fun z => z)
  · by_cases k : c = d
    · rw [k, upd_same] at e; cases e
    · rw [upd_ne k] at e
      have q := g.th c e
      rw [upd_ne k] at q; exact q
/-- the signs that aren't 0, in order -/
def nz (p : PI) : Bool := decide (p.b ≠ 0)
def told (l : List PI) : List PI := srt (l.filter nz)
theorem dI_get {l : List PI} {i : Nat} (h : i < l.length) : (dI l)[i]? = some (Sum.inl l[i].a, V.int l[i].b) := by
  unfold dI
  rw [List.getElem?_map, List.getElem?_eq_getElem h]
  rfl
theorem filter_take_succ {l : List PI} {f : PI → Bool} {i : Nat} (h : i < l.length) : (l.take (i + 1)).filter f = (l.take i).filter f ++ (if f l[i] = true then [l[i]] else []) := by
  rw [List.take_add_one, List.getElem?_eq_getElem h, List.filter_append]
  show _ ++ List.filter f [l[i]] = _
  rw [List.filter_cons]
  split <;> rfl
theorem nd_srt {l : List PI} (h : Nd l) : Nd (srt l) := ((srt_perm l).map (fun p : PI => p.a)).nodup_iff.mpr h
theorem mem_srt {l : List PI} {q : PI} : q ∈ srt l ↔ q ∈ l := (srt_perm l).mem_iff
theorem mem_put {l : List PI} {x v : Int} {q : PI} (m : q ∈ put l x v) : q ∈ l ∨ q = ⟨x, v⟩ := by
  unfold put at m
  split at m
  · obtain ⟨z, hz, e⟩ := List.mem_map.mp m
    split at e
    · rename_i h1 h2
      exact .inr (by rw [← e, h2])
    · exact .inl (by rw [← e]; exact hz)
  · rcases List.mem_append.mp m with m | m
    · exact .inl m
    · exact .inr (List.mem_singleton.mp m)
/-! ### sorted(d.items()), d a dict of ints to ints -/
section
open PySem.Spec PyProof.Rows
variable {X : Cx}
/-- many new things are tracked at once -/
theorem inv_many {pins : List (Addr × Obj)} {σ : L2.St} {H H' : Hp} {s : Shared} {h' : Heap} {tk : Nat} {as : List Addr} (I : Inv X pins σ H s) (k : ∀ b o, s.heap.get? b = some o → h'.get? b = some o) (hp : ∀ a ∈ as, s.heap.objs.size ≤ a)
    (p1 : ∀ b, b ∉ as → H' b = H b) (p2 : ∀ b ∈ as, ∀ o, H' b = some o → ObjOk X.prog X.w H' h' b o) : Inv X pins σ H' { s with heap := h', toks := tk } := by
  have old : ∀ b o, s.heap.get? b = some o → b ∉ as := fun b o e z => Nat.lt_irrefl _ (Nat.lt_of_lt_of_le (Heap.lt_size e) (hp b z))
  have trc : ∀ b o, H b = some o → b ∉ as := fun b o e z => by
    have := I.hok.lt e
    exact Nat.lt_irrefl _ (Nat.lt_of_lt_of_le this (hp b z))
  have kp : ∀ b o, H b = some o → H' b = some o := fun b o e => by rw [p1 b (trc b o e)]; exact e
  refine I.un ⟨fun b o q _ _ _ => k b o q, fun b o q _ _ _ => ⟨o.slots, k b o q⟩, fun b o q n _ => by rw [p1 b (old b o q)]; exact n, fun b o q _ => ⟨o, k b o q⟩, fun b xs e => kp b _ e, fun b o u e => kp b _ e, fun b ps e => ⟨#[], by rw [kp b _ e]; simp⟩⟩ fun b o e => ?_
  by_cases m : b ∈ as
  · exact p2 b m o e
  · rw [p1 b m] at e
    exact (I.hok b o e).stay (fun c u _ q => k c u q) (fun c q => kp c _ q) fun c xs q => kp c _ q
/-- the pair that stands at a -/
def pzAt (zs : List (Addr × PI)) (a : Addr) : Option PI := (zs.find? fun z => decide (z.1 = a)).map (·.2)
theorem pzAt_ix : ∀ {zs : List (Addr × PI)}, (zs.map (·.1)).Nodup → ∀ {j : Nat} {z : Addr × PI}, zs[j]? = some z → pzAt zs z.1 = some z.2
  | [], _, j, z, h => by cases h
  | y :: ys, nd, 0, z, h => by
    have e := Option.some.inj h
    subst e
    simp [pzAt]
  | y :: ys, nd, j + 1, z, h => by
    have nd' := List.nodup_cons.mp nd
    have m : z.1 ∈ ys.map (·.1) := List.mem_map.mpr ⟨z, List.mem_of_getElem? (show ys[j]? = some z from h), rfl⟩
    have ih := pzAt_ix nd'.2 (show ys[j]? = some z from h)
    have ne : ¬ y.1 = z.1 := fun e => nd'.1 (by show y.1 ∈ _; rw [e]; exact m)
    unfold pzAt at ih ⊢
    rw [List.find?_cons, decide_eq_false ne]
    exact ih
theorem pzAt_no {zs : List (Addr × PI)} {a : Addr} (h : a ∉ zs.map (·.1)) : pzAt zs a = none := by
  unfold pzAt
  rw [List.find?_eq_none.mpr fun z m e => h (List.mem_map.mpr ⟨z, m, of_decide_eq_true e⟩)]
  rfl
def trk (H : Hp) (B : Addr) (L : HO) (zs : List (Addr × PI)) : Hp := fun b => if b = B then some L else match pzAt zs b with
  | some q => some (.tup [.int q.a, .int q.b])
  | none => H b
def adOf : Value → Addr
  | .ref a => a
  | _ => 0
@[irreducible] def rSortIt : V → Hp → VK → Prop := fun x H Q => ∃ (d : Addr) (l : List PI), x = .ref d ∧ H d = some (.dK (dI l)) ∧
  ∀ (H' : Hp) (p : Addr) (ys : List Addr), Same H H' → H p = none → (∀ t ∈ ys, H t = none) → p ∉ ys → (∀ b, b ≠ p → b ∉ ys → H' b = H b) → H' p = some (.lst (ys.map V.ref)) → All2 (fun t (q : PI) => H' t = some (.tup [.int q.a, .int q.b])) ys (srt l) → Q (.ref p) H'
def tSortIt (te : TE) : TE := fun σ H Q => te σ H fun x H1 => rSortIt x H1 Q
theorem pe_sortedItems {e : Expr} {te : TE} {p apos cpos pos : Pos} (hc : X.calm = true) (he : PE X e te) (hg : Gl X "sorted") (hm : X.mg "sorted" = none) (hv : bootBuiltins "sorted" = some (.builtin "sorted")) (hbase : attributeBase e "items" X.env (eval e X.env) = eval e X.env := by rfl) (hline : (apos.endLine == cpos.line) = true := by rfl)
    (hs : starEach [.Call (.Attribute e "items" apos) [] [] cpos] X.env = (false, eval (.Call (.Attribute e "items" apos) [] [] cpos) X.env) :: starEach [] X.env := by rfl) :
    PE X (.Call (.Name "sorted" p) [.Call (.Attribute e "items" apos) [] [] cpos] [] pos) (tSortIt te) := by
  refine ⟨fun pins s σ H Q I hq => ?_⟩
  refine wpAny_Call_Name_kw (ld_blt I hg hm hv ?_)
  refine PyProof.Rows.callWith_builtin1 ?_ hs rfl
  rw [hs]
  show wpAny _ _ (spliced ((false, eval (.Call (.Attribute e "items" apos) [] [] cpos) X.env) :: backTo pos (starEach [] X.env))) _ _ s
  refine Calls.spliced_cons ?_
  refine wpAny_Call_method (T := "dict") (id := "dict.items") hbase rfl hline F.plainAttrs_dict F.slot_dict_items F.type_dict_items (thn (he.run pins s σ H _ I hq) fun u s1 ⟨x, H1, I1, rx, q⟩ => ?_)
  unfold rSortIt at q
  obtain ⟨d, l, rfl, hd, q⟩ := q
  obtain rfl : u = Value.ref d := rx
  obtain ⟨hz, hs0, vs, kv, hdo⟩ := I1.hok d _ hd
  obtain ⟨ep, hat⟩ := hdo.dictAt
  have lk : (dI l).length = vs.length := Paired.length kv
  have ll : (dI l).length = l.length := by unfold dI; rw [List.length_map]
  refine ⟨hdo.typeIs, hdo.mapOf.noDict, ?_⟩
  show wpAny _ _ (callWith cpos (.builtin "dict.items") [.ref d] [] []) _ X.xe s1
  refine method_meetsIn F.slot_dict_items F.entry_dict_items rfl (PySem.evalArgs_none ⟨rfl, hdo.typeIs, F.args_dict_items_1 _, _, meets_dict_items (mixKind X.prog X.w) d hs0, ⟨vs, hdo⟩, ?_⟩)
  refine Calls.spliced_nil ?_
  have I2 : Inv X pins σ H1 { s1 with heap := s1.heap.push { cls := .type "dict_items", data := .fields #[.ref d] } } := I1.kept (t' := s1.toks) fun b ob q => Heap.get?_push_of_some _ q
  have hB : ((H1 d).isSome) = true := by rw [hd]; rfl
  refine Calls.call_function_entry kind_sorted plain_sorted entry_sorted (args_sorted1 _) (by
    unfold Builtin.«sorted»
    refine wpAny_bind (m := checkCount "sorted" 1 1 _) (wpAny_pure (wpAny_bind (PySem.W.kdx_collect (knd := mixKind X.prog X.w) (kvs := vs) (ep := ep) (I1.ok.hd hc) ⟨_, Heap.get?_push_size _ rfl, rfl, rfl⟩ (hat.push _) (by omega) fun h1 tk as hk hl hG => ?_)))
    refine wpAny_bind (wpAny_newList ?_ (by rw [List.length_map, hl]; omega))
    -- the pairs' tuples: at as
    have nd : as.Nodup := hG.rise.imp fun {a b} h => Nat.ne_of_lt h
    have lz : (as.zip l).map (·.1) = as := List.map_fst_zip (by omega)
    have zx : ∀ (j : Nat) (a : Addr), as[j]? = some a → ∃ (q : PI) (t u : Tok), l[j]? = some q ∧ pzAt (as.zip l) a = some q ∧ h1.get? a = some { cls := .type "tuple", data := .seq #[.int q.a t, .int q.b u] } := fun j a h => by
      obtain ⟨key, k, x, e1, e2, e3⟩ := hG.pairs j a h
      have jl : j < l.length := by have := (List.getElem?_eq_some_iff.mp h).1; omega
      have lj : l[j]? = some l[j] := List.getElem?_eq_getElem jl
      obtain ⟨y, e4, e5, e6⟩ := LiI.paired_get kv (dI_get jl)
      rw [e1] at e4
      have e4 := Option.some.inj e4
      subst e4
      obtain ⟨i, tk1, e7, rfl⟩ | ⟨z, tk1, e7, _⟩ := keyIs_shape (show keyIs k key = true from e2)
      · have e5 : Sum.inl l[j].a = k := e5
        rw [e7] at e5
        have e5 := Sum.inl.inj e5
        subst e5
        obtain ⟨tk2, e6⟩ := (show RelV (.int l[j].b) x from e6)
        subst e6
        exact ⟨l[j], tk1, tk2, lj, pzAt_ix (zs := as.zip l) (by rw [lz]; exact nd) (j := j) (z := (a, l[j])) (List.getElem?_zip_eq_some.mpr ⟨h, lj⟩), e3⟩
      · have e5 : Sum.inl l[j].a = k := e5
        rw [e7] at e5
        cases e5
    have zm : ∀ a ∈ as, ∃ (q : PI) (t u : Tok), pzAt (as.zip l) a = some q ∧ h1.get? a = some { cls := .type "tuple", data := .seq #[.int q.a t, .int q.b u] } := fun a m => by
      obtain ⟨j, hj⟩ := List.getElem?_of_mem m
      obtain ⟨q, t, u, _, h2, h3⟩ := zx j a hj
      exact ⟨q, t, u, h2, h3⟩
    have lm : as.map (fun a => (pzAt (as.zip l) a).getD ⟨0, 0⟩) = l := by
      refine List.ext_getElem? fun j => ?_
      rw [List.getElem?_map]
      cases hj : as[j]? with
      | none =>
        have := List.getElem?_eq_none_iff.mp hj
        exact (List.getElem?_eq_none_iff.mpr (by omega)).symm
      | some a =>
        obtain ⟨q, t, u, h1, h2, _⟩ := zx j a hj
        rw [h1, Option.map_some, h2]; rfl
    generalize ezs : as.zip l = zs at zx zm lm lz
    have s12 : (s1.heap.push { cls := .type "dict_items", data := .fields #[.ref d] }).objs.size ≤ h1.objs.size := by
      have := Heap.lt_size (hk _ _ (Heap.get?_push_size s1.heap rfl))
      rw [Heap.size_push]; exact this
    have Bn : h1.objs.size ∉ as := fun z => Nat.lt_irrefl _ (hG.there z)
    let kk : Value → Int × Int := fun v => (((pzAt zs (adOf v)).getD ⟨0, 0⟩).a, ((pzAt zs (adOf v)).getD ⟨0, 0⟩).b)
    have ho : (h1.push { cls := .type "list", data := .seq (as.map Value.ref).toArray }).get? h1.objs.size = some (seqObj "list" (as.map Value.ref).toArray 0) := Heap.get?_push_size _ rfl
    refine wpAny_bind (wpAny_holding (wpAny_call_entry slot_list_sort ⟨_, ho, rfl⟩ entry_list_sort (SrtO.list_sort_ord (ltv := fun v u => SrtO.lexB (kk v) (kk u)) (SrtO.swo_lex kk) ho (by rw [List.length_map, hl]; omega) (fun h2 => ?_) fun out hso hbo => ⟨_, rfl, wpAny_pure ⟨_, rfl, ?_⟩⟩) (args_list_sort _)))
    · refine SrtO.pairs_sortableO (k := kk) (by omega) (fun v m => ?_) fun o e => ?_
      · obtain ⟨a, ma, rfl⟩ := List.mem_map.mp m
        obtain ⟨q, t, u, h1', h2'⟩ := zm a ma
        refine ⟨a, _, t, u, 0, rfl, Heap.get?_push_of_some _ h2', rfl, ?_⟩
        show _ = Data.seq #[.int ((pzAt zs a).getD ⟨0, 0⟩).a t, .int ((pzAt zs a).getD ⟨0, 0⟩).b u] 0
        rw [h1']
        rfl
      · rw [ho] at e
        cases e
        intro c
        exact absurd (Value.type.inj c) (by decide)
    · have outp : out.Perm (as.map Value.ref) := hbo.perm
      have oe : out = (out.map adOf).map Value.ref := by
        rw [List.map_map]
        refine (List.map_id out).symm.trans (List.map_congr_left fun v m => ?_)
        obtain ⟨a, _, rfl⟩ := List.mem_map.mp (outp.mem_iff.mp m)
        rfl
      have yp : (out.map adOf).Perm as := by
        have := outp.map adOf
        rw [List.map_map] at this
        have e : as.map (adOf ∘ Value.ref) = as := (List.map_congr_left fun a _ => rfl).trans (List.map_id as)
        rw [e] at this; exact this
      generalize out.map adOf = ys at oe yp
      have lo : out.length ≤ sizeLine := by rw [oe, List.length_map, yp.length_eq, hl]; omega
      obtain ⟨ep3, h3B⟩ := sortedHeap_at (vs := as.map Value.ref) (out := out.toArray) ho
      have h3o : ∀ b o, h1.get? b = some o → (sortedHeap (h1.push { cls := .type "list", data := .seq (as.map Value.ref).toArray }) h1.objs.size (as.map Value.ref) out.toArray).get? b = some o := fun b o e => by
        have bl := Heap.lt_size e
        rw [sortedHeap_old (Nat.ne_of_lt bl) (by rw [Heap.size_push]; exact Nat.lt_succ_of_lt bl)]
        exact Heap.get?_push_of_some _ e
      have tB : trk H1 h1.objs.size (.lst (ys.map V.ref)) zs h1.objs.size = some (.lst (ys.map V.ref)) := by unfold trk; rw [if_pos rfl]
      have tT : ∀ a ∈ as, ∀ q, pzAt zs a = some q → trk H1 h1.objs.size (.lst (ys.map V.ref)) zs a = some (.tup [.int q.a, .int q.b]) := fun a m q e => by
        unfold trk
        rw [if_neg (fun z => Bn (by rw [← z]; exact m)), e]
      have tO : ∀ b, b ≠ h1.objs.size → b ∉ as → trk H1 h1.objs.size (.lst (ys.map V.ref)) zs b = H1 b := fun b n m => by
        unfold trk
        rw [if_neg n, pzAt_no (by rw [lz]; exact m)]
      have big : ∀ a ∈ h1.objs.size :: as, (s1.heap.push { cls := .type "dict_items", data := .fields #[.ref d] }).objs.size ≤ a := fun a m => by
        rcases List.mem_cons.mp m with rfl | m
        · exact s12
        · exact Nat.le_of_lt (hG.above a m)
      have J := inv_many (tk := tk) (H' := trk H1 h1.objs.size (.lst (ys.map V.ref)) zs) (h' := sortedHeap (h1.push { cls := .type "list", data := .seq (as.map Value.ref).toArray }) h1.objs.size (as.map Value.ref) out.toArray) (as := h1.objs.size :: as) I2 (fun b o e => h3o b o (hk b o e)) big
          (fun b m => tO b (fun z => m (by rw [z]; exact List.mem_cons_self)) (fun z => m (List.mem_cons_of_mem _ z))) (fun b m o e => by
        by_cases hb : b = h1.objs.size
        · subst hb
          rw [tB] at e
          cases e
          refine ⟨by rw [List.length_map, yp.length_eq, hl]; omega, out, ep3, ?_, h3B⟩
          rw [oe]
          exact LiI.vals_refs ys
        · have m := (List.mem_cons.mp m).resolve_left hb
          obtain ⟨q, t, u, e1, e2⟩ := zm b m
          rw [tT b m q e1] at e
          cases e
          exact ⟨two_le, [.int q.a t, .int q.b u], .cons ⟨_, rfl⟩ (.cons ⟨_, rfl⟩ .nil), ⟨_, h3o b _ e2, rfl, _, rfl⟩⟩)
      have fr1 : ∀ a ∈ h1.objs.size :: as, H1 a = none := fun a m => I2.hok.fresh (big a m)
      have ym : ∀ a, a ∈ ys ↔ a ∈ as := fun a => yp.mem_iff
      refine ⟨.ref h1.objs.size, _, J, rfl, q _ _ ys (fun b o e => ?_) (fr1 _ List.mem_cons_self) (fun t m => fr1 t (List.mem_cons_of_mem _ ((ym t).mp m))) (fun z => Bn ((ym _).mp z)) (fun b n m => tO b n fun z => m ((ym b).mpr z)) tB ?_⟩
      · rw [tO b (fun z => by rw [z, fr1 _ List.mem_cons_self] at e; cases e) (fun z => by rw [fr1 b (List.mem_cons_of_mem _ z)] at e; cases e)]
        exact e
      · have es : ys.map (fun a => (pzAt zs a).getD ⟨0, 0⟩) = srt l := by
          refine srt_of ?_ (by rw [← lm]; exact yp.map _)
          rw [oe] at hso
          have hso := List.pairwise_map.mp hso
          refine List.pairwise_map.mpr (hso.imp fun {x y} h => ?_)
          have h := SrtO.lexB_no.mp h
          exact leP_iff.mpr (by simp only [kk, adOf] at h; omega)
        rw [← es]
        refine ⟨by rw [List.length_map], fun i x y h1 h2 => ?_⟩
        rw [List.getElem?_map, h1] at h2
        cases h2
        have m := (ym x).mp (List.mem_of_getElem? h1)
        obtain ⟨q, t, u, e1, e2⟩ := zm x m
        rw [tT x m q e1]
        show _ = some (HO.tup [V.int ((pzAt zs x).getD ⟨0, 0⟩).a, V.int ((pzAt zs x).getD ⟨0, 0⟩).b])
        rw [e1]
        rfl)
theorem sitems {F H : Hp} {d : Addr} {l : List PI} {Q : VK} (sF : Same F H) (hd : H d = some (.dK (dI l))) (q : ∀ (F' H' : Hp) (p : Addr) (xs : List V), Gr mu0 F H F' H' → Ow H F' H' p (.lst xs) → IsAll F' xs (srt l) → Q (.ref p) H') : rSortIt (.ref d) H Q := by
  unfold rSortIt
  refine ⟨d, l, rfl, hd, fun H' p ys s n nt pn off hp al => ?_⟩
  have fy : ∀ b ∈ ys, F b = none := fun b m => sF.free (nt b m)
  have s' : Same F (fun b => if b ∈ ys then H' b else F b) := fun b o e => by
    by_cases m : b ∈ ys
    · rw [fy b m] at e; cases e
    · simp only [m, if_false]; exact e
  have e2 : ∀ b, b ∈ ys → (if b ∈ ys then H' b else F b) = H' b := fun b m => if_pos m
  refine q (fun b => if b ∈ ys then H' b else F b) H' p (ys.map V.ref) ⟨s', fun b o e => ?_, fun b o e => ?_, fun b o e _ => s b o e, fun b e => s.free e⟩ ⟨n, ?_, hp⟩ ⟨by rw [List.length_map]; exact al.1, fun i x y h1 h2 => ?_⟩
  · by_cases m : b ∈ ys
    · simp only [m, if_true] at e; exact e
    · simp only [m, if_false] at e; exact s b o (sF b o e)
  · by_cases m : b ∈ ys
    · exact .inr (nt b m)
    · simp only [m, if_false] at e; exact .inl e
  · show (if p ∈ ys then H' p else F p) = none
    rw [if_neg pn]; exact sF.free n
  · rw [List.getElem?_map] at h1
    cases e : ys[i]? with
    | none => rw [e] at h1; cases h1
    | some t =>
      rw [e] at h1
      cases h1
      refine ⟨t, _, _, rfl, ?_, rfl, rfl⟩
      show (if t ∈ ys then H' t else F t) = _
      rw [if_pos (List.mem_of_getElem? e)]
      exact al.2 i t y e h2
end
/-! ### sum of a tuple; a tuple not at all or once -/
section
open PySem.Spec PyProof.Rows
variable {X : Cx}
def rSumT (K : PySem.W.Frag) : List V → Hp → VK → Prop := fun vs H Q => ∃ (a : Addr) (ns : List Int), vs = [V.ref a] ∧ SqT K H a (ns.map V.int) ∧ Q (.int ns.sum) H
theorem cr_sumT (hc : X.calm = true) : CallR X (.builtin "sum") (rSumT X.K) := by
  intro pins s σ H vs us Q I r h
  obtain ⟨a, ns, rfl, ht, q⟩ := h
  obtain ⟨its, rv, ⟨o, ho, hcl, n, hd⟩, _⟩ := I.tuple ht
  have hi := rv.ints
  obtain ⟨xs, e⟩ := hi.allInts.items
  have hn : numsOf (intItems xs).toList = ns := by rw [← e]; exact hi.numsOf
  rw [nums_intItems] at hn
  rw [e] at hd
  rw [Vals.ref1 r]
  refine PySem.W.ktm_sumG (I.ok.hd hc) ⟨o, ho, hcl, n, hd⟩ fun h' tk t' hk => ?_
  rw [preSum_eq, List.take_of_length_le (by simp), hn]
  exact ⟨.int _, H, I.kept hk, ⟨_, rfl⟩, q⟩
theorem tup_mul1 (l : Addr) (items : Array Value) (n : Nat) (dd : Option Addr) (sl : Array (Option Value)) (u : Tok) (hne : items.isEmpty = false) :
    Meets (Builtin.«tuple.__mul__» ⟨[.ref l, .int 1 u], []⟩) (fun _ R s => s.heap.get? l = some { cls := .type "tuple", dict := dd, data := .seq items n, slots := sl } ∧ R (.ok (.ret (Value.ref l))) s) :=
  .of_wp fun prog w A R s h => by
    obtain ⟨hp, g, d, tk, os⟩ := s
    obtain ⟨hl, h⟩ := h
    have f1 := AutoSeq1.idx_int
    wp_walk using wpAny_loadPart' hl
    exact ⟨_, rfl, h⟩
theorem tup_mul0 (l : Addr) (items : Array Value) (n : Nat) (dd : Option Addr) (sl : Array (Option Value)) (u : Tok) (hne : items.isEmpty = false) :
    Meets (Builtin.«tuple.__mul__» ⟨[.ref l, .int 0 u], []⟩) (fun _ R s => s.heap.get? l = some { cls := .type "tuple", dict := dd, data := .seq items n, slots := sl } ∧
      R (.ok (.ret (Value.ref s.heap.objs.size))) { s with heap := s.heap.push { cls := Value.type "tuple", data := Data.seq #[] }, toks := s.toks }) :=
  .of_wp fun prog w A R s h => by
    obtain ⟨hp, g, d, tk, os⟩ := s
    obtain ⟨hl, h⟩ := h
    have f1 := AutoSeq1.idx_int
    wp_walk using wpAny_loadPart' hl
    exact ⟨_, rfl, h⟩
def rRep01 (K : PySem.W.Frag) : R2 := fun x y H Q => ∃ l k xs, x = .ref l ∧ y = .int k ∧ SqT K H l xs ∧ xs ≠ [] ∧ ((k = 1 ∧ Q (.ref l) H) ∨ (k = 0 ∧ ∀ p, H p = none → Q (.ref p) (upd H p (.tup []))))
theorem op_rep01 : OpR X (binaryOp .Mult) (rRep01 X.K) := by
  intro pins s σ H x y v u Q I rx ry h
  obtain ⟨l, k, xs, rfl, rfl, hT, hne, h⟩ := h
  cases rx
  obtain ⟨tk, rfl⟩ := ry
  obtain ⟨its, r, ⟨⟨cls, dd, data, sl⟩, ho, hc, n, hd⟩, hs⟩ := I.tuple hT
  simp only at hc hd
  subst hc hd
  have hi : its.toArray.isEmpty = false := by
    cases its with
    | nil => have := r.length; exact absurd (List.eq_nil_of_length_eq_zero this) hne
    | cons a b => rfl
  rcases h with ⟨rfl, q⟩ | ⟨rfl, q⟩
  · refine wpAny_binaryOp_repeat_ref (T := "tuple") (U := "int") (by decide) ⟨_, ho, rfl⟩ (fun s' => typeIs_int s' 1 tk) noFill_tuple_mul F.fills_int_mul F.slot_int_rmul repeat_tuple F.slot_int_index.lookup
      (call_meets F.slot_int_rmul (typeIs_int s 1 tk) F.entry_int_rmul (F.args_int_rmul_2 _ _) (int_rmul_tuple 1 tk l its.toArray n dd sl)
        ⟨ho, rfl, ⟨_, ho, rfl⟩, call_meets F.slot_tuple_mul ⟨_, ho, rfl⟩ F.entry_tuple_mul (F.args_tuple_mul_2 _ _) (tup_mul1 l its.toArray n dd sl tk hi) ⟨ho, ?_⟩⟩)
    exact ⟨.ref l, H, I, rfl, q⟩
  · refine wpAny_binaryOp_repeat_ref (T := "tuple") (U := "int") (by decide) ⟨_, ho, rfl⟩ (fun s' => typeIs_int s' 0 tk) noFill_tuple_mul F.fills_int_mul F.slot_int_rmul repeat_tuple F.slot_int_index.lookup
      (call_meets F.slot_int_rmul (typeIs_int s 0 tk) F.entry_int_rmul (F.args_int_rmul_2 _ _) (int_rmul_tuple 0 tk l its.toArray n dd sl)
        ⟨ho, rfl, ⟨_, ho, rfl⟩, call_meets F.slot_tuple_mul ⟨_, ho, rfl⟩ F.entry_tuple_mul (F.args_tuple_mul_2 _ _) (tup_mul0 l its.toArray n dd sl tk hi) ⟨ho, ?_⟩⟩)
    refine ⟨.ref s.heap.objs.size, _, I.laid (t' := s.toks) (o := .tup []) (fun b ob q => Heap.get?_push_of_some _ q) (Nat.le_refl _) ?_, rfl, q _ (I.hok.fresh (Nat.le_refl _))⟩
    exact ⟨nil_le, _, .nil, IsTup.new _ _⟩
end
/-! slices of tuples, +: the ways -/
@[irreducible] def rSlQ (K : PySem.W.Frag) : V → Option Int → Option Int → Hp → VK → Prop := rSlA K
theorem sl_tupQ {X : Cx} : SlR X (rSlQ X.K) := by
  unfold rSlQ
  exact sl_tupA
@[irreducible] def rCatQ (K : PySem.W.Frag) : R2 := rCatA K
theorem op_catQ {X : Cx} : OpR X (binaryOp .Add) (rCatQ X.K) := by
  unfold rCatQ
  exact op_catA
theorem slA_all {K : PySem.W.Frag} {H : Hp} {a : Addr} {xs : List V} {lo hi : Option Int} {Q : VK} (h : SqT K H a xs) (w : HT.sIx xs.length 0 lo = 0 ∧ HT.sIx xs.length xs.length hi = xs.length) (q : Q (.ref a) H) : rSlQ K (.ref a) lo hi H Q := by
  unfold rSlQ
  exact ⟨a, xs, rfl, h, fun _ => q, fun n => absurd w n⟩
theorem slA_cut {K : PySem.W.Frag} {H : Hp} {a : Addr} {xs : List V} {lo hi : Option Int} {Q : VK} (h : SqT K H a xs) (w : ¬ (HT.sIx xs.length 0 lo = 0 ∧ HT.sIx xs.length xs.length hi = xs.length)) (q : ∀ p, H p = none → Q (.ref p) (upd H p (.tup (cutV xs lo hi)))) : rSlQ K (.ref a) lo hi H Q := by
  unfold rSlQ
  exact ⟨a, xs, rfl, h, fun n => absurd n w, fun _ => q⟩
theorem catA_nil {K : PySem.W.Frag} {H : Hp} {a b : Addr} {ys : List V} {Q : VK} (h : SqT K H a []) (h2 : SqT K H b ys) (l : ys.length ≤ sizeLine) (q : Q (.ref b) H) : rCatQ K (.ref a) (.ref b) H Q := by
  unfold rCatQ
  exact ⟨a, b, [], ys, rfl, rfl, h, h2, by simpa using l, fun _ => q, fun n => absurd rfl n, fun n => absurd rfl n⟩
theorem catA_new {K : PySem.W.Frag} {H : Hp} {a b : Addr} {xs ys : List V} {Q : VK} (h : SqT K H a xs) (h2 : SqT K H b ys) (l : xs.length + ys.length ≤ sizeLine) (n1 : xs ≠ []) (n2 : ys ≠ []) (q : ∀ p, H p = none → Q (.ref p) (upd H p (.tup (xs ++ ys)))) : rCatQ K (.ref a) (.ref b) H Q := by
  unfold rCatQ
  exact ⟨a, b, xs, ys, rfl, rfl, h, h2, l, fun e => absurd e n1, fun _ e => absurd e n2, fun _ _ => q⟩
def top (i : Nat) : Stmt := PySem.Challenge.pw_endnever_k75_whole_strides_and_steps.main.body.getD i (.Pass ⟨0, 0, 0, 0⟩)
abbrev s_L_at : Stmt := top 21
abbrev N_L_at : List Str := ["_law_script", "_law_k"]
theorem sc_L_at : FnScope ["_law_script", "_law_k"] ["_law_script", "_law_k"] (defScope s_L_at) := ⟨rfl, rfl, rfl, by decide +kernel, rfl, by decide +kernel, by decide +kernel⟩
abbrev s_L_purse : Stmt := top 23
abbrev N_L_purse : List Str := ["_law_script", "_law_at_here", "_law_cell"]
theorem sc_L_purse : FnScope ["_law_script", "_law_at_here", "_law_cell"] ["_law_script", "_law_at_here"] (defScope s_L_purse) := ⟨rfl, rfl, rfl, by decide +kernel, rfl, by decide +kernel, by decide +kernel⟩
abbrev s_L_mixed : Stmt := top 22
abbrev N_L_mixed : List Str := ["_law_cell", "_law_k", "_law_number"]
theorem sc_L_mixed : FnScope ["_law_cell", "_law_k", "_law_number"] ["_law_cell", "_law_k"] (defScope s_L_mixed) := ⟨rfl, rfl, rfl, by decide +kernel, rfl, by decide +kernel, by decide +kernel⟩
abbrev s_L_draw : Stmt := top 24
abbrev N_L_draw : List Str := ["_law_purse_here", "_law_out_of", "_law_drawn", "_law_number"]
theorem sc_L_draw : FnScope ["_law_purse_here", "_law_out_of", "_law_drawn", "_law_number"] ["_law_purse_here", "_law_out_of"] (defScope s_L_draw) := ⟨rfl, rfl, rfl, by decide +kernel, rfl, by decide +kernel, by decide +kernel⟩
abbrev s_L_entry : Stmt := top 25
abbrev N_L_entry : List Str := ["_law_purse_here", "_law_rows", "_law_signs", "_law_row", "_law_few", "_law_put", "_law_way", "_law_to"]
theorem sc_L_entry : FnScope ["_law_purse_here", "_law_rows", "_law_signs", "_law_row", "_law_few", "_law_put", "_law_way", "_law_to"] ["_law_purse_here", "_law_rows", "_law_signs", "_law_row", "_law_few"] (defScope s_L_entry) := ⟨rfl, rfl, rfl, by decide +kernel, rfl, by decide +kernel, by decide +kernel⟩
abbrev s_L_machine : Stmt := top 26
abbrev N_L_machine : List Str := ["_law_purse_here", "_law_rows", "_law_signs", "_law_few", "_law_sign", "_law_row"]
theorem sc_L_machine : FnScope ["_law_purse_here", "_law_rows", "_law_signs", "_law_few", "_law_sign", "_law_row"] ["_law_purse_here"] (defScope s_L_machine) := ⟨rfl, rfl, rfl, by decide +kernel, rfl, by decide +kernel, by decide +kernel⟩
abbrev s_L_side : Stmt := top 28
abbrev N_L_side : List Str := ["_law_purse_here", "_law_signs", "_law_near_first", "_law_found", "_law_last", "_law_k", "_law_sign", "_law_many"]
theorem sc_L_side : FnScope ["_law_purse_here", "_law_signs", "_law_near_first", "_law_found", "_law_last", "_law_k", "_law_sign", "_law_many"] ["_law_purse_here", "_law_signs", "_law_near_first"] (defScope s_L_side) := ⟨rfl, rfl, rfl, by decide +kernel, rfl, by decide +kernel, by decide +kernel⟩
abbrev s_L_runs : Stmt := top 29
abbrev N_L_runs : List Str := ["_law_purse_here", "_law_signs", "_law_left"]
theorem sc_L_runs : FnScope ["_law_purse_here", "_law_signs", "_law_left"] ["_law_purse_here", "_law_signs"] (defScope s_L_runs) := ⟨rfl, rfl, rfl, by decide +kernel, rfl, by decide +kernel, by decide +kernel⟩
abbrev s_is_entry : Stmt := top 6
abbrev N_is_entry : List Str := ["entry", "rows", "signs"]
theorem sc_is_entry : FnScope ["entry", "rows", "signs"] ["entry", "rows", "signs"] (defScope s_is_entry) := ⟨rfl, rfl, rfl, by decide +kernel, rfl, by decide +kernel, by decide +kernel⟩
abbrev s_is_machine : Stmt := top 7
abbrev N_is_machine : List Str := ["machine", "rows", "signs", "row", "entry"]
theorem sc_is_machine : FnScope ["machine", "rows", "signs", "row", "entry"] ["machine"] (defScope s_is_machine) := ⟨rfl, rfl, rfl, by decide +kernel, rfl, by decide +kernel, by decide +kernel⟩
abbrev s_must_machine : Stmt := top 8
abbrev N_must_machine : List Str := ["machine"]
theorem sc_must_machine : FnScope ["machine"] ["machine"] (defScope s_must_machine) := ⟨rfl, rfl, rfl, by decide +kernel, rfl, by decide +kernel, by decide +kernel⟩
abbrev s_Goer_init : Stmt := inClass (top 10) 0
abbrev N_Goer_init : List Str := ["self", "machine", "setup"]
theorem sc_Goer_init : FnScope ["self", "machine", "setup"] ["self", "machine", "setup"] (defScope s_Goer_init) := ⟨rfl, rfl, rfl, by decide +kernel, rfl, by decide +kernel, by decide +kernel⟩
abbrev s_Goer_entry : Stmt := inClass (top 10) 1
abbrev N_Goer_entry : List Str := ["self"]
theorem sc_Goer_entry : FnScope ["self"] ["self"] (defScope s_Goer_entry) := ⟨rfl, rfl, rfl, by decide +kernel, rfl, by decide +kernel, by decide +kernel⟩
abbrev s_Goer_step : Stmt := inClass (top 10) 2
abbrev N_Goer_step : List Str := ["self", "entry"]
theorem sc_Goer_step : FnScope ["self", "entry"] ["self"] (defScope s_Goer_step) := ⟨rfl, rfl, rfl, by decide +kernel, rfl, by decide +kernel, by decide +kernel⟩
abbrev s_put_run : Stmt := top 12
abbrev N_put_run : List Str := ["runs", "sign", "many"]
theorem sc_put_run : FnScope ["runs", "sign", "many"] ["runs", "sign", "many"] (defScope s_put_run) := ⟨rfl, rfl, rfl, by decide +kernel, rfl, by decide +kernel, by decide +kernel⟩
abbrev s_taken : Stmt := top 13
abbrev N_taken : List Str := ["runs", "sign", "many"]
theorem sc_taken : FnScope ["runs", "sign", "many"] ["runs"] (defScope s_taken) := ⟨rfl, rfl, rfl, by decide +kernel, rfl, by decide +kernel, by decide +kernel⟩
abbrev s_Strip_step : Stmt := inClass (top 14) 3
abbrev N_Strip_step : List Str := ["self", "put", "way", "row"]
theorem sc_Strip_step : FnScope ["self", "put", "way", "row"] ["self", "put", "way", "row"] (defScope s_Strip_step) := ⟨rfl, rfl, rfl, by decide +kernel, rfl, by decide +kernel, by decide +kernel⟩
abbrev s_gone : Stmt := top 18
abbrev N_gone : List Str := ["machine", "most", "walk", "going"]
theorem sc_gone : FnScope ["machine", "most", "walk", "going"] ["machine", "most"] (defScope s_gone) := ⟨rfl, rfl, rfl, by decide +kernel, rfl, by decide +kernel, by decide +kernel⟩
abbrev s_told_strip : Stmt := top 9
abbrev N_told_strip : List Str := ["signs", "place", "sign"]
theorem sc_told_strip : FnScope ["signs", "place", "sign"] ["signs"] (defScope s_told_strip) := ⟨rfl, rfl, rfl, by decide +kernel, rfl, by decide +kernel, by decide +kernel⟩
abbrev s_Goer_setup : Stmt := inClass (top 10) 3
abbrev N_Goer_setup : List Str := ["self"]
theorem sc_Goer_setup : FnScope ["self"] ["self"] (defScope s_Goer_setup) := ⟨rfl, rfl, rfl, by decide +kernel, rfl, by decide +kernel, by decide +kernel⟩
abbrev s_run : Stmt := top 19
abbrev N_run : List Str := ["machine", "most", "walk", "ended"]
theorem sc_run : FnScope ["machine", "most", "walk", "ended"] ["machine", "most"] (defScope s_run) := ⟨rfl, rfl, rfl, by decide +kernel, rfl, by decide +kernel, by decide +kernel⟩
abbrev s_runs_of : Stmt := top 16
abbrev N_runs_of : List Str := ["strip", "place", "signs", "left", "right", "k"]
theorem sc_runs_of : FnScope ["strip", "place", "signs", "left", "right", "k"] ["strip", "place"] (defScope s_runs_of) := ⟨rfl, rfl, rfl, by decide +kernel, rfl, by decide +kernel, by decide +kernel⟩
abbrev s_L_so : Stmt := top 31
abbrev N_L_so : List Str := ["_law_machine_here", "_law_told", "_law_word", "_law_steps", "_law_row", "_law_runs_here", "_law_found"]
theorem sc_L_so : FnScope ["_law_machine_here", "_law_told", "_law_word", "_law_steps", "_law_row", "_law_runs_here", "_law_found"] ["_law_machine_here", "_law_told"] (defScope s_L_so) := ⟨rfl, rfl, rfl, by decide +kernel, rfl, by decide +kernel, by decide +kernel⟩
abbrev s_Strip_init : Stmt := inClass (top 14) 0
abbrev N_Strip_init : List Str := ["self", "row", "runs", "left", "sign", "right"]
theorem sc_Strip_init : FnScope ["self", "row", "runs", "left", "sign", "right"] ["self", "row", "runs"] (defScope s_Strip_init) := ⟨rfl, rfl, rfl, by decide +kernel, rfl, by decide +kernel, by decide +kernel⟩
abbrev s_Strip_told : Stmt := inClass (top 14) 1
abbrev N_Strip_told : List Str := ["self"]
theorem sc_Strip_told : FnScope ["self"] ["self"] (defScope s_Strip_told) := ⟨rfl, rfl, rfl, by decide +kernel, rfl, by decide +kernel, by decide +kernel⟩
abbrev s_Strip_stride : Stmt := inClass (top 14) 2
abbrev N_Strip_stride : List Str := ["self", "put", "way", "ahead", "many"]
theorem sc_Strip_stride : FnScope ["self", "put", "way", "ahead", "many"] ["self", "put", "way"] (defScope s_Strip_stride) := ⟨rfl, rfl, rfl, by decide +kernel, rfl, by decide +kernel, by decide +kernel⟩
abbrev s_by_strides : Stmt := top 15
abbrev N_by_strides : List Str := ["machine", "row", "runs", "many", "strip", "turn", "entry", "put", "way", "goes"]
theorem sc_by_strides : FnScope ["machine", "row", "runs", "many", "strip", "turn", "entry", "put", "way", "goes"] ["machine", "row", "runs", "many"] (defScope s_by_strides) := ⟨rfl, rfl, rfl, by decide +kernel, rfl, by decide +kernel, by decide +kernel⟩
abbrev s_L_copied : Stmt := top 30
abbrev N_L_copied : List Str := ["_law_runs_here"]
theorem sc_L_copied : FnScope ["_law_runs_here"] ["_law_runs_here"] (defScope s_L_copied) := ⟨rfl, rfl, rfl, by decide +kernel, rfl, by decide +kernel, by decide +kernel⟩
abbrev s_L_parted : Stmt := top 32
abbrev N_L_parted : List Str := ["_law_machine_here", "_law_row", "_law_runs_here", "_law_first", "_law_many", "_law_word", "_law_steps", "_law_there", "_law_behind", "_law_whole", "_law_more"]
theorem sc_L_parted : FnScope ["_law_machine_here", "_law_row", "_law_runs_here", "_law_first", "_law_many", "_law_word", "_law_steps", "_law_there", "_law_behind", "_law_whole", "_law_more"] ["_law_machine_here", "_law_row", "_law_runs_here", "_law_first", "_law_many"] (defScope s_L_parted) := ⟨rfl, rfl, rfl, by decide +kernel, rfl, by decide +kernel, by decide +kernel⟩
abbrev s_law : Stmt := top 33
abbrev N_law : List Str := ["_law_script", "_law_cell", "_law_purse_here", "_law_machine_here", "_law_many", "_law_turn", "_law_row", "_law_runs_here"]
theorem sc_law : FnScope ["_law_script", "_law_cell", "_law_purse_here", "_law_machine_here", "_law_many", "_law_turn", "_law_row", "_law_runs_here"] ["_law_script"] (defScope s_law) := ⟨rfl, rfl, rfl, by decide +kernel, rfl, by decide +kernel, by decide +kernel⟩
/-- what the top has written: where each def stands, what the names hold -/
structure Tx (K : PySem.W.Frag) (mg : Str → Option Value) where
  a_L_at : Addr
  fd_L_at : FuncData
  F_L_at : Fun K "_law_at" "_law_at" s_L_at a_L_at fd_L_at
  b_L_at : Binds K fd_L_at ["_law_script", "_law_k"] []
  m_L_at : mg "_law_at" = some (.ref a_L_at)
  a_L_purse : Addr
  fd_L_purse : FuncData
  F_L_purse : Fun K "_law_purse" "_law_purse" s_L_purse a_L_purse fd_L_purse
  b_L_purse : Binds K fd_L_purse ["_law_script", "_law_at_here"] []
  m_L_purse : mg "_law_purse" = some (.ref a_L_purse)
  a_L_mixed : Addr
  fd_L_mixed : FuncData
  F_L_mixed : Fun K "_law_mixed" "_law_mixed" s_L_mixed a_L_mixed fd_L_mixed
  b_L_mixed : Binds K fd_L_mixed ["_law_cell", "_law_k"] []
  m_L_mixed : mg "_law_mixed" = some (.ref a_L_mixed)
  a_L_draw : Addr
  fd_L_draw : FuncData
  F_L_draw : Fun K "_law_draw" "_law_draw" s_L_draw a_L_draw fd_L_draw
  b_L_draw : Binds K fd_L_draw ["_law_purse_here", "_law_out_of"] []
  m_L_draw : mg "_law_draw" = some (.ref a_L_draw)
  a_L_entry : Addr
  fd_L_entry : FuncData
  F_L_entry : Fun K "_law_entry" "_law_entry" s_L_entry a_L_entry fd_L_entry
  b_L_entry : Binds K fd_L_entry ["_law_purse_here", "_law_rows", "_law_signs", "_law_row", "_law_few"] []
  m_L_entry : mg "_law_entry" = some (.ref a_L_entry)
  a_L_machine : Addr
  fd_L_machine : FuncData
  F_L_machine : Fun K "_law_machine" "_law_machine" s_L_machine a_L_machine fd_L_machine
  b_L_machine : Binds K fd_L_machine ["_law_purse_here"] []
  m_L_machine : mg "_law_machine" = some (.ref a_L_machine)
  a_L_side : Addr
  fd_L_side : FuncData
  F_L_side : Fun K "_law_side" "_law_side" s_L_side a_L_side fd_L_side
  b_L_side : Binds K fd_L_side ["_law_purse_here", "_law_signs", "_law_near_first"] []
  m_L_side : mg "_law_side" = some (.ref a_L_side)
  a_L_runs : Addr
  fd_L_runs : FuncData
  F_L_runs : Fun K "_law_runs" "_law_runs" s_L_runs a_L_runs fd_L_runs
  b_L_runs : Binds K fd_L_runs ["_law_purse_here", "_law_signs"] []
  m_L_runs : mg "_law_runs" = some (.ref a_L_runs)
  a_is_entry : Addr
  fd_is_entry : FuncData
  F_is_entry : Fun K "is_entry" "is_entry" s_is_entry a_is_entry fd_is_entry
  b_is_entry : Binds K fd_is_entry ["entry", "rows", "signs"] []
  m_is_entry : mg "is_entry" = some (.ref a_is_entry)
  a_is_machine : Addr
  fd_is_machine : FuncData
  F_is_machine : Fun K "is_machine" "is_machine" s_is_machine a_is_machine fd_is_machine
  b_is_machine : Binds K fd_is_machine ["machine"] []
  m_is_machine : mg "is_machine" = some (.ref a_is_machine)
  a_must_machine : Addr
  fd_must_machine : FuncData
  F_must_machine : Fun K "must_machine" "must_machine" s_must_machine a_must_machine fd_must_machine
  b_must_machine : Binds K fd_must_machine ["machine"] []
  m_must_machine : mg "must_machine" = some (.ref a_must_machine)
  a_Goer_init : Addr
  fd_Goer_init : FuncData
  F_Goer_init : Fun K "__init__" "Goer.__init__" s_Goer_init a_Goer_init fd_Goer_init
  b_Goer_init : Binds K fd_Goer_init ["self", "machine", "setup"] []
  a_Goer_entry : Addr
  fd_Goer_entry : FuncData
  F_Goer_entry : Fun K "entry" "Goer.entry" s_Goer_entry a_Goer_entry fd_Goer_entry
  b_Goer_entry : Binds K fd_Goer_entry ["self"] []
  a_Goer_step : Addr
  fd_Goer_step : FuncData
  F_Goer_step : Fun K "step" "Goer.step" s_Goer_step a_Goer_step fd_Goer_step
  b_Goer_step : Binds K fd_Goer_step ["self"] []
  a_put_run : Addr
  fd_put_run : FuncData
  F_put_run : Fun K "put_run" "put_run" s_put_run a_put_run fd_put_run
  b_put_run : Binds K fd_put_run ["runs", "sign", "many"] []
  m_put_run : mg "put_run" = some (.ref a_put_run)
  a_taken : Addr
  fd_taken : FuncData
  F_taken : Fun K "taken" "taken" s_taken a_taken fd_taken
  b_taken : Binds K fd_taken ["runs"] []
  m_taken : mg "taken" = some (.ref a_taken)
  a_Strip_step : Addr
  fd_Strip_step : FuncData
  F_Strip_step : Fun K "step" "Strip.step" s_Strip_step a_Strip_step fd_Strip_step
  b_Strip_step : Binds K fd_Strip_step ["self", "put", "way", "row"] []
  a_gone : Addr
  fd_gone : FuncData
  F_gone : Fun K "gone" "gone" s_gone a_gone fd_gone
  b_gone : Binds K fd_gone ["machine", "most"] []
  m_gone : mg "gone" = some (.ref a_gone)
  a_told_strip : Addr
  fd_told_strip : FuncData
  F_told_strip : Fun K "told_strip" "told_strip" s_told_strip a_told_strip fd_told_strip
  b_told_strip : Binds K fd_told_strip ["signs"] []
  m_told_strip : mg "told_strip" = some (.ref a_told_strip)
  a_Goer_setup : Addr
  fd_Goer_setup : FuncData
  F_Goer_setup : Fun K "setup" "Goer.setup" s_Goer_setup a_Goer_setup fd_Goer_setup
  b_Goer_setup : Binds K fd_Goer_setup ["self"] []
  a_run : Addr
  fd_run : FuncData
  F_run : Fun K "run" "run" s_run a_run fd_run
  b_run : Binds K fd_run ["machine", "most"] []
  m_run : mg "run" = some (.ref a_run)
  a_runs_of : Addr
  fd_runs_of : FuncData
  F_runs_of : Fun K "runs_of" "runs_of" s_runs_of a_runs_of fd_runs_of
  b_runs_of : Binds K fd_runs_of ["strip", "place"] []
  m_runs_of : mg "runs_of" = some (.ref a_runs_of)
  a_L_so : Addr
  fd_L_so : FuncData
  F_L_so : Fun K "_law_so" "_law_so" s_L_so a_L_so fd_L_so
  b_L_so : Binds K fd_L_so ["_law_machine_here", "_law_told"] []
  m_L_so : mg "_law_so" = some (.ref a_L_so)
  a_Strip_init : Addr
  fd_Strip_init : FuncData
  F_Strip_init : Fun K "__init__" "Strip.__init__" s_Strip_init a_Strip_init fd_Strip_init
  b_Strip_init : Binds K fd_Strip_init ["self", "row", "runs"] []
  a_Strip_told : Addr
  fd_Strip_told : FuncData
  F_Strip_told : Fun K "told" "Strip.told" s_Strip_told a_Strip_told fd_Strip_told
  b_Strip_told : Binds K fd_Strip_told ["self"] []
  a_Strip_stride : Addr
  fd_Strip_stride : FuncData
  F_Strip_stride : Fun K "stride" "Strip.stride" s_Strip_stride a_Strip_stride fd_Strip_stride
  b_Strip_stride : Binds K fd_Strip_stride ["self", "put", "way"] []
  a_by_strides : Addr
  fd_by_strides : FuncData
  F_by_strides : Fun K "by_strides" "by_strides" s_by_strides a_by_strides fd_by_strides
  b_by_strides : Binds K fd_by_strides ["machine", "row", "runs", "many"] []
  m_by_strides : mg "by_strides" = some (.ref a_by_strides)
  a_L_copied : Addr
  fd_L_copied : FuncData
  F_L_copied : Fun K "_law_copied" "_law_copied" s_L_copied a_L_copied fd_L_copied
  b_L_copied : Binds K fd_L_copied ["_law_runs_here"] []
  m_L_copied : mg "_law_copied" = some (.ref a_L_copied)
  a_L_parted : Addr
  fd_L_parted : FuncData
  F_L_parted : Fun K "_law_parted" "_law_parted" s_L_parted a_L_parted fd_L_parted
  b_L_parted : Binds K fd_L_parted ["_law_machine_here", "_law_row", "_law_runs_here", "_law_first", "_law_many"] []
  m_L_parted : mg "_law_parted" = some (.ref a_L_parted)
  a_law : Addr
  fd_law : FuncData
  F_law : Fun K "law" "law" s_law a_law fd_law
  b_law : Binds K fd_law ["_law_script"] []
  m_law : mg "law" = some (.ref a_law)
  C_NoMachine : Addr
  m_NoMachine : mg "NoMachine" = some (.ref C_NoMachine)
  C_Goer : Addr
  m_Goer : mg "Goer" = some (.ref C_Goer)
  cl_Goer : Cls K C_Goer
  M_Goer : Mk K C_Goer a_Goer_init
  M_Goer_entry : Meth K C_Goer "entry" a_Goer_entry
  M_Goer_step : Meth K C_Goer "step" a_Goer_step
  M_Goer_setup : Meth K C_Goer "setup" a_Goer_setup
  nA_Goer_table : NoAttr K C_Goer "table"
  nA_Goer_row : NoAttr K C_Goer "row"
  nA_Goer_spot : NoAttr K C_Goer "spot"
  nA_Goer_signs : NoAttr K C_Goer "signs"
  nA_Goer_steps : NoAttr K C_Goer "steps"
  C_Strip : Addr
  m_Strip : mg "Strip" = some (.ref C_Strip)
  cl_Strip : Cls K C_Strip
  M_Strip : Mk K C_Strip a_Strip_init
  M_Strip_told : Meth K C_Strip "told" a_Strip_told
  M_Strip_stride : Meth K C_Strip "stride" a_Strip_stride
  M_Strip_step : Meth K C_Strip "step" a_Strip_step
  nA_Strip_sides : NoAttr K C_Strip "sides"
  nA_Strip_sign : NoAttr K C_Strip "sign"
  nA_Strip_row : NoAttr K C_Strip "row"
  nA_Strip_steps : NoAttr K C_Strip "steps"
  tk_MOST_ROWS : Tok
  m_MOST_ROWS : mg "MOST_ROWS" = some (.int 4 tk_MOST_ROWS)
  tk_MOST_SIGNS : Tok
  m_MOST_SIGNS : mg "MOST_SIGNS" = some (.int 4 tk_MOST_SIGNS)
  n_len : mg "len" = none
  n_max : mg "max" = none
  n_int : mg "int" = none
  n_range : mg "range" = none
  n_all : mg "all" = none
  n_dict : mg "dict" = none
  n_sorted : mg "sorted" = none
  n_list : mg "list" = none
/-! ### the fields of a Strip -/
theorem ne_Strip_sides_sign : ¬ (("sides" : Str) = "sign") := by decide +kernel
theorem ne_Strip_sides_row : ¬ (("sides" : Str) = "row") := by decide +kernel
theorem ne_Strip_sides_steps : ¬ (("sides" : Str) = "steps") := by decide +kernel
theorem ne_Strip_sign_sides : ¬ (("sign" : Str) = "sides") := by decide +kernel
theorem ne_Strip_sign_row : ¬ (("sign" : Str) = "row") := by decide +kernel
theorem ne_Strip_sign_steps : ¬ (("sign" : Str) = "steps") := by decide +kernel
theorem ne_Strip_row_sides : ¬ (("row" : Str) = "sides") := by decide +kernel
theorem ne_Strip_row_sign : ¬ (("row" : Str) = "sign") := by decide +kernel
theorem ne_Strip_row_steps : ¬ (("row" : Str) = "steps") := by decide +kernel
theorem ne_Strip_steps_sides : ¬ (("steps" : Str) = "sides") := by decide +kernel
theorem ne_Strip_steps_sign : ¬ (("steps" : Str) = "sign") := by decide +kernel
theorem ne_Strip_steps_row : ¬ (("steps" : Str) = "row") := by decide +kernel
def Strip_F (v0 v1 v2 v3 : V) : List (Str × V) := [("sides", v0), ("sign", v1), ("row", v2), ("steps", v3)]
theorem Strip_mk0 (v0 : V) : putF "sides" v0 ([] : List (Str × V)) = ([("sides", v0)] : List (Str × V)) := by
  simp only [putF]
theorem Strip_mk1 (v0 v1 : V) : putF "sign" v1 ([("sides", v0)] : List (Str × V)) = ([("sides", v0), ("sign", v1)] : List (Str × V)) := by
  simp only [putF, if_neg ne_Strip_sides_sign]
theorem Strip_mk2 (v0 v1 v2 : V) : putF "row" v2 ([("sides", v0), ("sign", v1)] : List (Str × V)) = ([("sides", v0), ("sign", v1), ("row", v2)] : List (Str × V)) := by
  simp only [putF, if_neg ne_Strip_sides_row, if_neg ne_Strip_sign_row]
theorem Strip_mk3 (v0 v1 v2 v3 : V) : putF "steps" v3 ([("sides", v0), ("sign", v1), ("row", v2)] : List (Str × V)) = ([("sides", v0), ("sign", v1), ("row", v2), ("steps", v3)] : List (Str × V)) := by
  simp only [putF, if_neg ne_Strip_sides_steps, if_neg ne_Strip_sign_steps, if_neg ne_Strip_row_steps]
theorem Strip_get_sides {v0 v1 v2 v3 : V} : (Strip_F v0 v1 v2 v3).lookup ("sides" : Str) = some v0 := by
  have e : Strip_F v0 v1 v2 v3 = putF "sides" v0 (Strip_F v0 v1 v2 v3) := by
    unfold Strip_F
    simp only [putF, if_true]
  rw [e, lookup_putF, if_pos rfl]
theorem Strip_put_sides {v0 v1 v2 v3 y : V} : putF "sides" y (Strip_F v0 v1 v2 v3) = Strip_F y v1 v2 v3 := by
  unfold Strip_F
  simp only [putF, if_true]
theorem Strip_get_sign {v0 v1 v2 v3 : V} : (Strip_F v0 v1 v2 v3).lookup ("sign" : Str) = some v1 := by
  have e : Strip_F v0 v1 v2 v3 = putF "sign" v1 (Strip_F v0 v1 v2 v3) := by
    unfold Strip_F
    simp only [putF, if_neg ne_Strip_sides_sign, if_true]
  rw [e, lookup_putF, if_pos rfl]
theorem Strip_put_sign {v0 v1 v2 v3 y : V} : putF "sign" y (Strip_F v0 v1 v2 v3) = Strip_F v0 y v2 v3 := by
  unfold Strip_F
  simp only [putF, if_neg ne_Strip_sides_sign, if_true]
theorem Strip_get_row {v0 v1 v2 v3 : V} : (Strip_F v0 v1 v2 v3).lookup ("row" : Str) = some v2 := by
  have e : Strip_F v0 v1 v2 v3 = putF "row" v2 (Strip_F v0 v1 v2 v3) := by
    unfold Strip_F
    simp only [putF, if_neg ne_Strip_sides_row, if_neg ne_Strip_sign_row, if_true]
  rw [e, lookup_putF, if_pos rfl]
theorem Strip_put_row {v0 v1 v2 v3 y : V} : putF "row" y (Strip_F v0 v1 v2 v3) = Strip_F v0 v1 y v3 := by
  unfold Strip_F
  simp only [putF, if_neg ne_Strip_sides_row, if_neg ne_Strip_sign_row, if_true]
theorem Strip_get_steps {v0 v1 v2 v3 : V} : (Strip_F v0 v1 v2 v3).lookup ("steps" : Str) = some v3 := by
  have e : Strip_F v0 v1 v2 v3 = putF "steps" v3 (Strip_F v0 v1 v2 v3) := by
    unfold Strip_F
    simp only [putF, if_neg ne_Strip_sides_steps, if_neg ne_Strip_sign_steps, if_neg ne_Strip_row_steps, if_true]
  rw [e, lookup_putF, if_pos rfl]
theorem Strip_put_steps {v0 v1 v2 v3 y : V} : putF "steps" y (Strip_F v0 v1 v2 v3) = Strip_F v0 v1 v2 y := by
  unfold Strip_F
  simp only [putF, if_neg ne_Strip_sides_steps, if_neg ne_Strip_sign_steps, if_neg ne_Strip_row_steps, if_true]
theorem Strip_no {v0 v1 v2 v3 : V} {m : Str} (h0 : ¬ m = "sides") (h1 : ¬ m = "sign") (h2 : ¬ m = "row") (h3 : ¬ m = "steps") : (Strip_F v0 v1 v2 v3).lookup m = none := by
  have h : ∀ (f : Str) (v : V) (r : List (Str × V)), ¬ m = f → r.lookup m = none → ((f, v) :: r).lookup m = none := fun f v r n q => by
    rw [List.lookup_cons, beq_eq_false_iff_ne.mpr n]; exact q
  unfold Strip_F
  exact h _ _ _ h0 (h _ _ _ h1 (h _ _ _ h2 (h _ _ _ h3 rfl)))
theorem Strip_few {v0 v1 v2 v3 : V} : (Strip_F v0 v1 v2 v3).length < 1000 := by show 4 < 1000; decide
/-! ### the fields of a Goer -/
theorem ne_Goer_table_row : ¬ (("table" : Str) = "row") := by decide +kernel
theorem ne_Goer_table_spot : ¬ (("table" : Str) = "spot") := by decide +kernel
theorem ne_Goer_table_signs : ¬ (("table" : Str) = "signs") := by decide +kernel
theorem ne_Goer_table_steps : ¬ (("table" : Str) = "steps") := by decide +kernel
theorem ne_Goer_row_table : ¬ (("row" : Str) = "table") := by decide +kernel
theorem ne_Goer_row_spot : ¬ (("row" : Str) = "spot") := by decide +kernel
theorem ne_Goer_row_signs : ¬ (("row" : Str) = "signs") := by decide +kernel
theorem ne_Goer_row_steps : ¬ (("row" : Str) = "steps") := by decide +kernel
theorem ne_Goer_spot_table : ¬ (("spot" : Str) = "table") := by decide +kernel
theorem ne_Goer_spot_row : ¬ (("spot" : Str) = "row") := by decide +kernel
theorem ne_Goer_spot_signs : ¬ (("spot" : Str) = "signs") := by decide +kernel
theorem ne_Goer_spot_steps : ¬ (("spot" : Str) = "steps") := by decide +kernel
theorem ne_Goer_signs_table : ¬ (("signs" : Str) = "table") := by decide +kernel
theorem ne_Goer_signs_row : ¬ (("signs" : Str) = "row") := by decide +kernel
theorem ne_Goer_signs_spot : ¬ (("signs" : Str) = "spot") := by decide +kernel
theorem ne_Goer_signs_steps : ¬ (("signs" : Str) = "steps") := by decide +kernel
theorem ne_Goer_steps_table : ¬ (("steps" : Str) = "table") := by decide +kernel
theorem ne_Goer_steps_row : ¬ (("steps" : Str) = "row") := by decide +kernel
theorem ne_Goer_steps_spot : ¬ (("steps" : Str) = "spot") := by decide +kernel
theorem ne_Goer_steps_signs : ¬ (("steps" : Str) = "signs") := by decide +kernel
def Goer_F (v0 v1 v2 v3 v4 : V) : List (Str × V) := [("table", v0), ("row", v1), ("spot", v2), ("signs", v3), ("steps", v4)]
theorem Goer_mk0 (v0 : V) : putF "table" v0 ([] : List (Str × V)) = ([("table", v0)] : List (Str × V)) := by
  simp only [putF]
theorem Goer_mk1 (v0 v1 : V) : putF "row" v1 ([("table", v0)] : List (Str × V)) = ([("table", v0), ("row", v1)] : List (Str × V)) := by
  simp only [putF, if_neg ne_Goer_table_row]
theorem Goer_mk2 (v0 v1 v2 : V) : putF "spot" v2 ([("table", v0), ("row", v1)] : List (Str × V)) = ([("table", v0), ("row", v1), ("spot", v2)] : List (Str × V)) := by
  simp only [putF, if_neg ne_Goer_table_spot, if_neg ne_Goer_row_spot]
theorem Goer_mk3 (v0 v1 v2 v3 : V) : putF "signs" v3 ([("table", v0), ("row", v1), ("spot", v2)] : List (Str × V)) = ([("table", v0), ("row", v1), ("spot", v2), ("signs", v3)] : List (Str × V)) := by
  simp only [putF, if_neg ne_Goer_table_signs, if_neg ne_Goer_row_signs, if_neg ne_Goer_spot_signs]
theorem Goer_mk4 (v0 v1 v2 v3 v4 : V) : putF "steps" v4 ([("table", v0), ("row", v1), ("spot", v2), ("signs", v3)] : List (Str × V)) = ([("table", v0), ("row", v1), ("spot", v2), ("signs", v3), ("steps", v4)] : List (Str × V)) := by
  simp only [putF, if_neg ne_Goer_table_steps, if_neg ne_Goer_row_steps, if_neg ne_Goer_spot_steps, if_neg ne_Goer_signs_steps]
theorem Goer_get_table {v0 v1 v2 v3 v4 : V} : (Goer_F v0 v1 v2 v3 v4).lookup ("table" : Str) = some v0 := by
  have e : Goer_F v0 v1 v2 v3 v4 = putF "table" v0 (Goer_F v0 v1 v2 v3 v4) := by
    unfold Goer_F
    simp only [putF, if_true]
  rw [e, lookup_putF, if_pos rfl]
theorem Goer_put_table {v0 v1 v2 v3 v4 y : V} : putF "table" y (Goer_F v0 v1 v2 v3 v4) = Goer_F y v1 v2 v3 v4 := by
  unfold Goer_F
  simp only [putF, if_true]
theorem Goer_get_row {v0 v1 v2 v3 v4 : V} : (Goer_F v0 v1 v2 v3 v4).lookup ("row" : Str) = some v1 := by
  have e : Goer_F v0 v1 v2 v3 v4 = putF "row" v1 (Goer_F v0 v1 v2 v3 v4) := by
    unfold Goer_F
    simp only [putF, if_neg ne_Goer_table_row, if_true]
  rw [e, lookup_putF, if_pos rfl]
theorem Goer_put_row {v0 v1 v2 v3 v4 y : V} : putF "row" y (Goer_F v0 v1 v2 v3 v4) = Goer_F v0 y v2 v3 v4 := by
  unfold Goer_F
  simp only [putF, if_neg ne_Goer_table_row, if_true]
theorem Goer_get_spot {v0 v1 v2 v3 v4 : V} : (Goer_F v0 v1 v2 v3 v4).lookup ("spot" : Str) = some v2 := by
  have e : Goer_F v0 v1 v2 v3 v4 = putF "spot" v2 (Goer_F v0 v1 v2 v3 v4) := by
    unfold Goer_F
    simp only [putF, if_neg ne_Goer_table_spot, if_neg ne_Goer_row_spot, if_true]
  rw [e, lookup_putF, if_pos rfl]
theorem Goer_put_spot {v0 v1 v2 v3 v4 y : V} : putF "spot" y (Goer_F v0 v1 v2 v3 v4) = Goer_F v0 v1 y v3 v4 := by
  unfold Goer_F
  simp only [putF, if_neg ne_Goer_table_spot, if_neg ne_Goer_row_spot, if_true]
theorem Goer_get_signs {v0 v1 v2 v3 v4 : V} : (Goer_F v0 v1 v2 v3 v4).lookup ("signs" : Str) = some v3 := by
  have e : Goer_F v0 v1 v2 v3 v4 = putF "signs" v3 (Goer_F v0 v1 v2 v3 v4) := by
    unfold Goer_F
    simp only [putF, if_neg ne_Goer_table_signs, if_neg ne_Goer_row_signs, if_neg ne_Goer_spot_signs, if_true]
  rw [e, lookup_putF, if_pos rfl]
theorem Goer_put_signs {v0 v1 v2 v3 v4 y : V} : putF "signs" y (Goer_F v0 v1 v2 v3 v4) = Goer_F v0 v1 v2 y v4 := by
  unfold Goer_F
  simp only [putF, if_neg ne_Goer_table_signs, if_neg ne_Goer_row_signs, if_neg ne_Goer_spot_signs, if_true]
theorem Goer_get_steps {v0 v1 v2 v3 v4 : V} : (Goer_F v0 v1 v2 v3 v4).lookup ("steps" : Str) = some v4 := by
  have e : Goer_F v0 v1 v2 v3 v4 = putF "steps" v4 (Goer_F v0 v1 v2 v3 v4) := by
    unfold Goer_F
    simp only [putF, if_neg ne_Goer_table_steps, if_neg ne_Goer_row_steps, if_neg ne_Goer_spot_steps, if_neg ne_Goer_signs_steps, if_true]
  rw [e, lookup_putF, if_pos rfl]
theorem Goer_put_steps {v0 v1 v2 v3 v4 y : V} : putF "steps" y (Goer_F v0 v1 v2 v3 v4) = Goer_F v0 v1 v2 v3 y := by
  unfold Goer_F
  simp only [putF, if_neg ne_Goer_table_steps, if_neg ne_Goer_row_steps, if_neg ne_Goer_spot_steps, if_neg ne_Goer_signs_steps, if_true]
theorem Goer_no {v0 v1 v2 v3 v4 : V} {m : Str} (h0 : ¬ m = "table") (h1 : ¬ m = "row") (h2 : ¬ m = "spot") (h3 : ¬ m = "signs") (h4 : ¬ m = "steps") : (Goer_F v0 v1 v2 v3 v4).lookup m = none := by
  have h : ∀ (f : Str) (v : V) (r : List (Str × V)), ¬ m = f → r.lookup m = none → ((f, v) :: r).lookup m = none := fun f v r n q => by
    rw [List.lookup_cons, beq_eq_false_iff_ne.mpr n]; exact q
  unfold Goer_F
  exact h _ _ _ h0 (h _ _ _ h1 (h _ _ _ h2 (h _ _ _ h3 (h _ _ _ h4 rfl))))
theorem Goer_few {v0 v1 v2 v3 v4 : V} : (Goer_F v0 v1 v2 v3 v4).length < 1000 := by show 5 < 1000; decide
section
variable {P : Program} {w : World} {K : PySem.W.Frag} {mg : Str → Option Value} {base : Heap}
/-! ### small things -/
theorem ln {H : Hp} {p q : Addr} {o u : HO} (n : H q = none) (h : H p = some o) : upd H q u p = some o := (upd_ne (ne_of_none h n)).trans h
theorem kt_int_int {K : PySem.W.Frag} : PySem.W.kitOne K (.type "int") (.type "int") = some true := kit_ty (by decide +kernel)
theorem kt_int_bool {K : PySem.W.Frag} : PySem.W.kitOne K (.type "int") (.type "bool") = some false := kit_ty (by decide +kernel)
theorem kt_tup {K : PySem.W.Frag} : PySem.W.kitOne K (.type "tuple") (.type "tuple") = some true := kit_ty (by decide +kernel)
theorem kt_list {K : PySem.W.Frag} : PySem.W.kitOne K (.type "list") (.type "list") = some true := kit_ty (by decide +kernel)
theorem gr_purse {H H1 : Hp} (s : Same H H1) : Gr mu0 H H H H1 := ⟨fun _ _ h => h, s, fun _ _ h => .inl h, fun c o h _ => s c o h, fun c h => s.free h⟩
theorem at_end {xs : List V} {k : Nat} {v : V} (l : xs.length = k + 1) (h : xs[k]? = some v) : atI xs (-1) = some v := by
  have e : ixN xs.length (-1) = some k := by
    unfold ixN
    rw [if_neg (by decide), if_pos (by omega)]
    congr 1
    omega
  unfold atI
  rw [e]
  exact h
theorem cut_all {xs : List V} {j : Nat} (h : xs.length ≤ j) : cutV xs none (some (j : Int)) = xs := by
  unfold cutV
  have e1 : HT.sIx xs.length 0 none = 0 := rfl
  have e2 : HT.sIx xs.length xs.length (some (j : Int)) = xs.length := by
    simp only [HT.sIx]
    rw [if_neg (by omega), Int.toNat_natCast]
    omega
  rw [e1, e2, List.drop_zero, Nat.sub_zero, List.take_length]
theorem map_take_succ {α β : Type} {f : α → β} {xs : List α} {i : Nat} {x : α} (h : xs[i]? = some x) : (xs.take (i + 1)).map f = (xs.take i).map f ++ [f x] := by
  rw [List.take_add_one, h, List.map_append]; rfl
theorem cut_1 {xs : List V} : cutV xs (some 1) none = xs.drop 1 := by
  unfold cutV
  have e2 : HT.sIx xs.length xs.length none = xs.length := rfl
  rw [e2]
  cases xs with
  | nil => simp
  | cons x xs =>
    have e1 : HT.sIx (x :: xs).length 0 (some 1) = 1 := by
      simp only [HT.sIx, List.length_cons]
      rw [if_neg (by decide), show (1 : Int).toNat = 1 from rfl]
      omega
    rw [e1]
    show (xs.take (xs.length + 1 - 1)) = xs
    rw [Nat.add_sub_cancel, List.take_length]
theorem cut32 : ¬ (HT.sIx 3 0 none = 0 ∧ HT.sIx 3 3 (some 2) = 3) := by decide
theorem Gr.frzS {mu : Addr → Prop} {F H F1 H1 : Hp} (g : Gr mu F H F1 H1) (P : Addr → Prop) [DecidablePred P] (h : ∀ c, P c → H c = none ∧ F1 c = none) : Gr mu F H (fun c => if P c then H1 c else F1 c) H1 ∧ Same F1 (fun c => if P c then H1 c else F1 c) := by
  have s : Same F1 (fun c => if P c then H1 c else F1 c) := fun c o e => by
    by_cases p : P c
    · rw [(h c p).2] at e; cases e
    · simp only [p, if_false]; exact e
  refine ⟨⟨fun c o e => s c o (g.ff c o e), fun c o e => ?_, fun c o e => ?_, g.fr, g.th⟩, s⟩
  · by_cases p : P c
    · simp only [p, if_true] at e; exact e
    · simp only [p, if_false] at e; exact g.fh c o e
  · by_cases p : P c
    · exact .inr (h c p).1
    · simp only [p, if_false] at e; exact g.nw c o e
/-! ### purses of three numbers -/
def PurseC (a c k : Int) : HO := .lst [.int a, .int c, .int k]
def PuAt (H : Hp) (p : Addr) (b : Int) : Prop := ∃ a c k : Int, H p = some (PurseC a c k) ∧ 0 ≤ k ∧ k ≤ b
theorem PuAt.le {H : Hp} {p : Addr} {b b' : Int} (h : PuAt H p b) (l : b ≤ b') : PuAt H p b' := by
  obtain ⟨a, c, k, e, h0, h1⟩ := h
  exact ⟨a, c, k, e, h0, by omega⟩
theorem PuAt.gr {mu : Addr → Prop} {F H F' H' : Hp} {p : Addr} {b : Int} (h : PuAt H p b) (g : Gr mu F H F' H') (m : ¬ mu p) : PuAt H' p b := by
  obtain ⟨a, c, k, e, h0, h1⟩ := h
  exact ⟨a, c, k, g.fr _ _ e m, h0, h1⟩
theorem PuAt.ln {H : Hp} {p q : Addr} {o : HO} {b : Int} (h : PuAt H p b) (n : H q = none) : PuAt (upd H q o) p b := by
  obtain ⟨a, c, k, e, h0, h1⟩ := h
  exact ⟨a, c, k, by rw [upd_ne (ne_of_none e n)]; exact e, h0, h1⟩
theorem PuAt.off {H : Hp} {p q : Addr} {o : HO} {b : Int} (h : PuAt H p b) (n : p ≠ q) : PuAt (upd H q o) p b := by
  obtain ⟨a, c, k, e, h0, h1⟩ := h
  exact ⟨a, c, k, by rw [upd_ne n]; exact e, h0, h1⟩
theorem PuAt.ex {H : Hp} {p : Addr} {b : Int} (h : PuAt H p b) : ∃ o, H p = some o := by
  obtain ⟨a, c, k, e, _⟩ := h
  exact ⟨_, e⟩
theorem Gr.pf0 {mu : Addr → Prop} {F H F1 H1 : Hp} {p : Addr} {o : HO} (g : Gr mu F H F1 H1) (f : F p = none) (h : H p = some o) : F1 p = none := by
  cases e : F1 p with
  | none => rfl
  | some z =>
    rcases g.nw p z e with k | k
    · rw [f] at k; cases k
    · rw [h] at k; cases k
theorem PuAt.f {mu : Addr → Prop} {F H F1 H1 : Hp} {p : Addr} {b : Int} (h : PuAt H p b) (f : F p = none) (g : Gr mu F H F1 H1) : F1 p = none := by
  obtain ⟨o, e⟩ := h.ex
  exact g.pf0 f e
theorem PuAt.ne {H : Hp} {p q : Addr} {b : Int} (h : PuAt H p b) (n : H q = none) : p ≠ q := by
  obtain ⟨o, e⟩ := h.ex
  exact ne_of_none e n
def sp_L_at (K : PySem.W.Frag) : Sp := fun vs H Q _ => ∃ (l : Addr) (ns : List Int) (k : Nat), vs = [.ref l, .int k] ∧ SqL K H l (ns.map V.int) ∧ ∀ z : Int, Q (.int z) H
theorem ok_L_at (t : Tx K mg) : FnOk P w K mg base CX0 1 t.a_L_at t.fd_L_at ["_law_script", "_law_k"] (sp_L_at K) := by
  refine t.F_L_at.ok sc_L_at (fun vs H Q E h => ?_) (fun cdv A outer s H vs Q E hr h => ?_)
  · obtain ⟨l, ns, k, rfl, _⟩ := h
    rfl
  · obtain ⟨l, ns, k, rfl, hl, q⟩ := h
    refine ⟨_, (pss_cons (ps_if (pt_cmpR op_lt (pv 1) (pe_callB (id := "len") call_lenQ (by rfl) t.n_len (by decide +kernel) (pa_cons (pv 0) pa_nil)) (nomark _)) (pss_one (ps_ret (pe_ix ix_list (pv 0) (pv 1) (fun _ _ => rfl)))) pss_nil)
      (pss_one (ps_ret pe_int))), ?_⟩
    refine ⟨_, rfl, _, rfl, l, _, rfl, .inl hl, _, _, rfl, rfl, _, rfl, ?_⟩
    refine ite2 (fun c => ?_) (fun c => ?_)
    · have c := of_decide_eq_true c
      have c : k < ns.length := by
        rw [List.length_map] at c
        omega
      refine ⟨_, rfl, _, rfl, l, _, _, _, rfl, rfl, hl, atI_nat (j := k) (by rw [List.getElem?_map, List.getElem?_eq_getElem c]; rfl), ?_⟩
      exact q _
    · exact q 0
def sp_L_mixed : Sp := fun vs H Q _ => ∃ c k : Int, vs = [.int c, .int k] ∧ 0 ≤ k ∧ k < 1000000 ∧ ∀ n : Int, Q (.int n) H
theorem ok_L_mixed (t : Tx K mg) : FnOk P w K mg base CX0 1 t.a_L_mixed t.fd_L_mixed ["_law_cell", "_law_k"] sp_L_mixed := by
  refine t.F_L_mixed.ok sc_L_mixed (fun vs H Q E h => ?_) (fun cdv A outer s H vs Q E hr h => ?_)
  · obtain ⟨c, k, rfl, _⟩ := h
    rfl
  · obtain ⟨c, k, rfl, k0, k1, q⟩ := h
    refine ⟨_, (pss_cons (ps_set (i := 0) sc_L_mixed.nd rfl (by first | exact Or.inl rfl | exact Or.inr rfl) (pe_op op_mod (pv 0) pe_int))
      (pss_cons (ps_set (i := 2) sc_L_mixed.nd rfl (by first | exact Or.inl rfl | exact Or.inr rfl) (pe_op op_mod (pe_op op_add (pe_op op_add (pe_op op_mul (pv 0) pe_int) (pe_op op_mul (pe_op op_mul pe_int (pv 1)) (pv 1))) (pv 1)) pe_int))
      (pss_cons (ps_set (i := 2) sc_L_mixed.nd rfl (by first | exact Or.inl rfl | exact Or.inr rfl) (pe_op op_mod (pe_op op_mul (pv 2) (pv 2)) pe_int))
      (pss_one (ps_ret (pe_op op_mod (pe_op op_mul (pv 2) pe_int) pe_int)))))), ?_⟩
    refine ⟨_, rfl, _, _, rfl, rfl, (by show (0 : Int) < 4611685803679178881; decide), ?_⟩
    generalize c % 4611685803679178881 = r
    refine ⟨_, rfl, _, _, rfl, rfl, .inr ⟨by decide, by decide⟩, _, rfl, _, _, rfl, rfl, .inl ⟨by decide, by decide⟩, _, rfl, _, _, rfl, rfl, .inr ⟨by omega, by omega⟩, _, _, rfl, rfl, _, rfl, _, _, rfl, rfl, _, _, rfl, rfl, (by show (0 : Int) < 2147483647; decide), ?_⟩
    have g0 := Int.emod_nonneg (r * 1103515245 + 7919 * k * k + k) (show (2147483647 : Int) ≠ 0 by decide)
    have g1 := Int.emod_lt_of_pos (r * 1103515245 + 7919 * k * k + k) (show (0 : Int) < 2147483647 by decide)
    generalize (r * 1103515245 + 7919 * k * k + k) % 2147483647 = n at g0 g1
    refine ⟨_, rfl, _, rfl, _, _, rfl, rfl, .inl ⟨by omega, by omega⟩, _, _, rfl, rfl, (by show (0 : Int) < 2147483629; decide), ?_⟩
    refine ⟨_, rfl, _, _, rfl, rfl, .inr ⟨by decide, by decide⟩, _, _, rfl, rfl, (by show (0 : Int) < 2147483587; decide), ?_⟩
    exact q _
def sp_L_purse (K : PySem.W.Frag) : Sp := fun vs H Q _ => ∃ (l : Addr) (ns : List Int) (k : Nat), vs = [.ref l, .int k] ∧ SqL K H l (ns.map V.int) ∧ k ≤ 10 ∧
  ∀ (p : Addr) (H' : Hp), Same H H' → H p = none → PuAt H' p 10000 → Q (.ref p) H'
theorem ok_L_purse (t : Tx K mg) : FnOk P w K mg base CX0 2 t.a_L_purse t.fd_L_purse ["_law_script", "_law_at_here"] (sp_L_purse K) := by
  refine t.F_L_purse.ok sc_L_purse (fun vs H Q E h => ?_) (fun cdv A outer s H vs Q E hr h => ?_)
  · obtain ⟨l, ns, k, rfl, _⟩ := h
    rfl
  · obtain ⟨l, ns, k, rfl, hl, k1, q⟩ := h
    refine ⟨_, (pss_cons (ps_set (i := 2) sc_L_purse.nd rfl (by first | exact Or.inl rfl | exact Or.inr rfl) (pe_call (ok_L_at t) (hr.mono (by decide)) (by rfl) t.m_L_at t.F_L_at.kp t.b_L_at .nil pass0 (pa_cons (pv 0) (pa_cons (pv 1) pa_nil))))
      (pss_one (ps_ret (pe_lst (pa_cons (pe_callB (id := "max") (call_max2 rfl) (by rfl) t.n_max (by decide +kernel) (pa_cons (pe_op op_sub (pv 2) (pe_op op_pow pe_int pe_int)) (pa_cons pe_int pa_nil))) (pa_cons (pv 2) (pa_cons (pe_op op_mul pe_int (pv 1)) pa_nil))))))), ?_⟩
    refine ⟨_, rfl, _, rfl, l, ns, k, rfl, hl, fun z => ?_⟩
    refine ⟨_, rfl, _, _, rfl, rfl, ⟨by decide, by decide, by decide⟩, _, _, rfl, rfl, _, _, rfl, ?_⟩
    refine ⟨_, rfl, _, rfl, _, _, rfl, rfl, .inl ⟨by decide, by decide⟩, three_le, fun p np => ?_⟩
    exact q p _ (sm_up np) np ⟨_, _, _, upd_same, by omega, by omega⟩
def sp_L_draw : Sp := fun vs H Q _ => ∃ (F : Hp) (p : Addr) (n b : Int), vs = [.ref p, .int n] ∧ Same F H ∧ F p = none ∧ PuAt H p b ∧ b ≤ 900000 ∧ 0 < n ∧ n < 1267650600228229401496703205376 ∧
  ∀ (d : Int) (H' : Hp), 0 ≤ d → d < n → Gr (muP p) F H F H' → PuAt H' p (b + 2) → Q (.int d) H'
theorem ok_L_draw (t : Tx K mg) : FnOk P w K mg base CX0 2 t.a_L_draw t.fd_L_draw ["_law_purse_here", "_law_out_of"] sp_L_draw := by
  refine t.F_L_draw.ok sc_L_draw (fun vs H Q E h => ?_) (fun cdv A outer s H vs Q E hr h => ?_)
  · obtain ⟨F, p, n, b, rfl, _⟩ := h
    rfl
  · obtain ⟨F, p, n, b, rfl, sF, fp, ⟨a, cc, k, hp, k0, kb⟩, hb, n0, n1, q⟩ := h
    refine ⟨_, (pss_cons (ps_if (pt_cmpR op_gt (pe_ix ix_list (pv 0) pe_int (fun _ _ => rfl)) pe_int (nomark _)) (pss_cons (ps_set (i := 2) sc_L_draw.nd rfl (by first | exact Or.inl rfl | exact Or.inr rfl) (pe_op op_mod (pe_ix ix_list (pv 0) pe_int (fun _ _ => rfl)) (pv 1)))
      (pss_cons (ps_asg (pe_op op_fdivW (pe_ix ix_list (pv 0) pe_int (fun _ _ => rfl)) (pv 1)) (pg_sub (pv 0) pe_int set_list))
      (pss_one (ps_ret (pv 2))))) pss_nil)
      (pss_cons (ps_asg (pe_op op_add (pe_ix ix_list (pv 0) pe_int (fun _ _ => rfl)) pe_int) (pg_sub (pv 0) pe_int set_list))
      (pss_cons (ps_set (i := 3) sc_L_draw.nd rfl (by first | exact Or.inl rfl | exact Or.inr rfl) (pe_call (ok_L_mixed t) (hr.mono (by decide)) (by rfl) t.m_L_mixed t.F_L_mixed.kp t.b_L_mixed .nil pass0 (pa_cons (pe_ix ix_list (pv 0) pe_int (fun _ _ => rfl)) (pa_cons (pe_ix ix_list (pv 0) pe_int (fun _ _ => rfl)) pa_nil))))
      (pss_one (ps_ret (pe_op op_mod (pe_op op_fdiv (pe_op op_add (pe_op op_mul (pv 3) pe_int) (pe_call (ok_L_mixed t) (hr.mono (by decide)) (by rfl) t.m_L_mixed t.F_L_mixed.kp t.b_L_mixed .nil pass0 (pa_cons (pe_op op_add (pe_ix ix_list (pv 0) pe_int (fun _ _ => rfl)) (pv 3)) (pa_cons (pe_op op_add (pe_ix ix_list (pv 0) pe_int (fun _ _ => rfl)) pe_int) pa_nil)))) pe_int) (pv 1))))))), ?_⟩
    have gr : ∀ a c k : Int, Gr (muP p) F H F (upd H p (PurseC a c k)) := fun a c k => (Gr.refl sF).set fp (.inr rfl)
    refine ⟨_, rfl, p, _, _, _, rfl, rfl, SqL.of hp, atI_nat (j := 0) rfl, _, _, rfl, rfl, _, rfl, ?_⟩
    refine ite2 (fun c => ?_) (fun c => ?_)
    · refine ⟨_, rfl, p, _, _, _, rfl, rfl, SqL.of hp, atI_nat (j := 0) rfl, _, rfl, _, _, rfl, rfl, n0, ?_⟩
      refine ⟨_, rfl, p, _, _, _, rfl, rfl, SqL.of hp, atI_nat (j := 0) rfl, _, rfl, _, _, rfl, rfl, wide_div n0 (b := 100) (by have e : (2 : Nat) ^ 100 = 1267650600228229401496703205376 := rfl; rw [e]; omega) (by decide) (by decide), _, rfl, p, _, _, 0, rfl, rfl, hp, rfl, _, rfl, ?_⟩
      exact q _ _ (Int.emod_nonneg _ (by omega)) (Int.emod_lt_of_pos _ n0) (gr _ _ _) ⟨_, _, _, upd_same, k0, by omega⟩
    · refine ⟨_, rfl, p, _, _, _, rfl, rfl, SqL.of hp, atI_nat (j := 2) rfl, _, _, rfl, rfl, _, rfl, p, _, _, 2, rfl, rfl, hp, rfl, ?_⟩
      have h2 : (upd H p (.lst ([.int a, .int cc, .int k].set 2 (.int (k + 2))))) p = some (PurseC a cc (k + 2)) := upd_same
      refine ⟨_, rfl, p, _, _, _, rfl, rfl, SqL.of h2, atI_nat (j := 1) rfl, _, rfl, p, _, _, _, rfl, rfl, SqL.of h2, atI_nat (j := 2) rfl, _, _, rfl, by omega, by omega, fun m => ?_⟩
      refine ⟨_, rfl, _, _, rfl, rfl, .inr ⟨by decide, by decide⟩, ?_⟩
      refine ⟨_, rfl, p, _, _, _, rfl, rfl, SqL.of h2, atI_nat (j := 1) rfl, _, rfl, _, _, rfl, rfl, _, rfl, p, _, _, _, rfl, rfl, SqL.of h2, atI_nat (j := 2) rfl, _, _, rfl, rfl, _, _, rfl, by omega, by omega, fun m2 => ?_⟩
      refine ⟨_, _, rfl, rfl, _, _, rfl, rfl, ⟨by decide, by decide⟩, _, rfl, _, _, rfl, rfl, n0, ?_⟩
      exact q _ _ (Int.emod_nonneg _ (by omega)) (Int.emod_lt_of_pos _ n0) (gr _ _ _) ⟨_, _, _, upd_same, by omega, by omega⟩
/-! ### machines that are machines -/
structure EOk (R S : Nat) (e : Ent) : Prop where
  ok : ∀ p w r, e = .go p w r → (0 ≤ p ∧ p < S) ∧ (w = -1 ∨ w = 1) ∧ 0 ≤ r ∧ r < R
structure MOk (M : Mach) (R S : Nat) : Prop where
  r1 : 1 ≤ R
  r4 : R ≤ 4
  s2 : 2 ≤ S
  s4 : S ≤ 4
  len : M.length = R
  row : ∀ r ∈ M, r.length = S
  ent : ∀ r ∈ M, ∀ e ∈ r, EOk R S e
def sp_is_entry : Sp := fun vs H Q _ => ∃ (F : Hp) (v : V) (e : Ent) (R S : Nat), vs = [v, .int R, .int S] ∧ Same F H ∧ Is F v e ∧ EOk R S e ∧ ∀ H', Gr mu0 F H F H' → Q (.bl true) H'
theorem ok_is_entry (t : Tx K mg) : FnOk P w K mg base CX0 1 t.a_is_entry t.fd_is_entry ["entry", "rows", "signs"] sp_is_entry := by
  refine t.F_is_entry.ok sc_is_entry (fun vs H Q E h => ?_) (fun cdv A outer s H vs Q E hr h => ?_)
  · obtain ⟨F, v, e, R, S, rfl, _⟩ := h
    rfl
  · obtain ⟨F, v, e, R, S, rfl, sF, hv, he, q⟩ := h
    refine ⟨_, (pss_cons (ps_if (pt_cmpR (op_eqD hr.units) (pv 0) (pe_tup pa_nil) (nomark _)) (pss_one (ps_ret pe_bl)) pss_nil)
      (pss_one (ps_ret (pe_and (pe_cmpR op_eq (pe_callB (id := "len") call_lenQ (by rfl) t.n_len (by decide +kernel) (pa_cons (pv 0) pa_nil)) pe_int (nomark _)) (pe_and (pe_chain op_le op_lt pe_int (pe_ix ix_tup (pv 0) pe_int (fun _ _ => rfl)) (pv 2)) (pe_and (pe_cmpR op_in_seq (pe_ix ix_tup (pv 0) pe_int (fun _ _ => rfl)) (pe_lst (pa_cons (pe_un un_neg pe_int) (pa_cons pe_int pa_nil))) (by rfl)) (pe_one (pe_chain op_le op_lt pe_int (pe_ix ix_tup (pv 0) pe_int (fun _ _ => rfl)) (pv 1))))))))), ?_⟩
    have g0 : Gr mu0 F H F H := Gr.refl sF
    refine ⟨_, rfl, by show 0 ≤ sizeLine; decide, fun p np => ?_⟩
    have g1 : Gr mu0 F H F (upd H p (.tup [])) := g0.own np
    refine eq_dat (a := e) (b := Ent.emp) (hv.up g1.fh) ⟨p, rfl, upd_same⟩ ?_
    refine ⟨_, rfl, ?_⟩
    refine ite2 (fun c => ?_) (fun c => ?_)
    · exact q _ g1
    · cases e with
      | emp => exact absurd (decide_eq_true rfl) c
      | go pu wa ro =>
        obtain ⟨a, rfl, ha⟩ := hv
        obtain ⟨⟨o1, o2⟩, o3, o4, o5⟩ := he.ok _ _ _ rfl
        have h1 := g1.fh _ _ ha
        refine ⟨_, rfl, a, _, rfl, .inr (SqT.of h1), rfl, _, rfl, ifT rfl ?_⟩
        refine ⟨_, rfl, a, _, _, _, rfl, rfl, SqT.of h1, atI_nat (j := 0) rfl, _, _, rfl, rfl, _, rfl, ifT (decide_eq_true o1) ⟨_, rfl, _, _, rfl, rfl, _, rfl, ifT (decide_eq_true o2) ?_⟩⟩
        refine ⟨_, rfl, a, _, _, _, rfl, rfl, SqT.of h1, atI_nat (j := 1) rfl, _, rfl, two_le, fun l nl => ?_⟩
        have g2 := g1.own (o := .lst [.int (-1), .int 1]) nl
        have h2 := g2.fh _ _ ha
        refine ⟨l, _, rfl, .inl (SqL.of upd_same), rfl, rfl, _, rfl, ifT ?_ ?_⟩
        · rcases o3 with rfl | rfl <;> rfl
        · refine ⟨_, rfl, a, _, _, _, rfl, rfl, SqT.of h2, atI_nat (j := 2) rfl, _, _, rfl, rfl, _, rfl, ifT (decide_eq_true o4) ⟨_, rfl, _, _, rfl, rfl, ?_⟩⟩
          show Q (.bl (decide (ro < (R : Int)))) _
          rw [decide_eq_true o5]
          exact q _ g2
/-- all bools of a list of trues -/
theorem all_rep (n : Nat) : (List.replicate n true).all id = true := by simp
theorem map_rep (n : Nat) : (List.replicate n true).map V.bl = List.replicate n (V.bl true) := by simp
theorem rep_snoc (n : Nat) : List.replicate n (V.bl true) ++ [V.bl true] = List.replicate (n + 1) (V.bl true) := by
  rw [← List.replicate_succ']
def sp_is_machine : Sp := fun vs H Q _ => ∃ (F : Hp) (v : V) (M : Mach) (R S : Nat), vs = [v] ∧ Same F H ∧ Is F v M ∧ MOk M R S ∧ ∀ H', Gr mu0 F H F H' → Q (.bl true) H'
theorem ok_is_machine (t : Tx K mg) : FnOk P w K mg base CX0 2 t.a_is_machine t.fd_is_machine ["machine"] sp_is_machine := by
  refine t.F_is_machine.ok sc_is_machine (fun vs H Q E h => ?_) (fun cdv A outer s H vs Q E hr h => ?_)
  · obtain ⟨F, v, M, R, S, rfl, _⟩ := h
    rfl
  · obtain ⟨F, v, M, R, S, rfl, sF, hv, hM, q⟩ := h
    refine ⟨_, (pss_cons (ps_set (i := 1) sc_is_machine.nd rfl (by first | exact Or.inl rfl | exact Or.inr rfl) (pe_callB (id := "len") call_lenQ (by rfl) t.n_len (by decide +kernel) (pa_cons (pv 0) pa_nil)))
      (pss_cons (ps_if (pt_not (pt_chain op_le op_le pe_int (pv 1) (pe_glob (v := .int 4) (by rfl) t.m_MOST_ROWS ⟨_, rfl⟩))) (pss_one (ps_ret pe_bl)) pss_nil)
      (pss_cons (ps_set (i := 2) sc_is_machine.nd rfl (by first | exact Or.inl rfl | exact Or.inr rfl) (pe_callB (id := "len") call_lenQ (by rfl) t.n_len (by decide +kernel) (pa_cons (pe_ix ix_list (pv 0) pe_int (fun _ _ => rfl)) pa_nil)))
      (pss_cons (ps_if (PW.pt (pw_or (pt_not (pt_chain op_le op_le pe_int (pv 2) (pe_glob (v := .int 4) (by rfl) t.m_MOST_SIGNS ⟨_, rfl⟩))) (pw_or1 (pt_not (pt_val (pe_callB (id := "all") (cr_all rfl) (by rfl) t.n_all (by decide +kernel) (pa_cons (pe_lc (own := [("row", 3)]) (g := gName 3) (tt := tYes) rfl sc_is_machine.nd (pi_list (pv 0)) (blkOk_by (N := N_is_machine) (sc := defScope s_is_machine) (by decide +kernel)) (fun _ _ _ _ _ => (pg_name (i := 3) sc_is_machine.nd rfl (by first | exact Or.inl rfl | exact Or.inr rfl))) (fun _ _ _ _ _ => pts_nil) (fun _ _ _ _ _ => (pe_cmpR op_eq (pe_callB (id := "len") (crK (K := K) (r := rLenQ) rfl call_lenQ) (by rfl) t.n_len (by decide +kernel) (pa_cons (pv 3) pa_nil)) (pv 2) (nomark _)))) pa_nil))))))) (pss_one (ps_ret pe_bl)) pss_nil)
      (pss_one (ps_ret (pe_callB (id := "all") (cr_all rfl) (by rfl) t.n_all (by decide +kernel) (pa_cons (pe_lc (own := [("row", 3)]) (g := gName 3) (tt := tYes) rfl sc_is_machine.nd (pi_list (pv 0)) (blkOk_by (N := N_is_machine) (sc := defScope s_is_machine) (by decide +kernel)) (fun _ _ _ _ _ => (pg_name (i := 3) sc_is_machine.nd rfl (by first | exact Or.inl rfl | exact Or.inr rfl))) (fun _ _ _ _ _ => pts_nil) (fun _ _ _ _ _ => (pe_callB (id := "all") (crK (K := K) (r := rAll) rfl (cr_all rfl)) (by rfl) t.n_all (by decide +kernel) (pa_cons (pe_lc (own := [("entry", 4)]) (g := gName 4) (tt := tYes) rfl sc_is_machine.nd (pi_listK (K := K) rfl (pv 3)) (blkOk_by (N := N_is_machine) (sc := { kind := PySem.ScopeKind.function, names := [(PySem.Str.ofString ".0", PySem.NameKind.local), (PySem.Str.ofString "row", PySem.NameKind.local), (PySem.Str.ofString "all", PySem.NameKind.globalImplicit), (PySem.Str.ofString "rows", PySem.NameKind.cell), (PySem.Str.ofString "signs", PySem.NameKind.cell)], isGenerator := false, isCoroutine := false }) (by decide +kernel)) (fun _ _ _ _ _ => (pg_name (i := 4) sc_is_machine.nd rfl (by first | exact Or.inl rfl | exact Or.inr rfl))) (fun _ _ _ _ _ => pts_nil) (fun _ _ _ _ _ => (pe_call (ok_is_entry t) (hr.mono (by decide)) (by rfl) t.m_is_entry t.F_is_entry.kp t.b_is_entry .nil pass0 (pa_cons (pv 4) (pa_cons (pv 1) (pa_cons (pv 2) pa_nil)))))) pa_nil)))) pa_nil)))))))), ?_⟩
    have g0 : Gr mu0 F H F H := Gr.refl sF
    have r1 := hM.r1
    have r4 := hM.r4
    have s2 := hM.s2
    have s4 := hM.s4
    obtain ⟨a, rs, rfl, ha, hrs⟩ := hv
    have lrs : rs.length = R := hrs.1.trans hM.len
    have h0 := sF _ _ ha
    have l0 : 0 < rs.length := by omega
    have hx0 : rs[0]? = some rs[0] := List.getElem?_eq_getElem l0
    obtain ⟨row0, hM0, hr0⟩ := hrs.get' hx0
    obtain ⟨a0, es0, e0, ha0, hes0⟩ := hr0
    have ls0 : es0.length = S := hes0.1.trans (hM.row _ (List.mem_of_getElem? hM0))
    have hb0 := sF _ _ ha0
    -- rows = len(machine); signs = len(machine[0])
    refine ⟨_, rfl, a, rs, rfl, .inl (SqL.of h0), _, rfl, _, _, rfl, rfl, _, rfl, ifT (decide_eq_true (by omega)) ⟨_, _, rfl, rfl, _, rfl, ?_⟩⟩
    refine ifF (by rw [decide_eq_true (show (rs.length : Int) ≤ 4 by omega)]; rfl) ?_
    refine ⟨_, rfl, a, rs, _, _, rfl, rfl, SqL.of h0, atI_nat (j := 0) hx0, ?_⟩
    rw [e0]
    refine ⟨a0, es0, rfl, .inl (SqL.of hb0), _, rfl, _, _, rfl, rfl, _, rfl, ifT (decide_eq_true (by omega)) ⟨_, _, rfl, rfl, _, rfl, ?_⟩⟩
    refine ifF (by rw [decide_eq_true (show (es0.length : Int) ≤ 4 by omega)]; rfl) ?_
    -- all([len(row) == signs for row in machine])
    refine ⟨_, rfl, a, rfl, ⟨_, SqL.of h0⟩, fun D nD => lc_list (K := K) (a := a) (xs := rs) (fun i G => Gr mu0 F H F G ∧ G D = some (.lst (List.replicate i (V.bl true)))) ⟨g0.own nD, upd_same⟩ (fun i G _ p => SqL.of (p.1.fh _ _ ha)) ?_ ?_⟩
    · rintro i x G hi ⟨gG, hD⟩
      obtain ⟨row, hMi, b, es, rfl, hb, hes⟩ := hrs.get' hi
      have ls : es.length = S := hes.1.trans (hM.row _ (List.mem_of_getElem? hMi))
      have il : i < rs.length := (List.getElem?_eq_some_iff.mp hi).1
      refine ⟨rfl, ?_⟩
      refine yes ⟨_, rfl, b, es, rfl, .inl (SqL.of (gG.fh _ _ hb)), _, rfl, rfl, _, hD, by rw [List.length_replicate]; exact lt_size (by omega), ?_⟩
      have e : (V.bl (decide (V.int (es.length : Int) = V.int (es0.length : Int)))) = V.bl true := by rw [ls, ls0]; simp
      rw [e, rep_snoc]
      exact ⟨gG.set (ne_of_none' sF nD) (.inl nD), upd_same⟩
    · rintro G ⟨gG, hD⟩
      refine ⟨D, List.replicate rs.length true, rfl, SqL.of (by rw [map_rep]; exact hD), _, rfl, ifF (by rw [all_rep]; rfl) ?_⟩
      -- all([all([is_entry(entry, rows, signs) for entry in row]) for row in machine])
      refine ⟨_, rfl, a, rfl, ⟨_, SqL.of (gG.fh _ _ ha)⟩, fun D1 nD1 => lc_list (K := K) (a := a) (xs := rs) (fun i G1 => Gr mu0 F H F G1 ∧ H D1 = none ∧ G1 D1 = some (.lst (List.replicate i (V.bl true)))) ⟨gG.own nD1, gG.th _ nD1, upd_same⟩ (fun i G1 _ p => SqL.of (p.1.fh _ _ ha)) ?_ ?_⟩
      · rintro i x G1 hi ⟨gG1, nH, hD1⟩
        obtain ⟨row, hMi, b, es, rfl, hb, hes⟩ := hrs.get' hi
        have ls : es.length = S := hes.1.trans (hM.row _ (List.mem_of_getElem? hMi))
        have il : i < rs.length := (List.getElem?_eq_some_iff.mp hi).1
        refine ⟨rfl, yes ⟨_, rfl, b, rfl, ⟨_, SqL.of (gG1.fh _ _ hb)⟩, fun D2 nD2 => lc_list (K := K) (a := b) (xs := es) (fun j G2 => Gr mu0 F H F G2 ∧ H D2 = none ∧ D1 ≠ D2 ∧ G2 D1 = some (.lst (List.replicate i (V.bl true))) ∧ G2 D2 = some (.lst (List.replicate j (V.bl true))))
          ⟨gG1.own nD2, gG1.th _ nD2, ne_of_none hD1 nD2, by rw [upd_ne (ne_of_none hD1 nD2)]; exact hD1, upd_same⟩ (fun j G2 _ p => SqL.of (p.1.fh _ _ hb)) ?_ ?_⟩⟩
        · rintro j y G2 hj ⟨gG2, nH2, d12, h1, h2⟩
          obtain ⟨e, hej, hye⟩ := hes.get' hj
          have jl : j < es.length := (List.getElem?_eq_some_iff.mp hj).1
          refine ⟨rfl, yes ⟨_, rfl, _, rfl, _, rfl, F, y, e, R, S, ?_, gG2.fh, hye, hM.ent _ (List.mem_of_getElem? hMi) _ (List.mem_of_getElem? hej), fun G3 g3 => ?_⟩⟩
          · rw [lrs, ls0]
            rfl
          · have gH3 := gG2.trans g3
            refine ⟨_, g3.fr _ _ h2 (fun z => z), by rw [List.length_replicate]; exact lt_size (by omega), ?_⟩
            rw [rep_snoc]
            exact ⟨gH3.set (sF.free nH2) (.inl nH2), nH2, d12, by rw [upd_ne d12]; exact g3.fr _ _ h1 (fun z => z), upd_same⟩
        · rintro G2 ⟨gG2, nH2, d12, h1, h2⟩
          refine ⟨D2, List.replicate es.length true, rfl, SqL.of (by rw [map_rep]; exact h2), ?_⟩
          refine ⟨_, h1, by rw [List.length_replicate]; exact lt_size (by omega), ?_⟩
          rw [all_rep, rep_snoc]
          exact ⟨gG2.set (sF.free nH) (.inl nH), nH, upd_same⟩
      · rintro G1 ⟨gG1, nH, hD1⟩
        refine ⟨D1, List.replicate rs.length true, rfl, SqL.of (by rw [map_rep]; exact hD1), ?_⟩
        rw [all_rep]
        exact q _ gG1
def sp_must_machine : Sp := fun vs H Q _ => ∃ (F : Hp) (v : V) (M : Mach) (R S : Nat), vs = [v] ∧ Same F H ∧ Is F v M ∧ MOk M R S ∧ ∀ H', Gr mu0 F H F H' → Q .non H'
theorem ok_must_machine (t : Tx K mg) : FnOk P w K mg base CX0 3 t.a_must_machine t.fd_must_machine ["machine"] sp_must_machine := by
  refine t.F_must_machine.ok sc_must_machine (fun vs H Q E h => ?_) (fun cdv A outer s H vs Q E hr h => ?_)
  · obtain ⟨F, v, M, R, S, rfl, _⟩ := h
    rfl
  · obtain ⟨F, v, M, R, S, rfl, sF, hv, hM, q⟩ := h
    refine ⟨_, (pss_one (ps_if (pt_not (pt_val (pe_call (ok_is_machine t) (hr.mono (by decide)) (by rfl) t.m_is_machine t.F_is_machine.kp t.b_is_machine .nil pass0 (pa_cons (pv 0) pa_nil)))) (pss_one ps_never) pss_nil)), ?_⟩
    exact ⟨_, rfl, F, _, M, R, S, rfl, sF, hv, hM, fun H' g => ⟨_, rfl, ifF rfl (q _ g)⟩⟩
/-! ### machines, runs drawn -/
theorem at2 {a b : V} {c : Bool} : atI [a, b] (if c then 1 else 0) = some (if c then b else a) := by cases c <;> rfl
def sp_L_entry : Sp := fun vs H Q _ => ∃ (F : Hp) (p : Addr) (R S few b row : Int), vs = [.ref p, .int R, .int S, .int row, .int few] ∧ Same F H ∧ F p = none ∧ PuAt H p b ∧ b ≤ 800000 ∧ 0 < R ∧ R ≤ 4 ∧ 0 < S ∧ S ≤ 4 ∧ 0 ≤ row ∧ row < R ∧ 0 < few ∧ few ≤ 100 ∧
  ∀ (F' H' : Hp) (v : V) (e : Ent), Gr (muP p) F H F' H' → PuAt H' p (b + 10) → Is F' v e → (∀ p w r, e = .go p w r → (0 ≤ p ∧ p < S) ∧ (w = -1 ∨ w = 1) ∧ 0 ≤ r ∧ r < R) → Q v H'
theorem ok_L_entry (t : Tx K mg) : FnOk P w K mg base CX0 3 t.a_L_entry t.fd_L_entry ["_law_purse_here", "_law_rows", "_law_signs", "_law_row", "_law_few"] sp_L_entry := by
  refine t.F_L_entry.ok sc_L_entry (fun vs H Q E h => ?_) (fun cdv A outer s H vs Q E hr h => ?_)
  · obtain ⟨F, p, R, S, few, b, row, rfl, _⟩ := h
    rfl
  · obtain ⟨F, p, R, S, few, b, row, rfl, sF, fp, hp, hb, R0, R4, S0, S4, r0, r1, f0, f1, q⟩ := h
    refine ⟨_, (pss_cons (ps_set (i := 5) sc_L_entry.nd rfl (by first | exact Or.inl rfl | exact Or.inr rfl) (pe_call (ok_L_draw t) (hr.mono (by decide)) (by rfl) t.m_L_draw t.F_L_draw.kp t.b_L_draw .nil pass0 (pa_cons (pv 0) (pa_cons (pv 2) pa_nil))))
      (pss_cons (ps_set (i := 6) sc_L_entry.nd rfl (by first | exact Or.inl rfl | exact Or.inr rfl) (pe_op op_sub (pe_op op_mul pe_int (pe_call (ok_L_draw t) (hr.mono (by decide)) (by rfl) t.m_L_draw t.F_L_draw.kp t.b_L_draw .nil pass0 (pa_cons (pv 0) (pa_cons pe_int pa_nil)))) pe_int))
      (pss_cons (ps_set (i := 7) sc_L_entry.nd rfl (by first | exact Or.inl rfl | exact Or.inr rfl) (pe_ix ix_list (pe_lst (pa_cons (pe_call (ok_L_draw t) (hr.mono (by decide)) (by rfl) t.m_L_draw t.F_L_draw.kp t.b_L_draw .nil pass0 (pa_cons (pv 0) (pa_cons (pv 1) pa_nil))) (pa_cons (pv 3) pa_nil))) (pe_callTy (T := "int") call_int1 (by rfl) t.n_int (by decide +kernel) (pa_cons (pe_cmpR op_eq (pe_call (ok_L_draw t) (hr.mono (by decide)) (by rfl) t.m_L_draw t.F_L_draw.kp t.b_L_draw .nil pass0 (pa_cons (pv 0) (pa_cons pe_int pa_nil))) pe_int (nomark _)) pa_nil)) (fun _ _ => rfl)))
      (pss_one (ps_ret (pe_ix ix_list (pe_lst (pa_cons (pe_tup (pa_cons (pv 5) (pa_cons (pv 6) (pa_cons (pv 7) pa_nil)))) (pa_cons (pe_tup pa_nil) pa_nil))) (pe_callTy (T := "int") call_int1 (by rfl) t.n_int (by decide +kernel) (pa_cons (pe_cmpR op_eq (pe_call (ok_L_draw t) (hr.mono (by decide)) (by rfl) t.m_L_draw t.F_L_draw.kp t.b_L_draw .nil pass0 (pa_cons (pv 0) (pa_cons (pv 4) pa_nil))) pe_int (nomark _)) pa_nil)) (fun _ _ => rfl))))))), ?_⟩
    refine ⟨_, rfl, _, rfl, F, p, S, b, rfl, sF, fp, hp, by omega, S0, by omega, fun d1 H1 d10 d11 g1 hp1 => ?_⟩
    refine ⟨_, rfl, F, p, 2, _, rfl, g1.fh, fp, hp1, by omega, by decide, by decide, fun d2 H2 d20 d21 g2 hp2 => ⟨_, _, rfl, rfl, .inl ⟨by decide, by decide⟩, _, _, rfl, rfl, ?_⟩⟩
    refine ⟨_, rfl, _, rfl, F, p, R, _, rfl, g2.fh, fp, hp2, by omega, R0, by omega, fun d3 H3 d30 d31 g3 hp3 => ⟨_, rfl, two_le, fun l nl => ?_⟩⟩
    have g4 := ((g1.trans g2).trans g3).own (o := .lst [.int d3, .int row]) nl
    have hl : (upd H3 l (.lst [.int d3, .int row])) l = some (.lst [.int d3, .int row]) := upd_same
    have hp4 := hp3.ln (o := .lst [.int d3, .int row]) nl
    have pl := hp3.ne nl
    generalize upd H3 l (.lst [.int d3, .int row]) = H4 at g4 hl hp4
    refine ⟨_, rfl, F, p, 3, _, rfl, g4.fh, fp, hp4, by omega, by decide, by decide, fun d4 H5 d40 d41 g5 hp5 => ⟨rfl, .inr ⟨_, rfl, ?_⟩⟩⟩
    have hl5 := g5.fr _ _ hl (Ne.symm pl)
    refine ⟨l, _, _, _, rfl, rfl, SqL.of hl5, at2, ?_⟩
    have et : ∃ r : Int, (if decide (V.int d4 = V.int 1) = true then V.int row else V.int d3) = V.int r ∧ 0 ≤ r ∧ r < R := by
      split
      · exact ⟨_, rfl, r0, r1⟩
      · exact ⟨_, rfl, d30, d31⟩
    obtain ⟨r, er, r0', r1'⟩ := et
    rw [er]
    have g6 := g4.trans g5
    refine ⟨_, rfl, _, rfl, _, rfl, three_le, fun q0 n0 => ⟨nil_le, fun q1 n1 => ⟨two_le, fun l2 nl2 => ?_⟩⟩⟩
    have g7 := (g6.new (o := .tup [.int d1, .int (2 * d2 - 1), .int r]) n0).new (o := .tup []) n1
    have hp7 := (hp5.ln (o := .tup [.int d1, .int (2 * d2 - 1), .int r]) n0).ln (o := .tup []) n1
    have i0 : Is (upd (upd F q0 (.tup [.int d1, .int (2 * d2 - 1), .int r])) q1 (.tup [])) (.ref q0) (Ent.go d1 (2 * d2 - 1) r) := ⟨q0, rfl, by rw [upd_ne (ne_of_none upd_same n1)]; exact upd_same⟩
    have i1 : Is (upd (upd F q0 (.tup [.int d1, .int (2 * d2 - 1), .int r])) q1 (.tup [])) (.ref q1) Ent.emp := ⟨q1, rfl, upd_same⟩
    have fp7 := hp.f fp g7
    generalize upd (upd F q0 (.tup [.int d1, .int (2 * d2 - 1), .int r])) q1 (.tup []) = F7 at g7 i0 i1 fp7
    generalize upd (upd H5 q0 (.tup [.int d1, .int (2 * d2 - 1), .int r])) q1 (.tup []) = H7 at g7 hp7 nl2
    have g8 := g7.own (o := .lst [.ref q0, .ref q1]) nl2
    have hl8 : (upd H7 l2 (.lst [.ref q0, .ref q1])) l2 = some (.lst [.ref q0, .ref q1]) := upd_same
    have hp8 := hp7.ln (o := .lst [.ref q0, .ref q1]) nl2
    have pl2 := hp7.ne nl2
    generalize upd H7 l2 (.lst [.ref q0, .ref q1]) = H8 at g8 hl8 hp8
    refine ⟨_, rfl, _, rfl, F7, p, few, _, rfl, g8.fh, fp7, hp8, by omega, f0, by omega, fun d5 H9 d50 d51 g9 hp9 => ⟨rfl, .inr ⟨_, rfl, ?_⟩⟩⟩
    refine ⟨l2, _, _, _, rfl, rfl, SqL.of (g9.fr _ _ hl8 (Ne.symm pl2)), at2, ?_⟩
    by_cases c : decide (V.int d5 = V.int 1) = true
    · rw [if_pos c]
      exact q F7 H9 _ Ent.emp (g8.trans g9) (hp9.le (by omega)) i1 (fun p w r z => nomatch z)
    · rw [if_neg c]
      refine q F7 H9 _ _ (g8.trans g9) (hp9.le (by omega)) i0 fun p w r' z => ?_
      cases z
      exact ⟨⟨d10, d11⟩, by omega, r0', r1'⟩
theorem Ow.frz' {H F H1 : Hp} {q r : Addr} {o u : HO} (w : Ow H F H1 q o) (e : q ≠ r) : Ow H (upd F r u) H1 q o := ⟨w.n, by rw [upd_ne e]; exact w.f, w.h⟩
theorem Ow.neq {H F H1 : Hp} {q r : Addr} {o : HO} (w : Ow H F H1 q o) {u : HO} (h : H r = some u) : q ≠ r := fun e => by rw [← e, w.n] at h; cases h
def sp_L_machine : Sp := fun vs H Q _ => ∃ (F : Hp) (p : Addr) (b : Int), vs = [.ref p] ∧ Same F H ∧ F p = none ∧ PuAt H p b ∧ b ≤ 700000 ∧
  ∀ (F' H' : Hp) (v : V) (M : Mach) (R S : Nat), Gr (muP p) F H F' H' → PuAt H' p (b + 1000) → MOk M R S → Is F' v M → Q v H'
theorem ok_L_machine (t : Tx K mg) : FnOk P w K mg base CX0 4 t.a_L_machine t.fd_L_machine ["_law_purse_here"] sp_L_machine := by
  refine t.F_L_machine.ok sc_L_machine (fun vs H Q E h => ?_) (fun cdv A outer s H vs Q E hr h => ?_)
  · obtain ⟨F, p, b, rfl, _⟩ := h
    rfl
  · obtain ⟨F, p, b, rfl, sF, fp, hp, hb, q⟩ := h
    refine ⟨_, (pss_cons (ps_set (i := 1) sc_L_machine.nd rfl (by first | exact Or.inl rfl | exact Or.inr rfl) (pe_op op_add pe_int (pe_call (ok_L_draw t) (hr.mono (by decide)) (by rfl) t.m_L_draw t.F_L_draw.kp t.b_L_draw .nil pass0 (pa_cons (pv 0) (pa_cons pe_int pa_nil)))))
      (pss_cons (ps_set (i := 2) sc_L_machine.nd rfl (by first | exact Or.inl rfl | exact Or.inr rfl) (pe_op op_add pe_int (pe_call (ok_L_draw t) (hr.mono (by decide)) (by rfl) t.m_L_draw t.F_L_draw.kp t.b_L_draw .nil pass0 (pa_cons (pv 0) (pa_cons pe_int pa_nil)))))
      (pss_cons (ps_set (i := 3) sc_L_machine.nd rfl (by first | exact Or.inl rfl | exact Or.inr rfl) (pe_ix ix_list (pe_lst (pa_cons pe_int (pa_cons pe_int (pa_cons pe_int (pa_cons pe_int pa_nil))))) (pe_call (ok_L_draw t) (hr.mono (by decide)) (by rfl) t.m_L_draw t.F_L_draw.kp t.b_L_draw .nil pass0 (pa_cons (pv 0) (pa_cons pe_int pa_nil))) (fun _ _ => rfl)))
      (pss_one (ps_ret (pe_lc (own := [("_law_row", 5)]) (g := gName 5) (tt := tYes) rfl sc_L_machine.nd (pi_range1 (by rfl) t.n_range (pa_cons (pv 1) pa_nil)) (blkOk_by (N := N_L_machine) (sc := defScope s_L_machine) (by decide +kernel)) (fun _ _ _ _ _ => (pg_name (i := 5) sc_L_machine.nd rfl (by first | exact Or.inl rfl | exact Or.inr rfl))) (fun _ _ _ _ _ => pts_nil) (fun _ _ _ _ _ => (pe_lc (own := [("_law_sign", 4)]) (g := gName 4) (tt := tYes) rfl sc_L_machine.nd (pi_range1 (by rfl) t.n_range (pa_cons (pv 2) pa_nil)) (blkOk_by (N := N_L_machine) (sc := { kind := PySem.ScopeKind.function, names := [(PySem.Str.ofString ".0", PySem.NameKind.local), (PySem.Str.ofString "_law_row", PySem.NameKind.cell), (PySem.Str.ofString "range", PySem.NameKind.globalImplicit), (PySem.Str.ofString "_law_few", PySem.NameKind.cell), (PySem.Str.ofString "_law_purse_here", PySem.NameKind.cell), (PySem.Str.ofString "_law_rows", PySem.NameKind.cell), (PySem.Str.ofString "_law_signs", PySem.NameKind.cell)], isGenerator := false, isCoroutine := false }) (by decide +kernel)) (fun _ _ _ _ _ => (pg_name (i := 4) sc_L_machine.nd rfl (by first | exact Or.inl rfl | exact Or.inr rfl))) (fun _ _ _ _ _ => pts_nil) (fun _ _ _ _ _ => (pe_call (ok_L_entry t) (hr.mono (by decide)) (by rfl) t.m_L_entry t.F_L_entry.kp t.b_L_entry .nil pass0 (pa_cons (pv 0) (pa_cons (pv 1) (pa_cons (pv 2) (pa_cons (pv 5) (pa_cons (pv 3) pa_nil))))))))))))))), ?_⟩
    obtain ⟨po, hpo⟩ := hp.ex
    refine ⟨_, rfl, F, p, 4, b, rfl, sF, fp, hp, by omega, by decide, by decide, fun d1 H1 d10 d11 g1 hp1 => ⟨_, _, rfl, rfl, ?_⟩⟩
    refine ⟨_, rfl, F, p, 3, _, rfl, g1.fh, fp, hp1, by omega, by decide, by decide, fun d2 H2 d20 d21 g2 hp2 => ⟨_, _, rfl, rfl, ?_⟩⟩
    refine ⟨by show 4 ≤ sizeLine; decide, fun l nl => ?_⟩
    have g3 := (g1.trans g2).own (o := .lst [.int 4, .int 9, .int 20, .int 60]) nl
    have hl : (upd H2 l (.lst [.int 4, .int 9, .int 20, .int 60])) l = some (.lst [.int 4, .int 9, .int 20, .int 60]) := upd_same
    have hp3 := hp2.ln (o := .lst [.int 4, .int 9, .int 20, .int 60]) nl
    have pl := hp2.ne nl
    generalize upd H2 l (.lst [.int 4, .int 9, .int 20, .int 60]) = H3 at g3 hl hp3
    refine ⟨_, rfl, F, p, 4, _, rfl, g3.fh, fp, hp3, by omega, by decide, by decide, fun d3 H4 d30 d31 g4 hp4 => ?_⟩
    have ef : ∃ f : Int, atI [V.int 4, V.int 9, V.int 20, V.int 60] d3 = some (.int f) ∧ 0 < f ∧ f ≤ 100 := by
      rcases (by omega : d3 = 0 ∨ d3 = 1 ∨ d3 = 2 ∨ d3 = 3) with rfl | rfl | rfl | rfl <;> exact ⟨_, rfl, by decide, by decide⟩
    obtain ⟨few, ef, f0, f1⟩ := ef
    refine ⟨l, _, _, _, rfl, rfl, SqL.of (g4.fr _ _ hl (Ne.symm pl)), ef, ?_⟩
    have g5 := g3.trans g4
    have eR : ((1 + d1).toNat : Int) = 1 + d1 := Int.toNat_of_nonneg (by omega)
    have eS : ((2 + d2).toNat : Int) = 2 + d2 := Int.toNat_of_nonneg (by omega)
    generalize hR : (1 + d1).toNat = R at eR
    generalize hS : (2 + d2).toNat = S at eS
    dsimp only
    rw [← eR, ← eS]
    refine ⟨_, rfl, (R : Int), rfl, by omega, by omega, fun D nD => ?_⟩
    have pD := hp4.ne nD
    refine lc_range (lo := 0) (n := ((R : Int)).toNat) (fun i G => ∃ (F1 : Hp) (rs : List V) (M : Mach) (b1 : Int), Gr (muP p) F H F1 G ∧ PuAt G p b1 ∧ b1 ≤ b + 8 + 40 * i ∧ Ow H F1 G D (.lst rs) ∧ IsAll F1 rs M ∧ M.length = i ∧ ∀ row ∈ M, row.length = S ∧ ∀ e ∈ row, EOk R S e)
      ⟨F, [], [], _, g5.own nD, hp4.ln nD, by omega, Ow.mk1 g5 nD, All2.nil, rfl, fun row z => nomatch z⟩ ?_ ?_
    · rintro i G hi ⟨F1, rs, M, b1, g, hpG, hb1, w, al, lM, hM⟩
      have iR : i < R := by omega
      refine ⟨rfl, yes ⟨_, rfl, (S : Int), rfl, by omega, by omega, fun r nr => ?_⟩⟩
      have pr := hpG.ne nr
      have Dr : D ≠ r := w.ne nr
      refine lc_range (lo := 0) (n := ((S : Int)).toNat) (fun j G => ∃ (F2 : Hp) (es : List V) (row : List Ent) (b2 : Int), Gr (muP p) F H F2 G ∧ PuAt G p b2 ∧ b2 ≤ b1 + 10 * j ∧ Ow H F2 G D (.lst rs) ∧ Ow H F2 G r (.lst es) ∧ IsAll F2 rs M ∧ IsAll F2 es row ∧ row.length = j ∧ ∀ e ∈ row, EOk R S e)
        ⟨F1, [], [], b1, g.own nr, hpG.ln nr, by omega, w.own nr, Ow.mk1 g nr, al, All2.nil, rfl, fun e z => nomatch z⟩ ?_ ?_
      · rintro j G hj ⟨F2, es, row, b2, g, hpG, hb2, w, wr, al, ae, lr, hrow⟩
        have jS : j < S := by omega
        refine ⟨rfl, yes ⟨_, rfl, _, rfl, _, rfl, _, rfl, _, rfl, F2, p, (R : Int), (S : Int), few, b2, (0 + i : Int), rfl, g.fh, hp.f fp g, hpG, by omega, by omega, by omega, by omega, by omega, by omega, by omega, f0, f1, fun F3 G3 v e g3 hp3 ie eo => ?_⟩⟩
        have w3 := w.call g3 (Ne.symm pD)
        have wr3 := wr.call g3 (Ne.symm pr)
        refine ⟨es, wr3.h, by rw [ae.1, lr]; exact lt_size (by omega), F3, es ++ [v], row ++ [e], _, (g.trans g3).set wr3.f (.inl wr3.n), hp3.off pr, by omega, w3.other Dr, wr3.set, al.up g3.ff, (ae.up g3.ff).app (All2.one ie), by rw [List.length_append, lr]; rfl, fun e' z => ?_⟩
        rcases List.mem_append.mp z with z | z
        · exact hrow e' z
        · rw [List.mem_singleton.mp z]; exact ⟨eo⟩
      · rintro G ⟨F2, es, row, b2, g, hpG, hb2, w, wr, al, ae, lr, hrow⟩
        have lr : row.length = S := by rw [lr]; exact Int.toNat_natCast S
        have g2 := g.frz wr.h wr.n wr.f
        have s2 : Same F2 (upd F2 r (.lst es)) := sm_new (Same.refl F2) wr.f
        have w2 := w.frz' (u := .lst es) Dr
        refine ⟨rs, w2.h, by rw [al.1, lM]; exact lt_size (by omega), upd F2 r (.lst es), rs ++ [.ref r], M ++ [row], b2, g2.set w2.f (.inl w2.n), hpG.off pD, by omega, w2.set, (al.up s2).app (All2.one ⟨r, es, rfl, upd_same, ae.up s2⟩), by rw [List.length_append, lM]; rfl, fun row' z => ?_⟩
        rcases List.mem_append.mp z with z | z
        · exact hM row' z
        · rw [List.mem_singleton.mp z]; exact ⟨lr, hrow⟩
    · rintro G ⟨F1, rs, M, b1, g, hpG, hb1, w, al, lM, hM⟩
      have lM : M.length = R := by rw [lM]; exact Int.toNat_natCast R
      have hb1 : b1 ≤ b + 8 + 40 * R := by rw [show ((R : Int).toNat : Int) = R from by rw [Int.toNat_natCast]] at hb1; exact hb1
      refine q (upd F1 D (.lst rs)) G _ M R S (g.frz w.h w.n w.f) (hpG.le (by omega)) ⟨by omega, by omega, by omega, by omega, lM, fun r z => (hM r z).1, fun r z => (hM r z).2⟩ ⟨D, rs, rfl, upd_same, al.up (sm_new (Same.refl F1) w.f)⟩
abbrev Rs := T3 (List PI) Int (List PI)
def OkS (S : Nat) (l : List PI) : Prop := ∀ q ∈ l, (0 ≤ q.a ∧ q.a < S) ∧ 1 ≤ q.b
theorem OkS.nil {S : Nat} : OkS S [] := fun q z => nomatch z
theorem OkS.rev {S : Nat} {l : List PI} (h : OkS S l) : OkS S l.reverse := fun q z => h q (List.mem_reverse.mp z)
theorem All2.rev {α β : Type} {r : α → β → Prop} : ∀ {xs : List α} {ys : List β}, All2 r xs ys → All2 r xs.reverse ys.reverse
  | [], [], _ => All2.nil
  | [], y :: ys, h => by have := h.1; simp at this
  | x :: xs, [], h => by have := h.1; simp at this
  | x :: xs, y :: ys, h => by
    rw [List.reverse_cons, List.reverse_cons]
    exact (All2.rev (xs := xs) (ys := ys) ⟨by have := h.1; simpa using this, fun i a b p q => h.2 (i + 1) a b (by simpa using p) (by simpa using q)⟩).app (All2.one (h.2 0 x y rfl rfl))
def sp_L_side : Sp := fun vs H Q _ => ∃ (F : Hp) (p : Addr) (S : Nat) (b : Int) (near : Bool), vs = [.ref p, .int S, .bl near] ∧ Same F H ∧ F p = none ∧ PuAt H p b ∧ b ≤ 700000 ∧ 2 ≤ S ∧ S ≤ 4 ∧
  ∀ (F' H' : Hp) (v : V) (l : List PI), Gr (muP p) F H F' H' → PuAt H' p (b + 100) → Is F' v l → OkS S l → l.length ≤ 8 → Q v H'
theorem ok_L_side (t : Tx K mg) : FnOk P w K mg base CX0 3 t.a_L_side t.fd_L_side ["_law_purse_here", "_law_signs", "_law_near_first"] sp_L_side := by
  refine t.F_L_side.ok sc_L_side (fun vs H Q E h => ?_) (fun cdv A outer s H vs Q E hr h => ?_)
  · obtain ⟨F, p, S, b, near, rfl, _⟩ := h
    rfl
  · obtain ⟨F, p, S, b, near, rfl, sF, fp, hp, hb, S2, S4, q⟩ := h
    refine ⟨_, (pss_cons (ps_set (i := 3) sc_L_side.nd rfl (by first | exact Or.inl rfl | exact Or.inr rfl) (pe_lst pa_nil))
      (pss_cons (ps_set (i := 4) sc_L_side.nd rfl (by first | exact Or.inl rfl | exact Or.inr rfl) pe_int)
      (pss_cons (ps_for PassesOwn.never rfl (pi_range1 (by rfl) t.n_range (pa_cons (pe_call (ok_L_draw t) (hr.mono (by decide)) (by rfl) t.m_L_draw t.F_L_draw.kp t.b_L_draw .nil pass0 (pa_cons (pv 0) (pa_cons (pe_ix ix_list (pe_lst (pa_cons pe_int (pa_cons pe_int (pa_cons pe_int pa_nil)))) (pe_call (ok_L_draw t) (hr.mono (by decide)) (by rfl) t.m_L_draw t.F_L_draw.kp t.b_L_draw .nil pass0 (pa_cons (pv 0) (pa_cons pe_int pa_nil))) (fun _ _ => rfl)) pa_nil))) pa_nil)) (pg_name (i := 5) sc_L_side.nd rfl (by first | exact Or.inl rfl | exact Or.inr rfl)) (pss_cons (ps_set (i := 6) sc_L_side.nd rfl (by first | exact Or.inl rfl | exact Or.inr rfl) (pe_op op_mod (pe_op op_add (pe_op op_add (pv 4) pe_int) (pe_call (ok_L_draw t) (hr.mono (by decide)) (by rfl) t.m_L_draw t.F_L_draw.kp t.b_L_draw .nil pass0 (pa_cons (pv 0) (pa_cons (pe_op op_sub (pv 1) pe_int) pa_nil)))) (pv 1)))
      (pss_cons (ps_set (i := 7) sc_L_side.nd rfl (by first | exact Or.inl rfl | exact Or.inr rfl) (pe_op op_add pe_int (pe_call (ok_L_draw t) (hr.mono (by decide)) (by rfl) t.m_L_draw t.F_L_draw.kp t.b_L_draw .nil pass0 (pa_cons (pv 0) (pa_cons (pe_ix ix_list (pe_lst (pa_cons pe_int (pa_cons pe_int (pa_cons pe_int (pa_cons (pe_op op_pow pe_int pe_int) pa_nil))))) (pe_call (ok_L_draw t) (hr.mono (by decide)) (by rfl) t.m_L_draw t.F_L_draw.kp t.b_L_draw .nil pass0 (pa_cons (pv 0) (pa_cons pe_int pa_nil))) (fun _ _ => rfl)) pa_nil)))))
      (pss_cons (ps_if (pt_cmpR op_gt (pv 7) pe_int (nomark _)) (pss_one (ps_set (i := 7) sc_L_side.nd rfl (by first | exact Or.inl rfl | exact Or.inr rfl) (pe_op op_sub (pe_op op_mul (pv 7) (pe_op op_pow pe_int pe_int)) (pe_call (ok_L_draw t) (hr.mono (by decide)) (by rfl) t.m_L_draw t.F_L_draw.kp t.b_L_draw .nil pass0 (pa_cons (pv 0) (pa_cons (pe_op op_pow pe_int pe_int) pa_nil)))))) pss_nil)
      (pss_cons (ps_expr (pe_bm PySem.F.plainAttrs_list PySem.F.slot_list_append PySem.F.type_list_append mt_append (pv 3) (pa_cons (pe_tup (pa_cons (pv 6) (pa_cons (pv 7) pa_nil))) pa_nil)))
      (pss_one (ps_set (i := 4) sc_L_side.nd rfl (by first | exact Or.inl rfl | exact Or.inr rfl) (pv 6))))))))
      (pss_cons (ps_if (pt_val (pv 2)) (pss_one (ps_ret (pe_revL (pv 3)))) pss_nil)
      (pss_one (ps_ret (pv 3))))))), ?_⟩
    obtain ⟨po, hpo⟩ := hp.ex
    have g0 : Gr (muP p) F H F H := Gr.refl sF
    refine ⟨nil_le, fun D nD => ?_⟩
    have pD := hp.ne nD
    have g1 := g0.own (o := .lst []) nD
    have w1 : Ow H F (upd H D (.lst [])) D (.lst []) := Ow.mk1 g0 nD
    have hp1 := hp.ln (o := .lst []) nD
    generalize upd H D (.lst []) = H1 at g1 w1 hp1
    refine ⟨_, rfl, three_le, fun l nl => ?_⟩
    have g2 := g1.own (o := .lst [.int 1, .int 3, .int 8]) nl
    have w2 := w1.own (u := .lst [.int 1, .int 3, .int 8]) nl
    have hp2 := hp1.ln (o := .lst [.int 1, .int 3, .int 8]) nl
    have pl := hp1.ne nl
    have hl : (upd H1 l (.lst [.int 1, .int 3, .int 8])) l = some (.lst [.int 1, .int 3, .int 8]) := upd_same
    generalize upd H1 l (.lst [.int 1, .int 3, .int 8]) = H2 at g2 w2 hp2 hl
    refine ⟨_, rfl, F, p, 3, _, rfl, g2.fh, fp, hp2, by omega, by decide, by decide, fun d1 H3 d10 d11 g3 hp3 => ?_⟩
    have ef : ∃ f : Int, atI [V.int 1, V.int 3, V.int 8] d1 = some (.int f) ∧ 0 < f ∧ f ≤ 8 := by
      rcases (by omega : d1 = 0 ∨ d1 = 1 ∨ d1 = 2) with rfl | rfl | rfl <;> exact ⟨_, rfl, by decide, by decide⟩
    obtain ⟨f, ef, f0, f1⟩ := ef
    refine ⟨l, _, _, _, rfl, rfl, SqL.of (g3.fr _ _ hl (Ne.symm pl)), ef, ?_⟩
    refine ⟨F, p, f, _, rfl, g3.fh, fp, hp3, by omega, f0, by omega, fun d2 H4 d20 d21 g4 hp4 => ?_⟩
    have g5 := (g2.trans g3).trans g4
    have w5 := (w2.call g3 (Ne.symm pD)).call g4 (Ne.symm pD)
    refine ⟨d2, rfl, by omega, by omega, for_range (lo := 0) (n := d2.toNat) (fun i σ G => ∃ (F1 : Hp) (xs : List V) (l : List PI) (b1 last : Int) (v5 v6 v7 : Option V), σ = [some (.ref p), some (.int S), some (.bl near), some (.ref D), some (.int last), v5, v6, v7] ∧ Gr (muP p) F H F1 G ∧ PuAt G p b1 ∧ b1 ≤ b + 4 + 8 * i ∧ Ow H F1 G D (.lst xs) ∧ IsAll F1 xs l ∧ l.length = i ∧ OkS S l)
      ⟨F, [], [], _, 0, none, none, none, rfl, g5, hp4, by omega, w5, All2.nil, rfl, OkS.nil⟩ ?_ ?_⟩
    · rintro i σ G hi ⟨F1, xs, l, b1, last, v5, v6, v7, rfl, g, hpG, hb1, w, al, ll, hl⟩
      have i8 : i < 8 := by omega
      have fp1 := hp.f fp g
      -- the sign
      refine ⟨_, rfl, _, _, rfl, rfl, _, rfl, _, rfl, _, _, rfl, rfl, F1, p, (S : Int) - 1, b1, rfl, g.fh, fp1, hpG, by omega, by omega, by omega, fun e1 G1 e10 e11 g1 hp1 => ⟨_, _, rfl, rfl, _, rfl, _, _, rfl, rfl, (by show (0 : Int) < S; omega), ?_⟩⟩
      have a0 : 0 ≤ (last + 1 + e1) % (S : Int) := Int.emod_nonneg _ (by omega)
      have a1 : (last + 1 + e1) % (S : Int) < S := Int.emod_lt_of_pos _ (by omega)
      dsimp only
      generalize (last + 1 + e1) % (S : Int) = sg at a0 a1 ⊢
      -- how many
      refine ⟨_, rfl, _, _, rfl, rfl, ⟨by decide, by decide, by decide⟩, by show 4 ≤ sizeLine; decide, fun l' nl' => ?_⟩
      have e14 : (10 : Int) ^ (14 : Int).toNat = 100000000000000 := by decide
      dsimp only
      rw [e14]
      have g2 := (g.trans g1).own (o := .lst [.int 1, .int 3, .int 9, .int 100000000000000]) nl'
      have w2 := (w.call g1 (Ne.symm pD)).own (u := .lst [.int 1, .int 3, .int 9, .int 100000000000000]) nl'
      have hp2 := hp1.ln (o := .lst [.int 1, .int 3, .int 9, .int 100000000000000]) nl'
      have pl' := hp1.ne nl'
      have hl' : (upd G1 l' (.lst [.int 1, .int 3, .int 9, .int 100000000000000])) l' = some (.lst [.int 1, .int 3, .int 9, .int 100000000000000]) := upd_same
      generalize upd G1 l' (.lst [.int 1, .int 3, .int 9, .int 100000000000000]) = G2 at g2 w2 hp2 hl'
      refine ⟨_, rfl, F1, p, 4, _, rfl, g2.fh, fp1, hp2, by omega, by decide, by decide, fun e2 G3 e20 e21 g3 hp3 => ?_⟩
      have ef : ∃ f : Int, atI [V.int 1, V.int 3, V.int 9, V.int 100000000000000] e2 = some (.int f) ∧ 0 < f ∧ f ≤ 100000000000000 := by
        rcases (by omega : e2 = 0 ∨ e2 = 1 ∨ e2 = 2 ∨ e2 = 3) with rfl | rfl | rfl | rfl <;> exact ⟨_, rfl, by decide, by decide⟩
      obtain ⟨f, ef, f0, f1⟩ := ef
      refine ⟨l', _, _, _, rfl, rfl, SqL.of (g3.fr _ _ hl' (Ne.symm pl')), ef, ?_⟩
      refine ⟨F1, p, f, _, rfl, g3.fh, fp1, hp3, by omega, f0, by omega, fun e3 G4 e30 e31 g4 hp4 => ⟨_, _, rfl, rfl, ?_⟩⟩
      have g4' := (g2.trans g3).trans g4
      have w4 := (w2.call g3 (Ne.symm pD)).call g4 (Ne.symm pD)
      refine ⟨_, rfl, _, _, rfl, rfl, _, rfl, ?_⟩
      refine ite2 (fun c => ?A) (fun c => ?B)
      case' A =>
        have c := of_decide_eq_true c
        refine ⟨_, rfl, _, _, rfl, rfl, ⟨by decide, by decide, by decide⟩, _, _, rfl, rfl, .inr ⟨by decide, by decide⟩, _, rfl, _, _, rfl, rfl, ⟨by decide, by decide, by decide⟩, ?_⟩
        dsimp only
        rw [e14]
        refine ⟨F1, p, 100000000000000, _, rfl, g4.fh, fp1, hp4, by omega, by decide, by decide, fun e4 G5 e40 e41 g5 hp5 => ⟨_, _, rfl, rfl, ?_⟩⟩
        have m1 : 1 ≤ (1 + e3) * 100000000000000 - e4 := by omega
        dsimp only
        generalize (1 + e3) * 100000000000000 - e4 = many at m1 ⊢
        have gg := g4'.trans g5
        have ww := w4.call g5 (Ne.symm pD)
        have hh := hp5.le (b' := b1 + 8) (by omega)
      case' B =>
        have m1 : 1 ≤ 1 + e3 := by omega
        dsimp only
        generalize 1 + e3 = many at m1 ⊢
        have gg := g4'
        have ww := w4
        have hh := hp4.le (b' := b1 + 8) (by omega)
      all_goals
        refine ⟨_, rfl, .inl ⟨rfl, _, SqL.of ww.h⟩, _, rfl, _, rfl, two_le, fun t nt => ?_⟩
        have g6 := gg.new (o := .tup [.int sg, .int many]) nt
        have w6 := ww.new (u := .tup [.int sg, .int many]) nt
        have hp6 := hh.ln (o := .tup [.int sg, .int many]) nt
        have s6 : Same F1 (upd F1 t (.tup [.int sg, .int many])) := sm_new (Same.refl F1) (gg.fh.free nt)
        refine ⟨D, _, _, rfl, rfl, w6.h, by rw [al.1, ll]; exact lt_size (by omega), _, rfl, ?_⟩
        refine ⟨upd F1 t (.tup [.int sg, .int many]), xs ++ [.ref t], l ++ [⟨sg, many⟩], b1 + 8, sg, _, _, _, rfl, g6.set w6.f (.inl w6.n), hp6.off pD, by omega, w6.set, (al.up s6).app (All2.one ⟨t, _, _, rfl, upd_same, rfl, rfl⟩), by rw [List.length_append, ll]; rfl, fun q0 z => ?_⟩
        rcases List.mem_append.mp z with z | z
        · exact hl q0 z
        · rw [List.mem_singleton.mp z]; exact ⟨⟨a0, a1⟩, m1⟩
    · rintro σ G ⟨F1, xs, l, b1, last, v5, v6, v7, rfl, g, hpG, hb1, w, al, ll, hl⟩
      have l8 : l.length ≤ 8 := by omega
      have hb2 : b1 ≤ b + 68 := by omega
      have h0 := w.h
      refine ⟨_, rfl, near, rfl, ?_⟩
      refine ite2 (fun c => ?_) (fun c => ?_)
      · refine ⟨_, rfl, _, _, rfl, SqL.of h0, fun u nu => ?_⟩
        refine q (upd F1 u (.lst xs.reverse)) _ _ l.reverse (g.new nu) ((hpG.ln nu).le (by omega)) ⟨u, _, rfl, upd_same, (al.up (sm_new (Same.refl F1) (g.fh.free nu))).rev⟩ hl.rev (by rw [List.length_reverse]; exact l8)
      · exact ⟨_, rfl, q (upd F1 D (.lst xs)) G _ l (g.frz w.h w.n w.f) (hpG.le (by omega)) ⟨D, xs, rfl, upd_same, al.up (sm_new (Same.refl F1) w.f)⟩ hl l8⟩
def OkR (S : Nat) (x : Rs) : Prop := (OkS S x.a ∧ x.a.length ≤ 600) ∧ (0 ≤ x.b ∧ x.b < S) ∧ OkS S x.c ∧ x.c.length ≤ 600
def sp_L_runs : Sp := fun vs H Q _ => ∃ (F : Hp) (p : Addr) (S : Nat) (b : Int), vs = [.ref p, .int S] ∧ Same F H ∧ F p = none ∧ PuAt H p b ∧ b ≤ 600000 ∧ 2 ≤ S ∧ S ≤ 4 ∧
  ∀ (F' H' : Hp) (v : V) (x : Rs), Gr (muP p) F H F' H' → PuAt H' p (b + 300) → Is F' v x → OkR S x → x.a.length ≤ 8 → x.c.length ≤ 8 → Q v H'
theorem ok_L_runs (t : Tx K mg) : FnOk P w K mg base CX0 4 t.a_L_runs t.fd_L_runs ["_law_purse_here", "_law_signs"] sp_L_runs := by
  refine t.F_L_runs.ok sc_L_runs (fun vs H Q E h => ?_) (fun cdv A outer s H vs Q E hr h => ?_)
  · obtain ⟨F, p, S, b, rfl, _⟩ := h
    rfl
  · obtain ⟨F, p, S, b, rfl, sF, fp, hp, hb, S2, S4, q⟩ := h
    refine ⟨_, (pss_cons (ps_set (i := 2) sc_L_runs.nd rfl (by first | exact Or.inl rfl | exact Or.inr rfl) (pe_call (ok_L_side t) (hr.mono (by decide)) (by rfl) t.m_L_side t.F_L_side.kp t.b_L_side .nil pass0 (pa_cons (pv 0) (pa_cons (pv 1) (pa_cons pe_bl pa_nil)))))
      (pss_one (ps_ret (pe_tup (pa_cons (pv 2) (pa_cons (pe_call (ok_L_draw t) (hr.mono (by decide)) (by rfl) t.m_L_draw t.F_L_draw.kp t.b_L_draw .nil pass0 (pa_cons (pv 0) (pa_cons (pv 1) pa_nil))) (pa_cons (pe_call (ok_L_side t) (hr.mono (by decide)) (by rfl) t.m_L_side t.F_L_side.kp t.b_L_side .nil pass0 (pa_cons (pv 0) (pa_cons (pv 1) (pa_cons pe_bl pa_nil)))) pa_nil))))))), ?_⟩
    refine ⟨_, rfl, _, rfl, F, p, S, b, false, rfl, sF, fp, hp, by omega, S2, S4, fun F1 H1 v1 l1 g1 hp1 i1 o1 k1 => ?_⟩
    have fp1 := hp.f fp g1
    refine ⟨_, rfl, _, rfl, _, rfl, F1, p, (S : Int), _, rfl, g1.fh, fp1, hp1, by omega, by omega, by omega, fun d H2 d0 d1 g2 hp2 => ?_⟩
    refine ⟨_, rfl, _, rfl, F1, p, S, _, true, rfl, g2.fh, fp1, hp2, by omega, S2, S4, fun F3 H3 v3 l3 g3 hp3 i3 o3 k3 => ⟨three_le, fun u nu => ?_⟩⟩
    have g4 := (g1.trans g2).trans g3
    refine q (upd F3 u (.tup [v1, .int d, v3])) _ (.ref u) ⟨l1, d, l3⟩ (g4.new nu) ((hp3.ln nu).le (by omega)) ⟨u, _, _, _, rfl, upd_same, ?_, rfl, ?_⟩ ⟨⟨o1, by show l1.length ≤ 600; omega⟩, ⟨d0, d1⟩, o3, by show l3.length ≤ 600; omega⟩ k1 k3
    · exact (Is.up i1 g3.ff).up (sm_new (Same.refl F3) (g4.fh.free nu))
    · exact i3.up (sm_new (Same.refl F3) (g4.fh.free nu))
/-! ### strips by runs -/
def laid (l : List PI) (s n : Int) : List PI := if n = 0 ∨ (l = [] ∧ s = 0) then l else match l with
  | [] => [⟨s, n⟩]
  | h :: r => if h.a = s then ⟨s, h.b + n⟩ :: r else ⟨s, n⟩ :: h :: r
def takn (l : List PI) : Int × List PI := match l with
  | [] => (0, [])
  | h :: r => if h.b = 1 then (h.a, r) else (h.a, ⟨h.a, h.b - 1⟩ :: r)
theorem laid_len {l : List PI} {s n : Int} : (laid l s n).length ≤ l.length + 1 := by
  unfold laid
  split
  · omega
  · split
    · simp
    · split <;> simp
theorem takn_len {l : List PI} : (takn l).2.length ≤ l.length := by
  unfold takn
  split
  · simp
  · split <;> simp
theorem laid_same {l : List PI} {s n : Int} (h : n = 0 ∨ (l = [] ∧ s = 0)) : laid l s n = l := by
  unfold laid
  rw [if_pos h]
theorem laid_nil {s n : Int} (h : ¬ n = 0) (k : ¬ s = 0) : laid [] s n = [⟨s, n⟩] := by
  unfold laid
  rw [if_neg (by rintro (z | z); exact h z; exact k z.2)]
theorem laid_cons {s n : Int} {x : PI} {r : List PI} (h : ¬ n = 0) : laid (x :: r) s n = if x.a = s then ⟨s, x.b + n⟩ :: r else ⟨s, n⟩ :: x :: r := by
  unfold laid
  rw [if_neg (by
    rintro (z | z)
    · exact h z
    · exact absurd z.1 (by simp))]
theorem laid_ok {S : Nat} {l : List PI} {s n : Int} (h : OkS S l) (h0 : 0 ≤ s) (h1 : s < S) (n1 : 1 ≤ n) : OkS S (laid l s n) := by
  have n0 : ¬ n = 0 := by omega
  cases l with
  | nil =>
    by_cases c : s = 0
    · rw [laid_same (.inr ⟨rfl, c⟩)]; exact h
    · rw [laid_nil n0 c]
      intro q z
      rw [List.mem_singleton.mp z]
      exact ⟨⟨h0, h1⟩, n1⟩
  | cons a r =>
    rw [laid_cons n0]
    have ha := h a (List.mem_cons_self ..)
    split
    · intro q z
      rcases List.mem_cons.mp z with rfl | z
      · exact ⟨⟨h0, h1⟩, by show 1 ≤ a.b + n; omega⟩
      · exact h q (List.mem_cons_of_mem _ z)
    · intro q z
      rcases List.mem_cons.mp z with rfl | z
      · exact ⟨⟨h0, h1⟩, n1⟩
      · exact h q z
theorem takn_ok {S : Nat} {l : List PI} (h : OkS S l) (S1 : 1 ≤ S) : OkS S (takn l).2 ∧ 0 ≤ (takn l).1 ∧ (takn l).1 < S := by
  cases l with
  | nil => exact ⟨OkS.nil, by show (0 : Int) ≤ 0; omega, by show (0 : Int) < S; omega⟩
  | cons a r =>
    unfold takn
    dsimp only
    have ha := h a (List.mem_cons_self ..)
    have hr : OkS S r := fun q z => h q (List.mem_cons_of_mem _ z)
    split
    · exact ⟨hr, ha.1.1, ha.1.2⟩
    · rename_i c
      refine ⟨fun q z => ?_, ha.1.1, ha.1.2⟩
      rcases List.mem_cons.mp z with rfl | z
      · exact ⟨ha.1, by show 1 ≤ a.b - 1; omega⟩
      · exact hr q z
theorem is_nil {F : Hp} {p : Addr} {α : Type} [Dat α] (h : F p = some (.lst [])) : Is F (.ref p) ([] : List α) := ⟨p, [], rfl, h, All2.nil⟩
theorem int_eq {a b : Int} : decide (V.int a = V.int b) = decide (a = b) := by
  by_cases h : a = b
  · subst h; simp
  · rw [decide_eq_false h, decide_eq_false fun e => h (V.int.inj e)]
def sp_L_copied : Sp := fun vs H Q _ => ∃ (F : Hp) (v : V) (x : Rs), vs = [v] ∧ Same F H ∧ Is F v x ∧ ∀ (F' H' : Hp) (u : V), Gr mu0 F H F' H' → Is F' u x → Q u H'
theorem ok_L_copied (t : Tx K mg) : FnOk P w K mg base CX0 1 t.a_L_copied t.fd_L_copied ["_law_runs_here"] sp_L_copied := by
  refine t.F_L_copied.ok sc_L_copied (fun vs H Q E h => ?_) (fun cdv A outer s H vs Q E hr h => ?_)
  · obtain ⟨F, v, x, rfl, _⟩ := h
    rfl
  · obtain ⟨F, v, x, rfl, sF, hv, q⟩ := h
    refine ⟨_, (pss_one (ps_ret (pe_tup (pa_cons (pe_callTy (T := "list") call_listQ (by rfl) t.n_list (by decide +kernel) (pa_cons (pe_ix ix_tup (pv 0) pe_int (fun _ _ => rfl)) pa_nil)) (pa_cons (pe_ix ix_tup (pv 0) pe_int (fun _ _ => rfl)) (pa_cons (pe_callTy (T := "list") call_listQ (by rfl) t.n_list (by decide +kernel) (pa_cons (pe_ix ix_tup (pv 0) pe_int (fun _ _ => rfl)) pa_nil)) pa_nil)))))), ?_⟩
    have g0 : Gr mu0 F H F H := Gr.refl sF
    obtain ⟨p, x1, x2, x3, rfl, hp, ⟨a, xs, rfl, ha, hxs⟩, e2, ⟨c, zs, rfl, hc, hzs⟩⟩ := hv
    have e2 : x2 = .int x.b := e2
    subst e2
    refine ⟨_, rfl, p, _, _, _, rfl, rfl, SqT.of (sF _ _ hp), atI_nat (j := 0) rfl, a, xs, rfl, .inl (SqL.of (sF _ _ ha)), fun b nb => ?_⟩
    have g1 := g0.new (o := .lst xs) nb
    refine ⟨_, rfl, p, _, _, _, rfl, rfl, SqT.of (g1.fh _ _ (g1.ff _ _ hp)), atI_nat (j := 1) rfl, _, rfl, p, _, _, _, rfl, rfl, SqT.of (g1.fh _ _ (g1.ff _ _ hp)), atI_nat (j := 2) rfl, c, zs, rfl, .inl (SqL.of (g1.fh _ _ (g1.ff _ _ hc))), fun d nd => ⟨three_le, fun u nu => ?_⟩⟩
    have g2 := g1.new (o := .lst zs) nd
    have g3 := g2.new (o := .tup [.ref b, .int x.b, .ref d]) nu
    refine q _ _ (.ref u) g3 ⟨u, _, _, _, rfl, upd_same, ⟨b, xs, rfl, ?_, IsAll.up hxs g3.ff⟩, rfl, ⟨d, zs, rfl, ?_, IsAll.up hzs g3.ff⟩⟩
    · rw [upd_ne (ne_of_none (ln nd upd_same) nu), upd_ne (ne_of_none upd_same nd)]; exact upd_same
    · rw [upd_ne (ne_of_none upd_same nu)]; exact upd_same
/-! ### the program's strips by runs: the nearest ones last -/
theorem All2.snoc {α β : Type} {r : α → β → Prop} {xs : List α} {ys : List β} {y : β} (h : All2 r xs (ys ++ [y])) : ∃ xs' x, xs = xs' ++ [x] ∧ All2 r xs' ys ∧ r x y := by
  have l := h.1
  rw [List.length_append] at l
  have l : xs.length = ys.length + 1 := l
  have h1 := h.take ys.length
  have h2 := h.drop ys.length
  rw [List.take_left] at h1
  rw [List.drop_left] at h2
  cases e : xs.drop ys.length with
  | nil => rw [e] at h2; have := h2.1; simp at this
  | cons z zs =>
    rw [e] at h2
    have e3 : zs = [] := by
      have := h2.1
      simp at this
      exact this
    subst e3
    refine ⟨xs.take ys.length, z, ?_, h1, h2.2 0 z y rfl rfl⟩
    rw [← e, List.take_append_drop]
structure LsAt (F H : Hp) (a : Addr) (l : List PI) : Prop where
  h : ∃ xs, H a = some (.lst xs) ∧ IsAll F xs l.reverse
  f : F a = none
theorem LsAt.gr {mu : Addr → Prop} {F H F' H' : Hp} {a : Addr} {l : List PI} (x : LsAt F H a l) (g : Gr mu F H F' H') (m : ¬ mu a) : LsAt F' H' a l := by
  obtain ⟨⟨xs, h, i⟩, f⟩ := x
  exact ⟨⟨xs, g.fr _ _ h m, IsAll.up i g.ff⟩, g.pf0 f h⟩
theorem LsAt.is {F H : Hp} {a : Addr} {l : List PI} (x : LsAt F H a l) (s : Same F H) : Is H (.ref a) l.reverse := by
  obtain ⟨⟨xs, h, i⟩, f⟩ := x
  exact ⟨a, xs, rfl, h, IsAll.up i s⟩
theorem rev_nil_iff {l : List PI} : decide (l.reverse = []) = decide (l = []) := by
  cases l with
  | nil => rfl
  | cons x r => rw [decide_eq_false (by simp), decide_eq_false (by simp)]
def sp_put_run : Sp := fun vs H Q _ => ∃ (F : Hp) (a : Addr) (l : List PI) (s n : Int), vs = [.ref a, .int s, .int n] ∧ Same F H ∧ LsAt F H a l ∧ l.length ≤ 2000 ∧
  ∀ (F' H' : Hp), Gr (muP a) F H F' H' → LsAt F' H' a (laid l s n) → Q .non H'
theorem ok_put_run (t : Tx K mg) : FnOk P w K mg base CX0 1 t.a_put_run t.fd_put_run ["runs", "sign", "many"] sp_put_run := by
  refine t.F_put_run.ok sc_put_run (fun vs H Q E h => ?_) (fun cdv A outer s H vs Q E hr h => ?_)
  · obtain ⟨F, a, l, sg, n, rfl, _⟩ := h
    rfl
  · obtain ⟨F, a, l, sg, n, rfl, sF, hL, hl, q⟩ := h
    refine ⟨_, (pss_cons (ps_if (PW.pt (pw_or (pt_cmpR op_eq (pv 2) pe_int (nomark _)) (pw_or1 (PW.pt (pw_and (pt_cmpR (op_eqD hr.units) (pv 0) (pe_lst pa_nil) (nomark _)) (pw_and1 (pt_cmpR op_eq (pv 1) pe_int (nomark _)))))))) (pss_one ps_retN) pss_nil)
      (pss_cons (ps_if (PW.pt (pw_and (pt_cmpR (op_neD hr.units) (pv 0) (pe_lst pa_nil) (nomark _)) (pw_and1 (pt_cmpR op_eq (pe_ix ix_tup (pe_ix ix_list (pv 0) (pe_un un_neg pe_int) (fun _ _ => rfl)) pe_int (fun _ _ => rfl)) (pv 1) (nomark _))))) (pss_one (ps_aug (i := 2) sc_put_run.nd rfl (by first | exact Or.inl rfl | exact Or.inr rfl) (pe_ix ix_tup (pe_bm0 PySem.F.plainAttrs_list PySem.F.slot_list_pop PySem.F.type_list_pop mt_pop (pv 0)) pe_int (fun _ _ => rfl)) ip_add)) pss_nil)
      (pss_one (ps_expr (pe_bm PySem.F.plainAttrs_list PySem.F.slot_list_append PySem.F.type_list_append mt_append (pv 0) (pa_cons (pe_tup (pa_cons (pv 1) (pa_cons (pv 2) pa_nil))) pa_nil)))))), ?_⟩
    have g0 : Gr (muP a) F H F H := Gr.refl sF
    refine ⟨_, rfl, rfl, _, rfl, ?_⟩
    rw [int_eq]
    refine ite2 (fun c => ifT rfl ?_) (fun c => ?_)
    · exact q F H g0 (by rw [laid_same (.inl (of_decide_eq_true c))]; exact hL)
    have n0 : ¬ n = 0 := fun z => c (decide_eq_true z)
    refine ⟨_, rfl, nil_le, fun e1 ne1 => ?_⟩
    have g1 := g0.own (o := .lst []) ne1
    have ae1 : a ≠ e1 := by obtain ⟨⟨xs, h, i⟩, f⟩ := hL; exact ne_of_none h ne1
    have hL1 : LsAt F (upd H e1 (.lst [])) a l := hL.gr ((Gr.refl (mu := mu0) sF).own ne1) fun z => z
    refine eq_dat (a := l.reverse) (b := ([] : List PI)) (hL1.is g1.fh) (is_nil upd_same) ⟨_, rfl, ?_⟩
    generalize upd H e1 (.lst []) = H1 at g1 hL1 ⊢
    have fin : ∀ {F2 H2 : Hp} {xs : List V} {t : Addr} {l2 : List PI} {x : PI}, Gr (muP a) F H F2 H2 → H2 t = none → H2 a = some (.lst xs) → IsAll F2 xs l2.reverse → F2 a = none →
        ∀ (m : Int), x = ⟨sg, m⟩ → ∃ F3, Gr (muP a) F H F3 (upd (upd H2 t (.tup [.int sg, .int m])) a (.lst (xs ++ [.ref t]))) ∧ LsAt F3 (upd (upd H2 t (.tup [.int sg, .int m])) a (.lst (xs ++ [.ref t]))) a (x :: l2) := by
      intro F2 H2 xs t l2 x g nt h i f m e
      have g2 := g.new (o := .tup [.int sg, .int m]) nt
      have at' : a ≠ t := ne_of_none h nt
      have fa : (upd F2 t (.tup [.int sg, .int m])) a = none := by rw [upd_ne at']; exact f
      have s2 : Same F2 (upd F2 t (.tup [.int sg, .int m])) := sm_new (Same.refl F2) (g.fh.free nt)
      refine ⟨_, g2.set fa (.inr rfl), ⟨⟨_, upd_same, ?_⟩, fa⟩⟩
      rw [List.reverse_cons, e]
      exact (IsAll.up i s2).app (All2.one ⟨t, _, _, rfl, upd_same, rfl, rfl⟩)
    cases l with
    | nil =>
      refine ifT (decide_eq_true rfl) ⟨_, rfl, rfl, _, rfl, ?_⟩
      rw [int_eq]
      refine ite2 (fun c => ?_) (fun c => ?_)
      · exact q F _ g1 (by rw [laid_same (.inr ⟨rfl, of_decide_eq_true c⟩)]; exact hL1)
      · have s0 : ¬ sg = 0 := fun z => c (decide_eq_true z)
        refine ⟨_, rfl, nil_le, fun e2 ne2 => ?_⟩
        have g2 := g1.own (o := .lst []) ne2
        have hL2 : LsAt F (upd H1 e2 (.lst [])) a [] := hL1.gr ((Gr.refl (mu := mu0) g1.fh).own ne2) fun z => z
        refine ne_dat (a := ([] : List PI)) (b := ([] : List PI)) (hL2.is g2.fh) (is_nil upd_same) ⟨_, rfl, ifF (by simp) (ifF rfl ?_)⟩
        generalize upd H1 e2 (.lst []) = H2 at g2 hL2 ⊢
        obtain ⟨⟨xs, h, i⟩, f⟩ := hL2
        refine ⟨_, rfl, .inl ⟨rfl, _, SqL.of h⟩, _, rfl, _, rfl, two_le, fun t nt => ⟨a, _, _, rfl, rfl, ln nt h, by rw [i.1]; exact lt_size (by simp), ?_⟩⟩
        obtain ⟨F3, g3, k3⟩ := fin (t := t) (l2 := []) g2 nt h i f n rfl
        exact q F3 _ g3 (by rw [laid_nil n0 s0]; exact k3)
    | cons x r =>
      refine ifF (by rw [rev_nil_iff]; rfl) (ifF rfl ?_)
      refine ⟨_, rfl, nil_le, fun e2 ne2 => ?_⟩
      have g2 := g1.own (o := .lst []) ne2
      have hL2 : LsAt F (upd H1 e2 (.lst [])) a (x :: r) := hL1.gr ((Gr.refl (mu := mu0) g1.fh).own ne2) fun z => z
      refine ne_dat (a := (x :: r).reverse) (b := ([] : List PI)) (hL2.is g2.fh) (is_nil upd_same) ⟨_, rfl, ifT (by rw [rev_nil_iff]; rfl) ?_⟩
      generalize upd H1 e2 (.lst []) = H2 at g2 hL2 ⊢
      obtain ⟨⟨xs, h, i⟩, f⟩ := hL2
      have i' := i
      rw [List.reverse_cons] at i'
      obtain ⟨ys, y, rfl, iy, p, y1, y2, rfl, hp, e1', e2'⟩ := i'.snoc
      have e1' : y1 = .int x.a := e1'
      have e2' : y2 = .int x.b := e2'
      subst e1'
      subst e2'
      refine ⟨_, rfl, _, rfl, a, _, _, _, rfl, rfl, SqL.of h, atI_last _ _, p, _, _, _, rfl, rfl, SqT.of (g2.fh _ _ hp), atI_nat (j := 0) rfl, _, rfl, rfl, _, rfl, ?_⟩
      rw [int_eq]
      refine ite2 (fun c => ?_) (fun c => ?_)
      · have c := of_decide_eq_true c
        refine ⟨_, rfl, _, rfl, .inl ⟨rfl, _, SqL.of h⟩, a, _, .ref p, rfl, rfl, h, (by simp), ?_⟩
        rw [List.dropLast_concat]
        have g3 := g2.set (o := .lst ys) f (.inr rfl)
        refine ⟨p, _, _, _, rfl, rfl, SqT.of (g3.fh _ _ hp), atI_nat (j := 1) rfl, _, _, rfl, rfl, ?_⟩
        have h3 : (upd H2 a (.lst ys)) a = some (.lst ys) := upd_same
        refine ⟨_, rfl, .inl ⟨rfl, _, SqL.of h3⟩, _, rfl, _, rfl, two_le, fun t nt => ⟨a, _, _, rfl, rfl, ln nt h3, by rw [iy.1, List.length_reverse]; exact lt_size (by simp at hl; omega), ?_⟩⟩
        obtain ⟨F3, g4, k3⟩ := fin (t := t) (l2 := r) g3 nt h3 iy f (n + x.b) rfl
        refine q F3 _ g4 ?_
        rw [laid_cons n0, if_pos c, Int.add_comm x.b n]
        exact k3
      · have c : ¬ x.a = sg := fun z => c (decide_eq_true z)
        refine ⟨_, rfl, .inl ⟨rfl, _, SqL.of h⟩, _, rfl, _, rfl, two_le, fun t nt => ⟨a, _, _, rfl, rfl, ln nt h, by rw [i.1, List.length_reverse]; exact lt_size (by simp at hl ⊢; omega), ?_⟩⟩
        obtain ⟨F3, g4, k3⟩ := fin (t := t) (l2 := x :: r) g2 nt h i f n rfl
        refine q F3 _ g4 ?_
        rw [laid_cons n0, if_neg c]
        exact k3
def sp_taken : Sp := fun vs H Q _ => ∃ (F : Hp) (a : Addr) (l : List PI), vs = [.ref a] ∧ Same F H ∧ LsAt F H a l ∧ l.length ≤ 2000 ∧ (∀ q ∈ l, 1 ≤ q.b) ∧
  ∀ (F' H' : Hp), Gr (muP a) F H F' H' → LsAt F' H' a (takn l).2 → Q (.int (takn l).1) H'
theorem ok_taken (t : Tx K mg) : FnOk P w K mg base CX0 1 t.a_taken t.fd_taken ["runs"] sp_taken := by
  refine t.F_taken.ok sc_taken (fun vs H Q E h => ?_) (fun cdv A outer s H vs Q E hr h => ?_)
  · obtain ⟨F, a, l, rfl, _⟩ := h
    rfl
  · obtain ⟨F, a, l, rfl, sF, hL, hl, hp1, q⟩ := h
    refine ⟨_, (pss_cons (ps_if (pt_cmpR (op_eqD hr.units) (pv 0) (pe_lst pa_nil) (nomark _)) (pss_one (ps_ret pe_int)) pss_nil)
      (pss_cons (ps_asg (pe_bm0 PySem.F.plainAttrs_list PySem.F.slot_list_pop PySem.F.type_list_pop mt_pop (pv 0)) (pg_tup rfl (pgs_cons (pg_name (i := 1) sc_taken.nd rfl (by first | exact Or.inl rfl | exact Or.inr rfl)) (pgs_cons (pg_name (i := 2) sc_taken.nd rfl (by first | exact Or.inl rfl | exact Or.inr rfl)) pgs_nil))))
      (pss_cons (ps_if (pt_cmpR op_gt (pv 2) pe_int (nomark _)) (pss_one (ps_expr (pe_bm PySem.F.plainAttrs_list PySem.F.slot_list_append PySem.F.type_list_append mt_append (pv 0) (pa_cons (pe_tup (pa_cons (pv 1) (pa_cons (pe_op op_sub (pv 2) pe_int) pa_nil))) pa_nil)))) pss_nil)
      (pss_one (ps_ret (pv 1)))))), ?_⟩
    have g0 : Gr (muP a) F H F H := Gr.refl sF
    refine ⟨_, rfl, nil_le, fun e1 ne1 => ?_⟩
    have g1 := g0.own (o := .lst []) ne1
    have hL1 : LsAt F (upd H e1 (.lst [])) a l := hL.gr ((Gr.refl (mu := mu0) sF).own ne1) fun z => z
    refine eq_dat (a := l.reverse) (b := ([] : List PI)) (hL1.is g1.fh) (is_nil upd_same) ⟨_, rfl, ?_⟩
    generalize upd H e1 (.lst []) = H1 at g1 hL1 ⊢
    cases l with
    | nil => exact ifT (decide_eq_true rfl) (q F H1 g1 hL1)
    | cons x r =>
      refine ifF (by rw [rev_nil_iff]; rfl) ?_
      obtain ⟨⟨xs, h, i⟩, f⟩ := hL1
      rw [List.reverse_cons] at i
      obtain ⟨ys, y, rfl, iy, p, y1, y2, rfl, hp, e1', e2'⟩ := i.snoc
      have e1' : y1 = .int x.a := e1'
      have e2' : y2 = .int x.b := e2'
      subst e1'
      subst e2'
      have xb := hp1 x (List.mem_cons_self ..)
      refine ⟨_, rfl, .inl ⟨rfl, _, SqL.of h⟩, a, _, .ref p, rfl, rfl, h, (by simp), ?_⟩
      rw [List.dropLast_concat]
      have g3 := g1.set (o := .lst ys) f (.inr rfl)
      have h3 : (upd H1 a (.lst ys)) a = some (.lst ys) := upd_same
      refine ⟨p, _, rfl, SqT.of (g3.fh _ _ hp), rfl, _, _, rfl, _, _, rfl, rfl, _, rfl, _, _, rfl, rfl, _, rfl, ?_⟩
      refine ite2 (fun c => ?_) (fun c => ?_)
      · have c := of_decide_eq_true c
        have et : takn (x :: r) = (x.a, ⟨x.a, x.b - 1⟩ :: r) := by
          unfold takn
          exact if_neg (by omega)
        refine ⟨_, rfl, .inl ⟨rfl, _, SqL.of h3⟩, _, rfl, _, rfl, _, _, rfl, rfl, two_le, fun t nt => ⟨a, _, _, rfl, rfl, ln nt h3, by rw [iy.1, List.length_reverse]; exact lt_size (by simp at hl; omega), ?_⟩⟩
        have g4 := g3.new (o := .tup [.int x.a, .int (x.b - 1)]) nt
        have at' : a ≠ t := ne_of_none h3 nt
        have fa : (upd F t (.tup [.int x.a, .int (x.b - 1)])) a = none := by rw [upd_ne at']; exact f
        have s2 : Same F (upd F t (.tup [.int x.a, .int (x.b - 1)])) := sm_new (Same.refl F) (g3.fh.free nt)
        have z := q _ _ (g4.set (o := .lst (ys ++ [.ref t])) fa (.inr rfl)) (by
          rw [et]
          refine ⟨⟨_, upd_same, ?_⟩, fa⟩
          rw [List.reverse_cons]
          exact (IsAll.up iy s2).app (All2.one ⟨t, _, _, rfl, upd_same, rfl, rfl⟩))
        rw [et] at z
        exact ⟨_, rfl, z⟩
      · have c : ¬ 1 < x.b := fun z => c (decide_eq_true z)
        have et : takn (x :: r) = (x.a, r) := by
          unfold takn
          exact if_pos (by omega)
        have z := q F _ g3 (by rw [et]; exact ⟨⟨ys, h3, iy⟩, f⟩)
        rw [et] at z
        exact ⟨_, rfl, z⟩
/-! ### words -/
/-- a text that may stand in a datum -/
structure TStr where
  x : Str
  ok : PyData.strOk x = true
  deriving DecidableEq
instance : Dat TStr where
  rep := fun _ v d => v = .str d.x
  mono := fun _ h => h
  py := fun d => .str d.x
  dp := fun h => h ▸ .str _
  can := fun d => d.ok
  dep := 0
  depth := fun _ => Nat.le_refl _
  eqv := fun a b => by
    obtain ⟨a, _⟩ := a; obtain ⟨b, _⟩ := b
    simp [PyData.eqv]
/-! ### four -/
structure T4 (α β γ δ : Type) where
  a : α
  b : β
  c : γ
  d : δ
  deriving DecidableEq
instance [Dat α] [Dat β] [Dat γ] [Dat δ] : Dat (T4 α β γ δ) where
  rep := fun H v d => ∃ p x y z w, v = .ref p ∧ H p = some (.tup [x, y, z, w]) ∧ Is H x d.a ∧ Is H y d.b ∧ Is H z d.c ∧ Is H w d.d
  mono := fun s h => by
    obtain ⟨p, x, y, z, w, e, h, i, j, k, l⟩ := h
    exact ⟨p, x, y, z, w, e, s _ _ h, Is.up i s, Is.up j s, Is.up k s, Is.up l s⟩
  py := fun d => .tuple [Dat.py d.a, Dat.py d.b, Dat.py d.c, Dat.py d.d]
  dp := fun h => by
    obtain ⟨p, x, y, z, w, rfl, h, i, j, k, l⟩ := h
    exact .tup (SqT.of h) (.cons (Dat.dp i) (.cons (Dat.dp j) (.cons (Dat.dp k) (.cons (Dat.dp l) .nil))))
  can := fun d => by
    show (PyData.canLay0 (Dat.py d.a) && (PyData.canLay0 (Dat.py d.b) && (PyData.canLay0 (Dat.py d.c) && (PyData.canLay0 (Dat.py d.d) && true)))) = true
    rw [Dat.can, Dat.can, Dat.can, Dat.can]; rfl
  dep := max (Dat.dep α) (max (Dat.dep β) (max (Dat.dep γ) (Dat.dep δ))) + 1
  depth := fun d => by
    have h1 := Dat.depth d.a
    have h2 := Dat.depth d.b
    have h3 := Dat.depth d.c
    have h4 := Dat.depth d.d
    show max (PyData.depth (Dat.py d.a)) (max (PyData.depth (Dat.py d.b)) (max (PyData.depth (Dat.py d.c)) (max (PyData.depth (Dat.py d.d)) 0))) + 1 ≤ _
    omega
  eqv := fun a b => by
    obtain ⟨a, a', a'', a3⟩ := a; obtain ⟨b, b', b'', b3⟩ := b
    simp [PyData.eqv, PyData.eqvAll, Dat.eqv]
/-! ### strides, gone through -/
structure Sk where
  l : List PI
  r : List PI
  s : Int
  row : Int
  st : Int
def Sk.ah (k : Sk) (b : Bool) : List PI := if b then k.r else k.l
def Sk.bh (k : Sk) (b : Bool) : List PI := if b then k.l else k.r
def eats (k : Sk) (b : Bool) (t : Int) : Bool := decide (t = k.row) && match k.ah b with
  | [] => false
  | h :: _ => decide (h.a = k.s)
def farOf (k : Sk) (b : Bool) (t : Int) : Int := if eats k b t then 1 + (match k.ah b with
  | [] => 0
  | h :: _ => h.b) else 1
def ahOf (k : Sk) (b : Bool) (t : Int) : List PI := if eats k b t then (k.ah b).drop 1 else k.ah b
def stepS (k : Sk) (b : Bool) (p t : Int) : Sk :=
  ⟨if b then laid (k.bh b) p (farOf k b t) else (takn (ahOf k b t)).2, if b then (takn (ahOf k b t)).2 else laid (k.bh b) p (farOf k b t), (takn (ahOf k b t)).1, t, k.st + farOf k b t⟩
def nevr (k : Sk) (b : Bool) (t : Int) : Bool := decide (t = k.row) && (decide (k.s = 0) && decide (k.ah b = []))
def tEnd : TStr := ⟨"end", by decide +kernel⟩
def tNev : TStr := ⟨"never", by decide +kernel⟩
def tOnn : TStr := ⟨"on", by decide +kernel⟩
def entAt (M : Mach) (r s : Int) : Ent := (((M[r.toNat]?).getD [])[s.toNat]?).getD .emp
def strd (M : Mach) : Nat → Sk → TStr × Sk
  | 0, k => (tOnn, k)
  | n + 1, k => match entAt M k.row k.s with
    | .emp => (tEnd, k)
    | .go p w t => if nevr k (decide (w = 1)) t = true then (tNev, k) else strd M n (if n = 0 then k else stepS k (decide (w = 1)) p t)
structure OkK (R S : Nat) (k : Sk) : Prop where
  l : OkS S k.l
  r : OkS S k.r
  s0 : 0 ≤ k.s
  s1 : k.s < S
  r0 : 0 ≤ k.row
  r1 : k.row < R
theorem OkK.ah {R S : Nat} {k : Sk} (h : OkK R S k) (b : Bool) : OkS S (k.ah b) := by
  cases b
  · exact h.l
  · exact h.r
theorem OkK.bh {R S : Nat} {k : Sk} (h : OkK R S k) (b : Bool) : OkS S (k.bh b) := by
  cases b
  · exact h.r
  · exact h.l
theorem OkS.drop {S : Nat} {l : List PI} (h : OkS S l) : OkS S (l.drop 1) := fun q z => h q (List.mem_of_mem_drop z)
theorem far_pos {R S : Nat} {k : Sk} (h : OkK R S k) (b : Bool) (t : Int) : 1 ≤ farOf k b t := by
  unfold farOf
  split
  · have z := h.ah b
    cases e : k.ah b with
    | nil => simp
    | cons x r =>
      rw [e] at z
      have := (z x (List.mem_cons_self ..)).2
      show 1 ≤ 1 + x.b
      omega
  · omega
theorem ahOf_ok {R S : Nat} {k : Sk} (h : OkK R S k) (b : Bool) (t : Int) : OkS S (ahOf k b t) := by
  unfold ahOf
  split
  · exact (h.ah b).drop
  · exact h.ah b
theorem OkK.step {R S : Nat} {k : Sk} (h : OkK R S k) (b : Bool) {p t : Int} (S1 : 1 ≤ S) (p0 : 0 ≤ p) (p1 : p < S) (t0 : 0 ≤ t) (t1 : t < R) : OkK R S (stepS k b p t) := by
  have z := takn_ok (ahOf_ok h b t) S1
  have y := laid_ok (h.bh b) p0 p1 (far_pos h b t)
  cases b
  · exact ⟨z.1, y, z.2.1, z.2.2, t0, t1⟩
  · exact ⟨y, z.1, z.2.1, z.2.2, t0, t1⟩
def LenK (k : Sk) (n : Nat) : Prop := k.l.length ≤ n ∧ k.r.length ≤ n
theorem LenK.ah {k : Sk} {n : Nat} (h : LenK k n) (b : Bool) : (k.ah b).length ≤ n := by
  cases b
  · exact h.1
  · exact h.2
theorem LenK.bh {k : Sk} {n : Nat} (h : LenK k n) (b : Bool) : (k.bh b).length ≤ n := by
  cases b
  · exact h.2
  · exact h.1
theorem ahOf_len {k : Sk} {b : Bool} {t : Int} : (ahOf k b t).length ≤ (k.ah b).length := by
  unfold ahOf
  split
  · rw [List.length_drop]; omega
  · omega
theorem LenK.step {k : Sk} {n : Nat} (h : LenK k n) (b : Bool) {p t : Int} : LenK (stepS k b p t) (n + 1) := by
  have x := @takn_len (ahOf k b t)
  have y := @laid_len (k.bh b) p (farOf k b t)
  have z := @ahOf_len k b t
  have a := h.ah b
  have c := h.bh b
  cases b
  · exact ⟨by show (takn _).2.length ≤ _; omega, by show (laid _ _ _).length ≤ _; omega⟩
  · exact ⟨by show (laid _ _ _).length ≤ _; omega, by show (takn _).2.length ≤ _; omega⟩
theorem ent_of {M : Mach} {R S : Nat} (h : MOk M R S) {r s : Int} (r0 : 0 ≤ r) (r1 : r < R) (s0 : 0 ≤ s) (s1 : s < S) : ∃ row, M[r.toNat]? = some row ∧ row[s.toNat]? = some (entAt M r s) ∧ EOk R S (entAt M r s) := by
  have hr : r.toNat < M.length := by rw [h.len]; omega
  have e1 : M[r.toNat]? = some M[r.toNat] := List.getElem?_eq_getElem hr
  have hs : s.toNat < (M[r.toNat]).length := by rw [h.row _ (List.getElem_mem hr)]; omega
  have e2 : (M[r.toNat])[s.toNat]? = some (M[r.toNat])[s.toNat] := List.getElem?_eq_getElem hs
  have e3 : entAt M r s = (M[r.toNat])[s.toNat] := by
    unfold entAt
    rw [e1]
    show ((M[r.toNat])[s.toNat]?).getD Ent.emp = _
    rw [e2]; rfl
  exact ⟨_, e1, by rw [e3]; exact e2, by rw [e3]; exact h.ent _ (List.getElem_mem hr) _ (List.getElem_mem hs)⟩
/-! two sides: ahead, behind -/
def sd (b : Bool) (x y : V) : List V := [if b then y else x, if b then x else y]
theorem sd_mk (b : Bool) (v w : V) : [v, w] = sd b (if b then w else v) (if b then v else w) := by cases b <;> rfl
theorem sd_at {b : Bool} {x y : V} : atI (sd b x y) (if b = true then 1 else 0) = some x := by cases b <;> rfl
theorem sd_bt {b : Bool} {x y : V} : atI (sd b x y) (1 - (if b = true then 1 else 0)) = some y := by cases b <;> rfl
theorem sd_ia {b : Bool} {x y : V} : ixN (sd b x y).length (if b = true then 1 else 0) = some (if b = true then 1 else 0) := by cases b <;> rfl
theorem sd_ib {b : Bool} {x y : V} : ixN (sd b x y).length (1 - (if b = true then 1 else 0)) = some (if b = true then 0 else 1) := by cases b <;> rfl
theorem sd_sa {b : Bool} {x y z : V} : (sd b x y).set (if b = true then 1 else 0) z = sd b z y := by cases b <;> rfl
theorem sd_sb {b : Bool} {x y z : V} : (sd b x y).set (if b = true then 0 else 1) z = sd b x z := by cases b <;> rfl
theorem Ow.sdb {H F H1 : Hp} {q : Addr} {b : Bool} {x y : V} (w : Ow H F H1 q (.lst (sd b x y))) (z : V) : Ow H F (upd H1 q (.lst (sd b x z))) q (.lst (sd b x z)) := w.set
theorem Gr.sdb {mu : Addr → Prop} {H0 H F H1 : Hp} {q : Addr} {b : Bool} {x y : V} (g : Gr mu H0 H F H1) (w : Ow H F H1 q (.lst (sd b x y))) (z : V) : Gr mu H0 H F (upd H1 q (.lst (sd b x z))) := g.set w.f (.inl w.n)
abbrev Res4 := T4 TStr Int Int Rs
def resOf (z : TStr × Sk) : Res4 := ⟨z.1, z.2.st, z.2.row, ⟨z.2.l.reverse, z.2.s, z.2.r⟩⟩
theorem is_ah {F : Hp} {v0 v1 : V} {k : Sk} (h0 : Is F v0 k.l) (h1 : Is F v1 k.r) (b : Bool) : Is F (if b = true then v1 else v0) (k.ah b) ∧ Is F (if b = true then v0 else v1) (k.bh b) := by
  cases b
  · exact ⟨h0, h1⟩
  · exact ⟨h1, h0⟩
def k0Of (x : Rs) (row : Int) : Sk := ⟨x.a.reverse, x.c, x.b, row, 0⟩
/-! ### the program's strip -/
def sdD (a b : Addr) : List (Key × V) := [(Sum.inl (-1), .ref a), (Sum.inl 1, .ref b)]
theorem sd_dg {H : Hp} {d a b : Addr} (h : H d = some (.dK (sdD a b))) {w : Int} (hw : w = -1 ∨ w = 1) : DGet H d (.int w) (some (.ref (if decide (w = 1) = true then b else a))) := by
  rcases hw with rfl | rfl
  · exact DGet.k (k := Sum.inl (-1)) h
  · exact DGet.k (k := Sum.inl 1) h
theorem sd_dgn {H : Hp} {d a b : Addr} (h : H d = some (.dK (sdD a b))) {w : Int} (hw : w = -1 ∨ w = 1) : DGet H d (.int (-w)) (some (.ref (if decide (w = 1) = true then a else b))) := by
  rcases hw with rfl | rfl
  · exact DGet.k (k := Sum.inl 1) h
  · exact DGet.k (k := Sum.inl (-1)) h
structure StAt (C : Addr) (F H : Hp) (o d a b : Addr) (k : Sk) : Prop where
  ob : ∃ dx, H o = some (.ins C dx (Strip_F (.ref d) (.int k.s) (.int k.row) (.int k.st)))
  dd : F d = some (.dK (sdD a b))
  la : LsAt F H a k.l
  lb : LsAt F H b k.r
  fo : F o = none
  ab : a ≠ b
theorem LsAt.ne {F H : Hp} {a o : Addr} {l : List PI} {C dx : Addr} {fs : List (Str × V)} (x : LsAt F H a l) (h : H o = some (.ins C dx fs)) : a ≠ o := by
  obtain ⟨⟨xs, h1, _⟩, _⟩ := x
  exact ne_of h1 h (by intro z; cases z)
abbrev muS (o a b : Addr) : Addr → Prop := fun c => c = o ∨ c = a ∨ c = b
theorem StAt.gr {mu : Addr → Prop} {C : Addr} {F H F' H' : Hp} {o d a b : Addr} {k : Sk} (x : StAt C F H o d a b k) (g : Gr mu F H F' H') (m : ∀ c, mu c → c ≠ o ∧ c ≠ a ∧ c ≠ b) : StAt C F' H' o d a b k := by
  obtain ⟨⟨dx, ho⟩, dd, la, lb, fo, ab⟩ := x
  exact ⟨⟨dx, g.fr _ _ ho fun z => (m _ z).1 rfl⟩, g.ff _ _ dd, la.gr g fun z => (m _ z).2.1 rfl, lb.gr g fun z => (m _ z).2.2 rfl, g.pf0 fo ho, ab⟩
theorem merge_sd {a b : Addr} : mergeK [] [(Sum.inl (-1), V.ref a), (Sum.inl 1, V.ref b)] = sdD a b := rfl
def sp_Strip_init (C : Addr) : Sp := fun vs H Q _ => ∃ (F : Hp) (g dx : Addr) (v : V) (x : Rs) (row : Int), vs = [.ref g, .int row, v] ∧ H g = some (.ins C dx []) ∧ F g = none ∧ Same F H ∧ Is F v x ∧
  ∀ (F' H' : Hp) (d a b : Addr), Gr (muP g) F H F' H' → H d = none → H a = none → H b = none → StAt C F' H' g d a b (k0Of x row) → Q .non H'
theorem ok_Strip_init (t : Tx K mg) : FnOk P w K mg base CX0 1 t.a_Strip_init t.fd_Strip_init ["self", "row", "runs"] (sp_Strip_init t.C_Strip) := by
  refine t.F_Strip_init.ok sc_Strip_init (fun vs H Q E h => ?_) (fun cdv A outer s H vs Q E hr h => ?_)
  · obtain ⟨F, g, dx, v, x, row, rfl, _⟩ := h
    rfl
  · obtain ⟨F, g, dx, v, x, row, rfl, hg, fg, sF, hv, q⟩ := h
    refine ⟨_, (pss_cons (ps_asg (pv 2) (pg_tup rfl (pgs_cons (pg_name (i := 3) sc_Strip_init.nd rfl (by first | exact Or.inl rfl | exact Or.inr rfl)) (pgs_cons (pg_name (i := 4) sc_Strip_init.nd rfl (by first | exact Or.inl rfl | exact Or.inr rfl)) (pgs_cons (pg_name (i := 5) sc_Strip_init.nd rfl (by first | exact Or.inl rfl | exact Or.inr rfl)) pgs_nil)))))
      (pss_cons (ps_fld (pv 0) (pe_disp (pps_cons (pe_un un_neg pe_int) (pe_callTy (T := "list") call_listQ (by rfl) t.n_list (by decide +kernel) (pa_cons (pv 3) pa_nil)) (pps_cons pe_int (pe_revL (pv 5)) pps_nil)) (by rfl) (by rfl) (fun z => by cases z) (by decide)) rfl)
      (pss_cons (ps_fld (pv 0) (pv 4) rfl)
      (pss_cons (ps_fld (pv 0) (pv 1) rfl)
      (pss_one (ps_fld (pv 0) pe_int rfl)))))), ?_⟩
    obtain ⟨p, x1, x2, x3, rfl, hp, ⟨a0, xs, rfl, ha, hxs⟩, e2, ⟨c0, zs, rfl, hc, hzs⟩⟩ := hv
    have e2 : x2 = .int x.b := e2
    subst e2
    have g0 : Gr (muP g) F H F H := Gr.refl sF
    refine ⟨_, rfl, p, _, rfl, SqT.of (sF _ _ hp), rfl, _, _, rfl, _, _, rfl, _, _, rfl, rfl, ?_⟩
    refine fun d nd => ?_
    have gd : g ≠ d := ne_of_none hg nd
    have g1 := g0.own (o := .dK []) nd
    have w1 : Ow H F (upd H d (.dK [])) d (.dK []) := Ow.mk1 g0 nd
    have hg1 := ln (u := .dK []) nd hg
    generalize upd H d (.dK []) = H1 at g1 w1 hg1 ⊢
    refine ⟨_, rfl, _, rfl, a0, xs, rfl, .inl (SqL.of (g1.fh _ _ ha)), fun a na => ?_⟩
    have g2 := g1.own (o := .lst xs) na
    have w2 := w1.own (u := .lst xs) na
    have wa2 : Ow H F (upd H1 a (.lst xs)) a (.lst xs) := Ow.mk1 g1 na
    have hg2 := ln (u := .lst xs) na hg1
    have ga : g ≠ a := ne_of_none hg1 na
    have da : d ≠ a := w1.ne na
    generalize upd H1 a (.lst xs) = H2 at g2 w2 wa2 hg2 ⊢
    refine ⟨_, rfl, c0, zs, rfl, SqL.of (g2.fh _ _ hc), fun b nb => ?_⟩
    have g3 := g2.own (o := .lst zs.reverse) nb
    have w3 := w2.own (u := .lst zs.reverse) nb
    have wa3 := wa2.own (u := .lst zs.reverse) nb
    have wb3 : Ow H F (upd H2 b (.lst zs.reverse)) b (.lst zs.reverse) := Ow.mk1 g2 nb
    have hg3 := ln (u := .lst zs.reverse) nb hg2
    have gb : g ≠ b := ne_of_none hg2 nb
    have db : d ≠ b := w2.ne nb
    have ab : a ≠ b := wa2.ne nb
    generalize upd H2 b (.lst zs.reverse) = H3 at g3 w3 wa3 wb3 hg3 ⊢
    refine ⟨w3.h, [(Sum.inl (-1), .ref a), (Sum.inl 1, .ref b)], rfl, (by show 2 ≤ 15; decide), ?_⟩
    rw [merge_sd]
    have g4 := g3.set (o := .dK (sdD a b)) w3.f (.inl w3.n)
    have w4 := w3.set (u := .dK (sdD a b))
    have wa4 := wa3.other (u := .dK (sdD a b)) (Ne.symm da)
    have wb4 := wb3.other (u := .dK (sdD a b)) (Ne.symm db)
    have hg4 : (upd H3 d (.dK (sdD a b))) g = some (.ins t.C_Strip dx []) := by rw [upd_ne gd]; exact hg3
    generalize upd H3 d (.dK (sdD a b)) = H4 at g4 w4 wa4 wb4 hg4 ⊢
    have g5 := g4.frz w4.h w4.n w4.f
    have wa5 := wa4.frz' (u := .dK (sdD a b)) (Ne.symm da)
    have wb5 := wb4.frz' (u := .dK (sdD a b)) (Ne.symm db)
    have fg5 : (upd F d (.dK (sdD a b))) g = none := by rw [upd_ne gd]; exact fg
    have fd5 : (upd F d (.dK (sdD a b))) d = some (.dK (sdD a b)) := upd_same
    have s5 : Same F (upd F d (.dK (sdD a b))) := g5.ff
    have hxs5 := IsAll.up hxs s5
    have hzs5 := IsAll.up hzs s5
    generalize upd F d (.dK (sdD a b)) = F5 at g5 wa5 wb5 fg5 fd5 hxs5 hzs5
    refine ⟨_, rfl, g, t.C_Strip, dx, [], rfl, hg4, t.cl_Strip, t.nA_Strip_sides, by show 0 < 1000; decide, ?_⟩
    rw [Strip_mk0]
    have g6 := g5.set (o := .ins t.C_Strip dx [("sides", .ref d)]) fg5 (.inr rfl)
    refine ⟨_, rfl, _, rfl, g, t.C_Strip, dx, _, rfl, upd_same, t.cl_Strip, t.nA_Strip_sign, by show 1 < 1000; decide, ?_⟩
    rw [Strip_mk1]
    have g7 := g6.set (o := .ins t.C_Strip dx [("sides", .ref d), ("sign", .int x.b)]) fg5 (.inr rfl)
    refine ⟨_, rfl, _, rfl, g, t.C_Strip, dx, _, rfl, upd_same, t.cl_Strip, t.nA_Strip_row, by show 2 < 1000; decide, ?_⟩
    rw [Strip_mk2]
    have g8 := g7.set (o := .ins t.C_Strip dx [("sides", .ref d), ("sign", .int x.b), ("row", .int row)]) fg5 (.inr rfl)
    refine ⟨_, rfl, g, t.C_Strip, dx, _, rfl, upd_same, t.cl_Strip, t.nA_Strip_steps, by show 3 < 1000; decide, ?_⟩
    rw [Strip_mk3]
    have g9 := g8.set (o := .ins t.C_Strip dx [("sides", .ref d), ("sign", .int x.b), ("row", .int row), ("steps", .int 0)]) fg5 (.inr rfl)
    refine q F5 _ d a b g9 w3.n wa3.n wb3.n ⟨⟨dx, upd_same⟩, fd5, ⟨⟨xs, ?_, ?_⟩, wa5.f⟩, ⟨⟨zs.reverse, ?_, ?_⟩, wb5.f⟩, fg5, ab⟩
    · rw [upd_ne (Ne.symm ga), upd_ne (Ne.symm ga), upd_ne (Ne.symm ga), upd_ne (Ne.symm ga)]; exact wa5.h
    · show IsAll F5 xs x.a.reverse.reverse
      rw [List.reverse_reverse]; exact hxs5
    · rw [upd_ne (Ne.symm gb), upd_ne (Ne.symm gb), upd_ne (Ne.symm gb), upd_ne (Ne.symm gb)]; exact wb5.h
    · exact hzs5.rev
def sp_Strip_told (C : Addr) : Sp := fun vs H Q _ => ∃ (F : Hp) (o d a b : Addr) (k : Sk), vs = [.ref o] ∧ Same F H ∧ StAt C F H o d a b k ∧
  ∀ (F' H' : Hp) (t l1 l2 : Addr) (xs1 xs2 : List V), Gr mu0 F H F' H' → F' t = some (.tup [.ref l1, .int k.s, .ref l2]) → Ow H F' H' l1 (.lst xs1) → Ow H F' H' l2 (.lst xs2) → l1 ≠ l2 → IsAll F' xs1 k.l.reverse → IsAll F' xs2 k.r → Q (.ref t) H'
theorem ok_Strip_told (t : Tx K mg) : FnOk P w K mg base CX0 1 t.a_Strip_told t.fd_Strip_told ["self"] (sp_Strip_told t.C_Strip) := by
  refine t.F_Strip_told.ok sc_Strip_told (fun vs H Q E h => ?_) (fun cdv A outer s H vs Q E hr h => ?_)
  · obtain ⟨F, o, d, a, b, k, rfl, _⟩ := h
    rfl
  · obtain ⟨F, o, d, a, b, k, rfl, sF, hS, q⟩ := h
    refine ⟨_, (pss_one (ps_ret (pe_tup (pa_cons (pe_callTy (T := "list") call_listQ (by rfl) t.n_list (by decide +kernel) (pa_cons (pe_dget (hu_of hr) (pe_fld (pv 0) rfl) (pe_un un_neg pe_int) (fun _ _ => rfl)) pa_nil)) (pa_cons (pe_fld (pv 0) rfl) (pa_cons (pe_revL (pe_dget (hu_of hr) (pe_fld (pv 0) rfl) pe_int (fun _ _ => rfl))) pa_nil)))))), ?_⟩
    obtain ⟨⟨dx, ho⟩, dd, ⟨⟨xs, hxa, ixs⟩, fa⟩, ⟨⟨zs, hzb, izs⟩, fb⟩, fo, ab⟩ := hS
    have g0 : Gr mu0 F H F H := Gr.refl sF
    refine ⟨_, rfl, o, t.C_Strip, dx, _, _, rfl, ho, t.cl_Strip, t.nA_Strip_sides, Strip_get_sides, _, rfl, d, _, rfl, sd_dg (sF _ _ dd) (.inl rfl), a, xs, rfl, .inl (SqL.of hxa), fun l1 n1 => ?_⟩
    have g1 := g0.own (o := .lst xs) n1
    have ho1 := ln (u := .lst xs) n1 ho
    have hzb1 := ln (u := .lst xs) n1 hzb
    have w1 : Ow H F (upd H l1 (.lst xs)) l1 (.lst xs) := Ow.mk1 g0 n1
    generalize upd H l1 (.lst xs) = H1 at g1 ho1 hzb1 w1 ⊢
    refine ⟨_, rfl, o, t.C_Strip, dx, _, _, rfl, ho1, t.cl_Strip, t.nA_Strip_sign, Strip_get_sign, ?_⟩
    refine ⟨_, rfl, o, t.C_Strip, dx, _, _, rfl, ho1, t.cl_Strip, t.nA_Strip_sides, Strip_get_sides, d, _, rfl, sd_dg (g1.fh _ _ dd) (.inr rfl), b, zs, rfl, SqL.of hzb1, fun l2 n2 => ⟨three_le, fun u nu => ?_⟩⟩
    have g2 := g1.own (o := .lst zs.reverse) n2
    have w12 := w1.own (u := .lst zs.reverse) n2
    have w2 : Ow H F (upd H1 l2 (.lst zs.reverse)) l2 (.lst zs.reverse) := Ow.mk1 g1 n2
    have l12 : l1 ≠ l2 := w1.ne n2
    have g3 := g2.new (o := .tup [.ref l1, .int k.s, .ref l2]) nu
    have w13 := w12.new (u := .tup [.ref l1, .int k.s, .ref l2]) nu
    have w23 := w2.new (u := .tup [.ref l1, .int k.s, .ref l2]) nu
    refine q _ _ u l1 l2 xs zs.reverse g3 upd_same w13 w23 l12 (IsAll.up ixs g3.ff) ?_
    have z := (IsAll.up izs g3.ff).rev
    rw [List.reverse_reverse] at z
    exact z
theorem muA {o a b : Addr} {bb : Bool} {c : Addr} : muP (if bb = true then b else a) c → muS o a b c := fun z => by
  have z : c = _ := z
  rw [z]
  cases bb
  · exact .inr (.inl rfl)
  · exact .inr (.inr rfl)
theorem muB {o a b : Addr} {bb : Bool} {c : Addr} : muP (if bb = true then a else b) c → muS o a b c := fun z => by
  have z : c = _ := z
  rw [z]
  cases bb
  · exact .inr (.inr rfl)
  · exact .inr (.inl rfl)
theorem StAt.sides {C : Addr} {F H : Hp} {o d a b : Addr} {k : Sk} (x : StAt C F H o d a b k) (bb : Bool) : LsAt F H (if bb = true then b else a) (k.ah bb) ∧ LsAt F H (if bb = true then a else b) (k.bh bb) ∧ (if bb = true then b else a) ≠ (if bb = true then a else b) := by
  cases bb
  · exact ⟨x.la, x.lb, x.ab⟩
  · exact ⟨x.lb, x.la, Ne.symm x.ab⟩
theorem ls_back {F H : Hp} {a b : Addr} {l m : List PI} (bb : Bool) (h : LsAt F H (if bb = true then b else a) l) (h' : LsAt F H (if bb = true then a else b) m) : LsAt F H a (if bb = true then m else l) ∧ LsAt F H b (if bb = true then l else m) := by
  cases bb
  · exact ⟨h, h'⟩
  · exact ⟨h', h⟩
theorem far_no {k : Sk} {b : Bool} {t : Int} (h : eats k b t = false) : farOf k b t = 1 := by
  unfold farOf
  rw [if_neg (by rw [h]; exact Bool.false_ne_true)]
theorem ah_no {k : Sk} {b : Bool} {t : Int} (h : eats k b t = false) : ahOf k b t = k.ah b := by
  unfold ahOf
  rw [if_neg (by rw [h]; exact Bool.false_ne_true)]
theorem not_or3 {o a b A : Addr} (h : A = a ∨ A = b) (ao : a ≠ o) (bo : b ≠ o) : A ≠ o := by
  rcases h with h | h
  · rw [h]; exact ao
  · rw [h]; exact bo
theorem ifAB {a b : Addr} (bb : Bool) : (if bb = true then b else a) = a ∨ (if bb = true then b else a) = b := by
  cases bb
  · exact .inl rfl
  · exact .inr rfl
def sp_Strip_stride (C : Addr) : Sp := fun vs H Q _ => ∃ (F : Hp) (o d a b : Addr) (k : Sk) (pu wa : Int) (R S : Nat), vs = [.ref o, .int pu, .int wa] ∧ Same F H ∧ StAt C F H o d a b k ∧ (wa = -1 ∨ wa = 1) ∧ OkK R S k ∧ LenK k 1500 ∧
  ∀ (F' H' : Hp), Gr (muS o a b) F H F' H' → StAt C F' H' o d a b (stepS k (decide (wa = 1)) pu k.row) → Q .non H'
theorem ok_Strip_stride (t : Tx K mg) : FnOk P w K mg base CX0 2 t.a_Strip_stride t.fd_Strip_stride ["self", "put", "way"] (sp_Strip_stride t.C_Strip) := by
  refine t.F_Strip_stride.ok sc_Strip_stride (fun vs H Q E h => ?_) (fun cdv A outer s H vs Q E hr h => ?_)
  · obtain ⟨F, o, d, a, b, k, pu, wa, R, S, rfl, _⟩ := h
    rfl
  · obtain ⟨F, o, d, a, b, k, pu, wa, R, S, rfl, sF, hS, hw, ok, lk, q⟩ := h
    refine ⟨_, (pss_cons (ps_set (i := 3) sc_Strip_stride.nd rfl (by first | exact Or.inl rfl | exact Or.inr rfl) (pe_dget (hu_of hr) (pe_fld (pv 0) rfl) (pv 2) (fun _ _ => rfl)))
      (pss_cons (ps_set (i := 4) sc_Strip_stride.nd rfl (by first | exact Or.inl rfl | exact Or.inr rfl) pe_int)
      (pss_cons (ps_if (PW.pt (pw_and (pt_cmpR (op_neD hr.units) (pv 3) (pe_lst pa_nil) (nomark _)) (pw_and1 (pt_cmpR op_eq (pe_ix ix_tup (pe_ix ix_list (pv 3) (pe_un un_neg pe_int) (fun _ _ => rfl)) pe_int (fun _ _ => rfl)) (pe_fld (pv 0) rfl) (nomark _))))) (pss_one (ps_aug (i := 4) sc_Strip_stride.nd rfl (by first | exact Or.inl rfl | exact Or.inr rfl) (pe_ix ix_tup (pe_bm0 PySem.F.plainAttrs_list PySem.F.slot_list_pop PySem.F.type_list_pop mt_pop (pv 3)) pe_int (fun _ _ => rfl)) ip_add)) pss_nil)
      (pss_cons (ps_expr (pe_call (ok_put_run t) (hr.mono (by decide)) (by rfl) t.m_put_run t.F_put_run.kp t.b_put_run .nil pass0 (pa_cons (pe_dget (hu_of hr) (pe_fld (pv 0) rfl) (pe_un un_neg (pv 2)) (fun _ _ => rfl)) (pa_cons (pv 1) (pa_cons (pv 4) pa_nil)))))
      (pss_cons (ps_fld (pv 0) (pe_call (ok_taken t) (hr.mono (by decide)) (by rfl) t.m_taken t.F_taken.kp t.b_taken .nil pass0 (pa_cons (pv 3) pa_nil)) rfl)
      (pss_one (ps_fldaug (pv 0) (pv 4) in_add))))))), ?_⟩
    have dga := fun (H : Hp) (h : H d = some (.dK (sdD a b))) => sd_dg h hw
    have dgb := fun (H : Hp) (h : H d = some (.dK (sdD a b))) => sd_dgn h hw
    generalize decide (wa = 1) = bb at q dga dgb
    obtain ⟨lA, lB, hAB⟩ := hS.sides bb
    have mA : ∀ c, muP (if bb = true then b else a) c → muS o a b c := fun c z => muA z
    have mB : ∀ c, muP (if bb = true then a else b) c → muS o a b c := fun c z => muB z
    have back := fun (F H : Hp) (l m : List PI) => @ls_back F H a b l m bb
    obtain ⟨⟨dx, ho⟩, dd, la, lb, fo, ab⟩ := hS
    have oA := lA.ne ho
    have oB := lB.ne ho
    generalize (if bb = true then b else a) = aA at lA hAB mA back dga oA
    generalize (if bb = true then a else b) = aB at lB hAB mB back dgb oB
    have g0 : Gr (muS o a b) F H F H := Gr.refl sF
    have lenA := lk.ah bb
    have lenB := lk.bh bb
    have posA := ok.ah bb
    refine ⟨_, rfl, o, t.C_Strip, dx, _, _, rfl, ho, t.cl_Strip, t.nA_Strip_sides, Strip_get_sides, _, rfl, d, _, rfl, dga _ (sF _ _ dd), ?_⟩
    refine ⟨_, rfl, nil_le, fun e1 ne1 => ?_⟩
    have gA := g0.own (o := .lst []) ne1
    have k1 := (Gr.refl (mu := mu0) sF).own (o := .lst []) ne1
    have lA1 := lA.gr k1 fun z => z
    have lB1 := lB.gr k1 fun z => z
    have ho1 := ln (u := .lst []) ne1 ho
    refine ne_dat (a := (k.ah bb).reverse) (b := ([] : List PI)) (lA1.is k1.fh) (is_nil upd_same) ⟨_, rfl, ?_⟩
    rw [rev_nil_iff]
    generalize upd H e1 (.lst []) = H1 at gA lA1 lB1 ho1 ⊢
    refine ite2 (fun c1 => ?E1) (fun c1 => ?E0)
    case' E1 =>
      have eah : ∃ hd tl, k.ah bb = hd :: tl := by
        cases e : k.ah bb with
        | nil => rw [e] at c1; simp at c1
        | cons a b => exact ⟨_, _, rfl⟩
      obtain ⟨hd, tl, eah⟩ := eah
      obtain ⟨⟨xs, h, i⟩, f⟩ := id lA1
      rw [eah, List.reverse_cons] at i
      obtain ⟨ys, y, rfl, iy, p, y1, y2, rfl, hp, e1', e2'⟩ := i.snoc
      have e1' : y1 = .int hd.a := e1'
      have e2' : y2 = .int hd.b := e2'
      subst e1'
      subst e2'
      refine ⟨_, rfl, _, rfl, aA, _, _, _, rfl, rfl, SqL.of h, atI_last _ _, p, _, _, _, rfl, rfl, SqT.of (gA.fh _ _ hp), atI_nat (j := 0) rfl, _, rfl, o, t.C_Strip, dx, _, _, rfl, ho1, t.cl_Strip, t.nA_Strip_sign, Strip_get_sign, rfl, _, rfl, ?_⟩
      rw [int_eq]
      refine ite2 (fun c7 => ?E5) (fun c7 => ?E4)
    case' E5 =>
      refine ⟨_, rfl, _, rfl, .inl ⟨rfl, _, SqL.of h⟩, aA, _, .ref p, rfl, rfl, h, (by simp), ?_⟩
      rw [List.dropLast_concat]
      have gz := gA.set (o := .lst ys) f (.inr (mA aA rfl))
      refine ⟨p, _, _, _, rfl, rfl, SqT.of (gz.fh _ _ hp), atI_nat (j := 1) rfl, _, _, rfl, rfl, ?_⟩
      have ea : eats k bb k.row = true := by
        unfold eats
        rw [eah, decide_eq_true rfl]
        show (true && decide (hd.a = k.s)) = true
        rw [c7]; rfl
      have ef : farOf k bb k.row = 1 + hd.b := by
        unfold farOf
        rw [if_pos ea, eah]
      have lAz : LsAt F (upd H1 aA (.lst ys)) aA (ahOf k bb k.row) := by
        unfold ahOf
        rw [if_pos ea, eah]
        exact ⟨⟨ys, upd_same, iy⟩, f⟩
      have lBz := lB1.gr ((Gr.refl (mu := muP aA) gA.fh).set (o := .lst ys) f (.inr rfl)) (fun z => hAB (show aB = aA from z).symm)
      have hoz := (upd_ne (H := H1) (o := .lst ys) (Ne.symm oA)).trans ho1
      generalize upd H1 aA (.lst ys) = Hz at gz lAz lBz hoz ⊢
    case' E4 =>
      have ea : eats k bb k.row = false := by
        unfold eats
        rw [eah, decide_eq_true rfl]
        show (true && decide (hd.a = k.s)) = false
        rw [Bool.eq_false_iff.mpr c7]; rfl
    case' E0 =>
      refine ifF rfl ?_
      have ea : eats k bb k.row = false := by
        unfold eats
        have eah : k.ah bb = [] := by
          refine Decidable.byContradiction fun z => c1 ?_
          rw [decide_eq_false z]; rfl
        rw [eah]
        exact Bool.and_false _
    case' E4 | E0 =>
      have ef := far_no ea
      have lAz := lA1
      rw [← ah_no ea] at lAz
      have gz := gA
      have lBz := lB1
      have hoz := ho1
    all_goals
      refine ⟨_, rfl, o, t.C_Strip, dx, _, _, rfl, hoz, t.cl_Strip, t.nA_Strip_sides, Strip_get_sides, _, rfl, _, rfl, d, _, rfl, dgb _ (gz.fh _ _ dd), _, rfl, _, rfl, F, aB, k.bh bb, pu, farOf k bb k.row, by rw [ef]; exact rfl, gz.fh, lBz, by omega, fun F5 H5 g5 l5 => ?_⟩
      have gz5 := gz.trans (g5.weak mB)
      have lA5 := lAz.gr g5 (fun z => hAB z)
      have ho5 := g5.fr _ _ hoz (fun z => oB (show o = aB from z).symm)
      refine ⟨_, rfl, F5, aA, ahOf k bb k.row, rfl, gz5.fh, lA5, by have := @ahOf_len k bb k.row; omega, fun q0 z => (ahOf_ok ok bb k.row q0 z).2, fun F6 H6 g6 l6 => ?_⟩
      have gz6 := gz5.trans (g6.weak mA)
      have lB6 := l5.gr g6 (fun z => hAB (show aB = aA from z).symm)
      have ho6 := g6.fr _ _ ho5 (fun z => oA (show o = aA from z).symm)
      have fo6 : F6 o = none := gz6.pf0 fo ho
      have dd6 := gz6.ff _ _ dd
      refine ⟨_, rfl, o, t.C_Strip, dx, _, rfl, ho6, t.cl_Strip, t.nA_Strip_sign, Strip_few, ?_⟩
      rw [Strip_put_sign]
      have g7 := gz6.set (o := .ins t.C_Strip dx (Strip_F (.ref d) (.int (takn (ahOf k bb k.row)).1) (.int k.row) (.int k.st))) fo6 (.inr (.inl rfl))
      have h7 : (upd H6 o (.ins t.C_Strip dx (Strip_F (.ref d) (.int (takn (ahOf k bb k.row)).1) (.int k.row) (.int k.st)))) o = _ := upd_same
      refine ⟨_, rfl, o, t.C_Strip, dx, _, _, rfl, h7, t.cl_Strip, t.nA_Strip_steps, Strip_get_steps, _, rfl, _, _, rfl, rfl, _, _, h7, Strip_few, ?_⟩
      rw [Strip_put_steps]
      have g8 := g7.set (o := .ins t.C_Strip dx (Strip_F (.ref d) (.int (takn (ahOf k bb k.row)).1) (.int k.row) (.int (k.st + farOf k bb k.row)))) fo6 (.inr (.inl rfl))
      rw [upd_upd] at g8
      obtain ⟨b1, b2⟩ := back F6 H6 _ _ l6 lB6
      have off : ∀ {c : Addr} {l : List PI} {u : HO}, c ≠ o → LsAt F6 H6 c l → LsAt F6 (upd H6 o u) c l := fun n x => ⟨by
        obtain ⟨⟨xs, h, i⟩, f⟩ := x
        exact ⟨xs, by rw [upd_ne n]; exact h, i⟩, x.f⟩
      have z := q F6 _ g8 ⟨⟨dx, upd_same⟩, dd6, off (la.ne ho) b1, off (lb.ne ho) b2, fo6, ab⟩
      rw [ef] at z
      rw [upd_upd]
      exact z
def sp_Strip_step (C : Addr) : Sp := fun vs H Q _ => ∃ (F : Hp) (o d a b : Addr) (k : Sk) (pu wa to : Int) (R S : Nat), vs = [.ref o, .int pu, .int wa, .int to] ∧ Same F H ∧ StAt C F H o d a b k ∧ (wa = -1 ∨ wa = 1) ∧ to ≠ k.row ∧ OkK R S k ∧ LenK k 1500 ∧
  ∀ (F' H' : Hp), Gr (muS o a b) F H F' H' → StAt C F' H' o d a b (stepS k (decide (wa = 1)) pu to) → Q .non H'
theorem ok_Strip_step (t : Tx K mg) : FnOk P w K mg base CX0 2 t.a_Strip_step t.fd_Strip_step ["self", "put", "way", "row"] (sp_Strip_step t.C_Strip) := by
  refine t.F_Strip_step.ok sc_Strip_step (fun vs H Q E h => ?_) (fun cdv A outer s H vs Q E hr h => ?_)
  · obtain ⟨F, o, d, a, b, k, pu, wa, to, R, S, rfl, _⟩ := h
    rfl
  · obtain ⟨F, o, d, a, b, k, pu, wa, to, R, S, rfl, sF, hS, hw, ht, ok, lk, q⟩ := h
    refine ⟨_, (pss_cons (ps_expr (pe_call (ok_put_run t) (hr.mono (by decide)) (by rfl) t.m_put_run t.F_put_run.kp t.b_put_run .nil pass0 (pa_cons (pe_dget (hu_of hr) (pe_fld (pv 0) rfl) (pe_un un_neg (pv 2)) (fun _ _ => rfl)) (pa_cons (pv 1) (pa_cons pe_int pa_nil)))))
      (pss_cons (ps_fld (pv 0) (pe_call (ok_taken t) (hr.mono (by decide)) (by rfl) t.m_taken t.F_taken.kp t.b_taken .nil pass0 (pa_cons (pe_dget (hu_of hr) (pe_fld (pv 0) rfl) (pv 2) (fun _ _ => rfl)) pa_nil)) rfl)
      (pss_cons (ps_fld (pv 0) (pv 3) rfl)
      (pss_one (ps_fldaug (pv 0) pe_int in_add))))), ?_⟩
    have dga := fun (H : Hp) (h : H d = some (.dK (sdD a b))) => sd_dg h hw
    have dgb := fun (H : Hp) (h : H d = some (.dK (sdD a b))) => sd_dgn h hw
    generalize decide (wa = 1) = bb at q dga dgb
    obtain ⟨lA, lB, hAB⟩ := hS.sides bb
    have mA : ∀ c, muP (if bb = true then b else a) c → muS o a b c := fun c z => muA z
    have mB : ∀ c, muP (if bb = true then a else b) c → muS o a b c := fun c z => muB z
    have back := fun (F H : Hp) (l m : List PI) => @ls_back F H a b l m bb
    obtain ⟨⟨dx, ho⟩, dd, la, lb, fo, ab⟩ := hS
    have oA := lA.ne ho
    have oB := lB.ne ho
    generalize (if bb = true then b else a) = aA at lA hAB mA back dga oA
    generalize (if bb = true then a else b) = aB at lB hAB mB back dgb oB
    have gz : Gr (muS o a b) F H F H := Gr.refl sF
    have lenA := lk.ah bb
    have lenB := lk.bh bb
    have ea : eats k bb to = false := by
      unfold eats
      rw [decide_eq_false ht]; rfl
    have ef := far_no ea
    rw [← ah_no ea] at lA
    refine ⟨_, rfl, o, t.C_Strip, dx, _, _, rfl, ho, t.cl_Strip, t.nA_Strip_sides, Strip_get_sides, _, rfl, _, rfl, d, _, rfl, dgb _ (gz.fh _ _ dd), _, rfl, F, aB, k.bh bb, pu, farOf k bb to, by rw [ef]; exact rfl, gz.fh, lB, by omega, fun F5 H5 g5 l5 => ?_⟩
    have gz5 := gz.trans (g5.weak mB)
    have lA5 := lA.gr g5 (fun z => hAB z)
    have ho5 := g5.fr _ _ ho (fun z => oB (show o = aB from z).symm)
    refine ⟨_, rfl, o, t.C_Strip, dx, _, _, rfl, ho5, t.cl_Strip, t.nA_Strip_sides, Strip_get_sides, _, rfl, d, _, rfl, dga _ (gz5.fh _ _ (gz5.ff _ _ dd)), F5, aA, ahOf k bb to, rfl, gz5.fh, lA5, by have := @ahOf_len k bb to; omega, fun q0 z => (ahOf_ok ok bb to q0 z).2, fun F6 H6 g6 l6 => ?_⟩
    have gz6 := gz5.trans (g6.weak mA)
    have lB6 := l5.gr g6 (fun z => hAB (show aB = aA from z).symm)
    have ho6 := g6.fr _ _ ho5 (fun z => oA (show o = aA from z).symm)
    have fo6 : F6 o = none := gz6.pf0 fo ho
    have dd6 := gz6.ff _ _ dd
    refine ⟨_, rfl, o, t.C_Strip, dx, _, rfl, ho6, t.cl_Strip, t.nA_Strip_sign, Strip_few, ?_⟩
    rw [Strip_put_sign]
    have h7 : (upd H6 o (.ins t.C_Strip dx (Strip_F (.ref d) (.int (takn (ahOf k bb to)).1) (.int k.row) (.int k.st)))) o = _ := upd_same
    refine ⟨_, rfl, _, rfl, o, t.C_Strip, dx, _, rfl, h7, t.cl_Strip, t.nA_Strip_row, Strip_few, ?_⟩
    rw [Strip_put_row, upd_upd]
    have h8 : (upd H6 o (.ins t.C_Strip dx (Strip_F (.ref d) (.int (takn (ahOf k bb to)).1) (.int to) (.int k.st)))) o = _ := upd_same
    refine ⟨_, rfl, o, t.C_Strip, dx, _, _, rfl, h8, t.cl_Strip, t.nA_Strip_steps, Strip_get_steps, _, _, rfl, rfl, _, _, h8, Strip_few, ?_⟩
    rw [Strip_put_steps, upd_upd]
    have g8 := gz6.set (o := .ins t.C_Strip dx (Strip_F (.ref d) (.int (takn (ahOf k bb to)).1) (.int to) (.int (k.st + farOf k bb to)))) fo6 (.inr (.inl rfl))
    obtain ⟨b1, b2⟩ := back F6 H6 _ _ l6 lB6
    have off : ∀ {c : Addr} {l : List PI} {u : HO}, c ≠ o → LsAt F6 H6 c l → LsAt F6 (upd H6 o u) c l := fun n x => ⟨by
      obtain ⟨⟨xs, h, i⟩, f⟩ := x
      exact ⟨xs, by rw [upd_ne n]; exact h, i⟩, x.f⟩
    have z := q F6 _ g8 ⟨⟨dx, upd_same⟩, dd6, off (la.ne ho) b1, off (lb.ne ho) b2, fo6, ab⟩
    rw [ef] at z
    exact z
/-! ### by strides -/
def sp_by_strides : Sp := fun vs H Q _ => ∃ (F : Hp) (m v : V) (M : Mach) (R S : Nat) (x : Rs) (row : Int) (n : Nat), vs = [m, .int row, v, .int n] ∧ Same F H ∧ Is F m M ∧ MOk M R S ∧ Is F v x ∧ OkR S x ∧ 0 ≤ row ∧ row < R ∧ n ≤ 600 ∧
  ∀ (F' H' : Hp) (t u l1 l2 : Addr) (xs1 xs2 : List V) (z : TStr × Sk), strd M (n + 1) (k0Of x row) = z → Gr mu0 F H F' H' → F' t = some (.tup [.str z.1.x, .int z.2.st, .int z.2.row, .ref u]) → F' u = some (.tup [.ref l1, .int z.2.s, .ref l2]) →
    Ow H F' H' l1 (.lst xs1) → Ow H F' H' l2 (.lst xs2) → l1 ≠ l2 → IsAll F' xs1 z.2.l.reverse → IsAll F' xs2 z.2.r → Q (.ref t) H'
theorem ok_by_strides (t : Tx K mg) : FnOk P w K mg base CX0 4 t.a_by_strides t.fd_by_strides ["machine", "row", "runs", "many"] sp_by_strides := by
  refine t.F_by_strides.ok sc_by_strides (fun vs H Q E h => ?_) (fun cdv A outer s H vs Q E hr h => ?_)
  · obtain ⟨F, m, v, M, R, S, x, row, n, rfl, _⟩ := h
    rfl
  · obtain ⟨F, m, v, M, R, S, x, row, n, rfl, sF, hm, hM, hv, hx, r0, r1, hn, q⟩ := h
    refine ⟨_, (pss_cons (ps_expr (pe_call (ok_must_machine t) (hr.mono (by decide)) (by rfl) t.m_must_machine t.F_must_machine.kp t.b_must_machine .nil pass0 (pa_cons (pv 0) pa_nil)))
      (pss_cons (ps_set (i := 4) sc_by_strides.nd rfl (by first | exact Or.inl rfl | exact Or.inr rfl) (pe_make t.M_Strip (ok_Strip_init t) (hr.mono (by decide)) (by rfl) t.m_Strip t.b_Strip_init .nil pass0 (pa_cons (pv 1) (pa_cons (pv 2) pa_nil))))
      (pss_cons (ps_for PassesOwn.never rfl (pi_range1 (by rfl) t.n_range (pa_cons (pe_op op_add (pv 3) pe_int) pa_nil)) (pg_name (i := 5) sc_by_strides.nd rfl (by first | exact Or.inl rfl | exact Or.inr rfl)) (pss_cons (ps_set (i := 6) sc_by_strides.nd rfl (by first | exact Or.inl rfl | exact Or.inr rfl) (pe_ix ix_list (pe_ix ix_list (pv 0) (pe_fld (pv 4) rfl) (fun _ _ => rfl)) (pe_fld (pv 4) rfl) (fun _ _ => rfl)))
      (pss_cons (ps_if (pt_cmpR (op_eqD hr.units) (pv 6) (pe_tup pa_nil) (nomark _)) (pss_one (ps_ret (pe_tup (pa_cons pe_str (pa_cons (pe_fld (pv 4) rfl) (pa_cons (pe_fld (pv 4) rfl) (pa_cons (pe_meth0 (pv 4) t.cl_Strip t.M_Strip_told (ok_Strip_told t) (hr.mono (by decide)) t.b_Strip_told .nil pass0) pa_nil))))))) pss_nil)
      (pss_cons (ps_asg (pv 6) (pg_tup rfl (pgs_cons (pg_name (i := 7) sc_by_strides.nd rfl (by first | exact Or.inl rfl | exact Or.inr rfl)) (pgs_cons (pg_name (i := 8) sc_by_strides.nd rfl (by first | exact Or.inl rfl | exact Or.inr rfl)) (pgs_cons (pg_name (i := 9) sc_by_strides.nd rfl (by first | exact Or.inl rfl | exact Or.inr rfl)) pgs_nil)))))
      (pss_cons (ps_if (PW.pt (pw_and (pt_cmpR op_eq (pv 9) (pe_fld (pv 4) rfl) (nomark _)) (pw_and (pt_cmpR op_eq (pe_fld (pv 4) rfl) pe_int (nomark _)) (pw_and1 (pt_cmpR (op_eqD hr.units) (pe_dget (hu_of hr) (pe_fld (pv 4) rfl) (pv 8) (fun _ _ => rfl)) (pe_lst pa_nil) (nomark _)))))) (pss_one (ps_ret (pe_tup (pa_cons pe_str (pa_cons (pe_fld (pv 4) rfl) (pa_cons (pe_fld (pv 4) rfl) (pa_cons (pe_meth0 (pv 4) t.cl_Strip t.M_Strip_told (ok_Strip_told t) (hr.mono (by decide)) t.b_Strip_told .nil pass0) pa_nil))))))) pss_nil)
      (pss_one (ps_if (PW.pt (pw_and (pt_cmpR op_lt (pv 5) (pv 3) (nomark _)) (pw_and1 (pt_cmpR op_eq (pv 9) (pe_fld (pv 4) rfl) (nomark _))))) (pss_one (ps_expr (pe_meth (pv 4) t.cl_Strip t.M_Strip_stride (ok_Strip_stride t) (hr.mono (by decide)) t.b_Strip_stride .nil pass0 (pa_cons (pv 7) (pa_cons (pv 8) pa_nil))))) (pss_one (ps_if (pt_cmpR op_lt (pv 5) (pv 3) (nomark _)) (pss_one (ps_expr (pe_meth (pv 4) t.cl_Strip t.M_Strip_step (ok_Strip_step t) (hr.mono (by decide)) t.b_Strip_step .nil pass0 (pa_cons (pv 7) (pa_cons (pv 8) (pa_cons (pv 9) pa_nil)))))) pss_nil)))))))))
      (pss_one (ps_ret (pe_tup (pa_cons pe_str (pa_cons (pe_fld (pv 4) rfl) (pa_cons (pe_fld (pv 4) rfl) (pa_cons (pe_meth0 (pv 4) t.cl_Strip t.M_Strip_told (ok_Strip_told t) (hr.mono (by decide)) t.b_Strip_told .nil pass0) pa_nil)))))))))), ?_⟩
    have S1 : 1 ≤ S := by have := hM.s2; omega
    refine ⟨_, rfl, F, m, M, R, S, rfl, sF, hm, hM, fun H1 g1 => ?_⟩
    refine ⟨_, rfl, _, rfl, fun o do' no ndo neo => ?_⟩
    have g2 := g1.own (o := .own o) ndo
    have no2 : (upd H1 do' (.own o)) o = none := by rw [upd_ne neo.symm]; exact no
    have g3 := g2.own (o := .ins t.C_Strip do' []) no2
    have hno : H o = none := g1.th _ no
    refine ⟨F, o, do', v, x, row, rfl, upd_same, g1.fh.free no, g3.fh, hv, fun F4 H4 d a b g4 nd na nb st => ⟨rfl, ?_⟩⟩
    have g5 := g3.thn g4 fun c z => .inr (by rw [show c = o from z]; exact hno)
    have hna : H a = none := g3.th _ na
    have hnb : H b = none := g3.th _ nb
    have muN : ∀ c, muS o a b c → (mu0 c ∨ H c = none) := fun c z => .inr (by
      rcases z with rfl | rfl | rfl
      · exact hno
      · exact hna
      · exact hnb)
    have hm4 := hm.up g5.ff
    clear g1 g2 g3 g4 no2
    -- what is told at an end
    have fin : ∀ {F1 G : Hp} {k : Sk} {F5 H5 : Hp} {u l1 l2 : Addr} {xs1 xs2 : List V} {w : TStr}, Gr mu0 F H F1 G → strd M (n + 1) (k0Of x row) = (w, k) → Gr mu0 F1 G F5 H5 → F5 u = some (.tup [.ref l1, .int k.s, .ref l2]) → Ow G F5 H5 l1 (.lst xs1) → Ow G F5 H5 l2 (.lst xs2) → l1 ≠ l2 → IsAll F5 xs1 k.l.reverse → IsAll F5 xs2 k.r →
        ∀ t, H5 t = none → Q (.ref t) (upd H5 t (.tup [.str w.x, .int k.st, .int k.row, .ref u])) := by
      intro F1 G k F5 H5 u l1 l2 xs1 xs2 w g es g5 hu w1 w2 l12 i1 i2 t nt
      have g6 := g.trans g5
      have w1' : Ow H F5 H5 l1 (.lst xs1) := ⟨g.th _ w1.n, w1.f, w1.h⟩
      have w2' : Ow H F5 H5 l2 (.lst xs2) := ⟨g.th _ w2.n, w2.f, w2.h⟩
      have s6 : Same F5 (upd F5 t (.tup [.str w.x, .int k.st, .int k.row, .ref u])) := sm_new (Same.refl F5) (g6.fh.free nt)
      exact q _ _ t u l1 l2 xs1 xs2 (w, k) es (g6.new nt) upd_same (s6 _ _ hu) (w1'.new nt) (w2'.new nt) l12 (IsAll.up i1 s6) (IsAll.up i2 s6)
    refine ⟨_, rfl, _, _, rfl, rfl, (n : Int) + 1, rfl, by omega, by omega, for_range (lo := 0) (n := ((n : Int) + 1).toNat) (fun i σ G => ∃ (F1 : Hp) (k : Sk) (u0 u1 u2 u3 u4 : Option V), σ = [some m, some (.int row), some v, some (.int n), some (.ref o), u0, u1, u2, u3, u4] ∧
      Gr mu0 F H F1 G ∧ Is F1 m M ∧ StAt t.C_Strip F1 G o d a b k ∧ OkK R S k ∧ LenK k (600 + i) ∧ i ≤ n + 1 ∧ strd M (n + 1) (k0Of x row) = strd M (n + 1 - i) k)
      ⟨F4, k0Of x row, none, none, none, none, none, rfl, g5, hm4, st, ⟨hx.1.1.rev, hx.2.2.1, hx.2.1.1, hx.2.1.2, r0, r1⟩, ⟨by show x.a.reverse.length ≤ _; rw [List.length_reverse]; exact hx.1.2, hx.2.2.2⟩, by omega, rfl⟩ ?_ ?_⟩
    · rintro i σ G hi ⟨F1, k, u0, u1, u2, u3, u4, rfl, g, hmF, st, ok, lk, hin, es⟩
      have i1 : i ≤ n := by omega
      obtain ⟨rw', hrw, he, eo⟩ := ent_of hM ok.r0 ok.r1 ok.s0 ok.s1
      obtain ⟨am, rs, rfl, ha, hrs⟩ := id hmF
      obtain ⟨y, hy, bm, es', rfl, hb, hes⟩ := hrs.get hrw
      obtain ⟨z, hz, hze⟩ := hes.get he
      obtain ⟨dx, ho⟩ := st.ob
      refine ⟨_, rfl, _, rfl, o, t.C_Strip, dx, _, _, rfl, ho, t.cl_Strip, t.nA_Strip_row, Strip_get_row, am, rs, _, _, rfl, rfl, SqL.of (g.fh _ _ ha), at_of (Int.toNat_of_nonneg ok.r0).symm hy, _, rfl, o, t.C_Strip, dx, _, _, rfl, ho, t.cl_Strip, t.nA_Strip_sign, Strip_get_sign, bm, es', _, _, rfl, rfl, SqL.of (g.fh _ _ hb), at_of (Int.toNat_of_nonneg ok.s0).symm hz, ?_⟩
      have en : n + 1 - i = (n - i) + 1 := by omega
      rw [en] at es
      have es2 : strd M (n + 1) (k0Of x row) = match entAt M k.row k.s with
        | .emp => (tEnd, k)
        | .go p w t => if nevr k (decide (w = 1)) t = true then (tNev, k) else strd M (n - i) (if n - i = 0 then k else stepS k (decide (w = 1)) p t) := es
      refine ⟨_, rfl, nil_le, fun e1 ne1 => ?_⟩
      have gg := g.own (o := .tup []) ne1
      have k1 := (Gr.refl (mu := mu0) g.fh).own (o := .tup []) ne1
      have s1 := st.gr k1 (fun c z => z.elim)
      refine eq_dat (a := entAt M k.row k.s) (b := Ent.emp) (hze.up gg.fh) ⟨e1, rfl, upd_same⟩ ⟨_, rfl, ?_⟩
      generalize upd G e1 (.tup []) = G1 at gg s1 ⊢
      obtain ⟨dx, ho⟩ := s1.ob
      cases ee : entAt M k.row k.s with
      | emp =>
        rw [ee] at es2
        have es2 : strd M (n + 1) (k0Of x row) = (tEnd, k) := es2
        refine ifT (decide_eq_true rfl) ⟨_, rfl, o, t.C_Strip, dx, _, _, rfl, ho, t.cl_Strip, t.nA_Strip_steps, Strip_get_steps, _, rfl, o, t.C_Strip, dx, _, _, rfl, ho, t.cl_Strip, t.nA_Strip_row, Strip_get_row, _, rfl, o, dx, _, rfl, ho, Strip_no (by decide +kernel) (by decide +kernel) (by decide +kernel) (by decide +kernel), F1, o, d, a, b, k, rfl, gg.fh, s1, fun F5 H5 u l1 l2 xs1 xs2 g5 hu w1 w2 l12 i1 i2 => ⟨by show 4 ≤ sizeLine; decide, fun t nt => ?_⟩⟩
        exact fin gg es2 g5 hu w1 w2 l12 i1 i2 t nt
      | go pu wa to =>
        rw [ee] at es2 hze eo
        obtain ⟨⟨p0, p1⟩, wo, t0, t1⟩ := eo.ok _ _ _ rfl
        obtain ⟨ae, rfl, hae⟩ := hze
        refine ifF (decide_eq_false (by intro z; cases z)) ?_
        refine ⟨_, rfl, ae, _, rfl, SqT.of (gg.fh _ _ hae), rfl, _, _, rfl, _, _, rfl, _, _, rfl, rfl, ?_⟩
        have es2 : strd M (n + 1) (k0Of x row) = if nevr k (decide (wa = 1)) to = true then (tNev, k) else strd M (n - i) (if n - i = 0 then k else stepS k (decide (wa = 1)) pu to) := es2
        refine ⟨_, rfl, _, rfl, o, t.C_Strip, dx, _, _, rfl, ho, t.cl_Strip, t.nA_Strip_row, Strip_get_row, rfl, _, rfl, ?_⟩
        rw [int_eq]
        refine ite2 (fun c1 => ?N) (fun c1 => ?A)
        case' N =>
          refine ⟨_, rfl, o, t.C_Strip, dx, _, _, rfl, ho, t.cl_Strip, t.nA_Strip_sign, Strip_get_sign, rfl, _, rfl, ?_⟩
          rw [int_eq]
          refine ite2 (fun c2 => ?N2) (fun c2 => ?B)
        case' N2 =>
          refine ⟨_, rfl, o, t.C_Strip, dx, _, _, rfl, ho, t.cl_Strip, t.nA_Strip_sides, Strip_get_sides, _, rfl, d, _, rfl, sd_dg (gg.fh _ _ s1.dd) wo, nil_le, fun e2 ne2 => ?_⟩
          have gA := gg.own (o := .lst []) ne2
          have k2 := (Gr.refl (mu := mu0) gg.fh).own (o := .lst []) ne2
          have sA := s1.gr k2 (fun c z => z.elim)
          refine eq_dat (a := (k.ah (decide (wa = 1))).reverse) (b := ([] : List PI)) ((sA.sides _).1.is gA.fh) (is_nil upd_same) ⟨_, rfl, ?_⟩
          rw [rev_nil_iff]
          generalize upd G1 e2 (.lst []) = G2 at gA sA ⊢
          refine ite2 (fun c3 => ?N3) (fun c3 => ?C)
        case N3 =>
          have nv : nevr k (decide (wa = 1)) to = true := by
            unfold nevr
            rw [c1, c2, c3]; rfl
          rw [if_pos nv] at es2
          obtain ⟨dx, ho⟩ := sA.ob
          refine ⟨_, rfl, o, t.C_Strip, dx, _, _, rfl, ho, t.cl_Strip, t.nA_Strip_steps, Strip_get_steps, _, rfl, o, t.C_Strip, dx, _, _, rfl, ho, t.cl_Strip, t.nA_Strip_row, Strip_get_row, _, rfl, o, dx, _, rfl, ho, Strip_no (by decide +kernel) (by decide +kernel) (by decide +kernel) (by decide +kernel), F1, o, d, a, b, k, rfl, gA.fh, sA, fun F5 H5 u l1 l2 xs1 xs2 g5 hu w1 w2 l12 i1 i2 => ⟨by show 4 ≤ sizeLine; decide, fun t nt => ?_⟩⟩
          exact fin gA es2 g5 hu w1 w2 l12 i1 i2 t nt
        case' A =>
          refine ifF rfl ?_
          have gA := gg
          have sA := s1
          have nv : nevr k (decide (wa = 1)) to = false := by
            unfold nevr
            rw [Bool.eq_false_iff.mpr c1]; rfl
        case' B =>
          refine ifF rfl ?_
          have gA := gg
          have sA := s1
          have nv : nevr k (decide (wa = 1)) to = false := by
            unfold nevr
            rw [c1, Bool.eq_false_iff.mpr c2]; rfl
        case' C =>
          have nv : nevr k (decide (wa = 1)) to = false := by
            unfold nevr
            rw [c1, c2, Bool.eq_false_iff.mpr c3]; rfl
        all_goals
          rw [if_neg (by rw [nv]; exact Bool.false_ne_true)] at es2
          obtain ⟨dx, ho⟩ := sA.ob
          refine ⟨_, rfl, _, rfl, _, _, rfl, rfl, _, rfl, ?_⟩
          refine ite2 (fun c4 => ?_) (fun c4 => ?_)
          · have i2 : i < n := by
              have c4 := of_decide_eq_true c4
              omega
            have c4n : ((0 + (i : Int)) < n) := of_decide_eq_true c4
            rw [if_neg (by omega)] at es2
            have ok2 := ok.step (decide (wa = 1)) S1 p0 p1 t0 t1
            have lk2 := lk.step (decide (wa = 1)) (p := pu) (t := to)
            have lk3 : LenK k 1500 := ⟨by have := lk.1; omega, by have := lk.2; omega⟩
            refine ⟨_, rfl, _, rfl, o, t.C_Strip, dx, _, _, rfl, ho, t.cl_Strip, t.nA_Strip_row, Strip_get_row, rfl, _, rfl, ?_⟩
            rw [int_eq]
            refine ite2 (fun c5 => ?_) (fun c5 => ?_)
            · have c5 := of_decide_eq_true c5
              subst c5
              refine ⟨_, rfl, o, dx, _, rfl, ho, Strip_no (by decide +kernel) (by decide +kernel) (by decide +kernel) (by decide +kernel), _, rfl, _, rfl, F1, o, d, a, b, k, pu, wa, R, S, rfl, gA.fh, sA, wo, ok, lk3, fun F5 H5 g5 st5 => ?_⟩
              refine ⟨F5, _, _, _, _, _, _, rfl, gA.thn g5 muN, hmF.up g5.ff, st5, ok2, by rw [show 600 + (i + 1) = 600 + i + 1 by omega]; exact lk2, by omega, ?_⟩
              rw [es2, show n + 1 - (i + 1) = n - i by omega]
            · have c5 : ¬ to = k.row := fun z => c5 (decide_eq_true z)
              refine ⟨_, rfl, _, rfl, _, _, rfl, rfl, _, rfl, ifT c4 ?_⟩
              refine ⟨_, rfl, o, dx, _, rfl, ho, Strip_no (by decide +kernel) (by decide +kernel) (by decide +kernel) (by decide +kernel), _, rfl, _, rfl, _, rfl, F1, o, d, a, b, k, pu, wa, to, R, S, rfl, gA.fh, sA, wo, c5, ok, lk3, fun F5 H5 g5 st5 => ?_⟩
              refine ⟨F5, _, _, _, _, _, _, rfl, gA.thn g5 muN, hmF.up g5.ff, st5, ok2, by rw [show 600 + (i + 1) = 600 + i + 1 by omega]; exact lk2, by omega, ?_⟩
              rw [es2, show n + 1 - (i + 1) = n - i by omega]
          · have c4' : ¬ ((0 + (i : Int)) < n) := fun z => c4 (decide_eq_true z)
            have en0 : n - i = 0 := by omega
            rw [if_pos en0] at es2
            refine ifF rfl ⟨_, rfl, _, rfl, _, _, rfl, rfl, _, rfl, ifF (Bool.eq_false_iff.mpr c4) ?_⟩
            refine ⟨F1, k, _, _, _, _, _, rfl, gA, hmF, sA, ok, ⟨by have := lk.1; omega, by have := lk.2; omega⟩, by omega, ?_⟩
            rw [es2, show n + 1 - (i + 1) = n - i by omega]
    · rintro σ G ⟨F1, k, u0, u1, u2, u3, u4, rfl, g, hmF, st, ok, lk, hin, es⟩
      have es : strd M (n + 1) (k0Of x row) = (tOnn, k) := by
        rw [es, show n + 1 - ((n : Int) + 1).toNat = 0 by omega]; rfl
      obtain ⟨dx, ho⟩ := st.ob
      refine ⟨_, rfl, o, t.C_Strip, dx, _, _, rfl, ho, t.cl_Strip, t.nA_Strip_steps, Strip_get_steps, _, rfl, o, t.C_Strip, dx, _, _, rfl, ho, t.cl_Strip, t.nA_Strip_row, Strip_get_row, _, rfl, o, dx, _, rfl, ho, Strip_no (by decide +kernel) (by decide +kernel) (by decide +kernel) (by decide +kernel), F1, o, d, a, b, k, rfl, g.fh, st, fun F5 H5 u l1 l2 xs1 xs2 g5 hu w1 w2 l12 i1 i2 => ⟨by show 4 ≤ sizeLine; decide, fun t nt => ?_⟩⟩
      exact fin g es g5 hu w1 w2 l12 i1 i2 t nt
/-! ### a machine on its way -/
/-- a Goer stands at g, its dict at d -/
structure GoAt (C : Addr) (H : Hp) (g d : Addr) (tb : V) (r s : Int) (l : List PI) (n : Int) : Prop where
  ob : ∃ dx, H g = some (.ins C dx (Goer_F tb (.int r) (.int s) (.ref d) (.int n)))
  dc : H d = some (.dK (dI l))
theorem GoAt.ne {C : Addr} {H : Hp} {g d : Addr} {tb : V} {r s : Int} {l : List PI} {n : Int} (h : GoAt C H g d tb r s l n) : g ≠ d := by
  obtain ⟨dx, e⟩ := h.ob
  exact ne_of e h.dc (by intro z; cases z)
theorem GoAt.gr {mu : Addr → Prop} {C : Addr} {F H F' H' : Hp} {g d : Addr} {tb : V} {r s : Int} {l : List PI} {n : Int} (h : GoAt C H g d tb r s l n) (a : Gr mu F H F' H') (hg : ¬ mu g) (hd : ¬ mu d) : GoAt C H' g d tb r s l n := by
  obtain ⟨dx, e⟩ := h.ob
  exact ⟨⟨dx, a.fr _ _ e hg⟩, a.fr _ _ h.dc hd⟩
/-- places, and strips that are told, as a setup -/
abbrev Setup := T3 Int Int (List PI)
def sp_Goer_init (C : Addr) : Sp := fun vs H Q _ => ∃ (F : Hp) (g dx : Addr) (tb u : V) (x : Setup), vs = [.ref g, tb, u] ∧ H g = some (.ins C dx []) ∧ F g = none ∧ Same F H ∧ Is F u x ∧
  ∀ (d : Addr) (H' : Hp), H d = none → Gr (muP g) F H F H' → GoAt C H' g d tb x.a x.b (merge [] x.c) 0 → Q .non H'
theorem ok_Goer_init (t : Tx K mg) : FnOk P w K mg base CX0 1 t.a_Goer_init t.fd_Goer_init ["self", "machine", "setup"] (sp_Goer_init t.C_Goer) := by
  refine t.F_Goer_init.ok sc_Goer_init (fun vs H Q E h => ?_) (fun cdv A outer s H vs Q E hr h => ?_)
  · obtain ⟨F, g, dx, tb, u, x, rfl, _⟩ := h
    rfl
  · obtain ⟨F, g, dx, tb, u, x, rfl, hg, fg, sF, hu, q⟩ := h
    refine ⟨_, (pss_cons (ps_fld (pv 0) (pv 1) rfl)
      (pss_cons (ps_fld (pv 0) (pe_ix ix_tup (pv 2) pe_int (fun _ _ => rfl)) rfl)
      (pss_cons (ps_fld (pv 0) (pe_ix ix_tup (pv 2) pe_int (fun _ _ => rfl)) rfl)
      (pss_cons (ps_fld (pv 0) (pe_callTy (T := "dict") (call_dictQ rfl) (by rfl) t.n_dict (by decide +kernel) (pa_cons (pe_ix ix_tup (pv 2) pe_int (fun _ _ => rfl)) pa_nil)) rfl)
      (pss_one (ps_fld (pv 0) pe_int rfl)))))), ?_⟩
    obtain ⟨p, x1, x2, x3, rfl, hp, e1, e2, hl⟩ := hu
    have e1 : x1 = .int x.a := e1
    have e2 : x2 = .int x.b := e2
    subst e1
    subst e2
    obtain ⟨a, xs, rfl, ha, hxs⟩ := hl
    have g0 : Gr (muP g) F H F H := Gr.refl sF
    refine ⟨_, rfl, _, rfl, g, t.C_Goer, dx, [], rfl, hg, t.cl_Goer, t.nA_Goer_table, by show 0 < 1000; decide, ?_⟩
    have g1 := g0.set (o := .ins t.C_Goer dx [("table", tb)]) fg (.inr rfl)
    rw [Goer_mk0]
    refine ⟨_, rfl, p, _, _, _, rfl, rfl, SqT.of (g1.fh _ _ hp), atI_nat (j := 0) rfl, _, rfl, g, t.C_Goer, dx, _, rfl, upd_same, t.cl_Goer, t.nA_Goer_row, by show 1 < 1000; decide, ?_⟩
    have g2 := g1.set (o := .ins t.C_Goer dx [("table", tb), ("row", .int x.a)]) fg (.inr rfl)
    rw [Goer_mk1]
    refine ⟨_, rfl, p, _, _, _, rfl, rfl, SqT.of (g2.fh _ _ hp), atI_nat (j := 1) rfl, _, rfl, g, t.C_Goer, dx, _, rfl, upd_same, t.cl_Goer, t.nA_Goer_spot, by show 2 < 1000; decide, ?_⟩
    have g3 := g2.set (o := .ins t.C_Goer dx [("table", tb), ("row", .int x.a), ("spot", .int x.b)]) fg (.inr rfl)
    rw [Goer_mk2]
    refine ⟨_, rfl, p, _, _, _, rfl, rfl, SqT.of (g3.fh _ _ hp), atI_nat (j := 2) rfl, ?_⟩
    refine dict_pairs (hxs.up g3.fh) (SqL.of (g3.fh _ _ ha)) fun d nd => ?_
    have g4 := g3.own (o := .dK (dI (merge [] x.c))) nd
    have gd : g ≠ d := ne_of_none upd_same nd
    refine ⟨_, rfl, g, t.C_Goer, dx, _, rfl, (upd_ne gd).trans upd_same, t.cl_Goer, t.nA_Goer_signs, by show 3 < 1000; decide, ?_⟩
    have g5 := g4.set (o := .ins t.C_Goer dx [("table", tb), ("row", .int x.a), ("spot", .int x.b), ("signs", .ref d)]) fg (.inr rfl)
    rw [Goer_mk3]
    refine ⟨_, rfl, g, t.C_Goer, dx, _, rfl, upd_same, t.cl_Goer, t.nA_Goer_steps, by show 4 < 1000; decide, ?_⟩
    have g6 := g5.set (o := .ins t.C_Goer dx [("table", tb), ("row", .int x.a), ("spot", .int x.b), ("signs", .ref d), ("steps", .int 0)]) fg (.inr rfl)
    rw [Goer_mk4]
    exact q d _ (g3.th _ nd) g6 ⟨⟨dx, upd_same⟩, by rw [upd_ne gd.symm, upd_ne gd.symm, upd_same]⟩
def sp_Goer_entry (C : Addr) : Sp := fun vs H Q _ => ∃ (F : Hp) (g d : Addr) (tb : V) (M : Mach) (r s : Int) (l : List PI) (n : Int) (row : List Ent) (e : Ent), vs = [.ref g] ∧ Same F H ∧ Is F tb M ∧ GoAt C H g d tb r s l n ∧
  0 ≤ r ∧ M[r.toNat]? = some row ∧ 0 ≤ (look l s).getD 0 ∧ row[((look l s).getD 0).toNat]? = some e ∧ ∀ v, Is F v e → Q v H
theorem ok_Goer_entry (t : Tx K mg) : FnOk P w K mg base CX0 1 t.a_Goer_entry t.fd_Goer_entry ["self"] (sp_Goer_entry t.C_Goer) := by
  refine t.F_Goer_entry.ok sc_Goer_entry (fun vs H Q E h => ?_) (fun cdv A outer s H vs Q E hr h => ?_)
  · obtain ⟨F, g, d, tb, M, r, s, l, n, row, e, rfl, _⟩ := h
    rfl
  · obtain ⟨F, g, d, tb, M, r, s, l, n, row, e, rfl, sF, hM, hg, hr0, hrow, hs0, he, q⟩ := h
    refine ⟨_, (pss_one (ps_ret (pe_ix ix_list (pe_ix ix_list (pe_fld (pv 0) rfl) (pe_fld (pv 0) rfl) (fun _ _ => rfl)) (pe_dget2 (hu_of hr) (pe_fld (pv 0) rfl) (pe_fld (pv 0) rfl) pe_int ⟨by rfl, by rfl, by rfl, by rfl⟩) (fun _ _ => rfl)))), ?_⟩
    obtain ⟨⟨dx, ho⟩, hd⟩ := id hg
    obtain ⟨a, rs, rfl, ha, hrs⟩ := hM
    obtain ⟨x, hx, b, es, rfl, hb, hes⟩ := hrs.get hrow
    obtain ⟨y, hy, hye⟩ := hes.get he
    refine ⟨_, rfl, g, t.C_Goer, dx, _, _, rfl, ho, t.cl_Goer, t.nA_Goer_table, Goer_get_table, ?_⟩
    refine ⟨_, rfl, g, t.C_Goer, dx, _, _, rfl, ho, t.cl_Goer, t.nA_Goer_row, Goer_get_row, a, _, _, _, rfl, rfl, SqL.of (sF _ _ ha), at_of (Int.toNat_of_nonneg hr0).symm hx, ?_⟩
    refine ⟨_, rfl, g, t.C_Goer, dx, _, _, rfl, ho, t.cl_Goer, t.nA_Goer_signs, Goer_get_signs, d, rfl, .inl ⟨_, .inl hd⟩, _, rfl, g, t.C_Goer, dx, _, _, rfl, ho, t.cl_Goer, t.nA_Goer_spot, Goer_get_spot, _, DGet.k (k := Sum.inl s) hd, ?_⟩
    rw [dI_val]
    have e1 : ((look l s).map V.int).getD (.int 0) = .int ((look l s).getD 0) := by cases look l s <;> rfl
    rw [e1]
    exact ⟨b, _, _, _, rfl, rfl, SqL.of (sF _ _ hb), at_of (Int.toNat_of_nonneg hs0).symm hy, q _ hye⟩
/-- one step -/
def stepL (l : List PI) (s p : Int) : List PI := put l s p
def sp_Goer_step (C : Addr) : Sp := fun vs H Q _ => ∃ (F : Hp) (g d : Addr) (tb : V) (M : Mach) (r s : Int) (l : List PI) (n : Int) (row : List Ent) (e : Ent), vs = [.ref g] ∧ Same F H ∧ F g = none ∧ F d = none ∧ Is F tb M ∧ GoAt C H g d tb r s l n ∧
  0 ≤ r ∧ M[r.toNat]? = some row ∧ 0 ≤ (look l s).getD 0 ∧ row[((look l s).getD 0).toNat]? = some e ∧ l.length ≤ 100000 ∧
  (e = .emp → ∀ H', Gr mu0 F H F H' → Q (.bl false) H') ∧
  (∀ p w r', e = .go p w r' → ∀ H', Gr (fun c => c = g ∨ c = d) F H F H' → GoAt C H' g d tb r' (s + w) (put l s p) (n + 1) → Q (.bl true) H')
theorem ok_Goer_step (t : Tx K mg) : FnOk P w K mg base CX0 2 t.a_Goer_step t.fd_Goer_step ["self"] (sp_Goer_step t.C_Goer) := by
  refine t.F_Goer_step.ok sc_Goer_step (fun vs H Q E h => ?_) (fun cdv A outer s H vs Q E hr h => ?_)
  · obtain ⟨F, g, d, tb, M, r, s, l, n, row, e, rfl, _⟩ := h
    rfl
  · obtain ⟨F, g, d, tb, M, r, s, l, n, row, e, rfl, sF, fg, fd, hM, hg, hr0, hrow, hs0, he, hl, q1, q2⟩ := h
    refine ⟨_, (pss_cons (ps_set (i := 1) sc_Goer_step.nd rfl (by first | exact Or.inl rfl | exact Or.inr rfl) (pe_meth0 (pv 0) t.cl_Goer t.M_Goer_entry (ok_Goer_entry t) (hr.mono (by decide)) t.b_Goer_entry .nil pass0))
      (pss_cons (ps_if (pt_cmpR (op_eqD hr.units) (pv 1) (pe_tup pa_nil) (nomark _)) (pss_one (ps_ret pe_bl)) pss_nil)
      (pss_cons (ps_dput (hu_of hr) (pe_fld (pv 0) rfl) (pe_fld (pv 0) rfl) (pe_ix ix_tup (pv 1) pe_int (fun _ _ => rfl)) rfl)
      (pss_cons (ps_fldaug (pv 0) (pe_ix ix_tup (pv 1) pe_int (fun _ _ => rfl)) in_add)
      (pss_cons (ps_fld (pv 0) (pe_ix ix_tup (pv 1) pe_int (fun _ _ => rfl)) rfl)
      (pss_cons (ps_fldaug (pv 0) pe_int in_add)
      (pss_one (ps_ret pe_bl)))))))), ?_⟩
    obtain ⟨⟨dx, ho⟩, hd⟩ := id hg
    have gd := hg.ne
    have g0 : Gr (fun c => c = g ∨ c = d) F H F H := Gr.refl sF
    have g00 : Gr mu0 F H F H := Gr.refl sF
    refine ⟨_, rfl, g, dx, _, rfl, ho, Goer_no (by decide +kernel) (by decide +kernel) (by decide +kernel) (by decide +kernel) (by decide +kernel), F, g, d, tb, M, r, s, l, n, row, e, rfl, sF, hM, hg, hr0, hrow, hs0, he, fun v hv => ?_⟩
    refine ⟨_, rfl, nil_le, fun p np => ?_⟩
    refine eq_dat (a := e) (b := Ent.emp) (hv.up (g0.own np).fh) ⟨p, rfl, upd_same⟩ ?_
    refine ⟨_, rfl, ?_⟩
    refine ite2 (fun c => ?_) (fun c => ?_)
    · exact q1 (of_decide_eq_true c) _ (g00.own np)
    · cases e with
      | emp => exact absurd (decide_eq_true rfl) c
      | go pu wa ro =>
        obtain ⟨a, rfl, ha⟩ := hv
        have g1 := g0.own (o := .tup []) np
        have gp : g ≠ p := ne_of_none ho np
        have dp : d ≠ p := ne_of_none hd np
        have ho1 := (upd_ne (H := H) (o := .tup []) gp).trans ho
        have hd1 := (upd_ne (H := H) (o := .tup []) dp).trans hd
        -- self.signs[self.spot] = entry[0]
        refine ⟨_, rfl, a, _, _, _, rfl, rfl, SqT.of (g1.fh _ _ ha), atI_nat (j := 0) rfl, _, rfl, g, t.C_Goer, dx, _, _, rfl, ho1, t.cl_Goer, t.nA_Goer_signs, Goer_get_signs, _, rfl, g, t.C_Goer, dx, _, _, rfl, ho1, t.cl_Goer, t.nA_Goer_spot, Goer_get_spot, d, _, rfl, DPut.k (k := Sum.inl s) hd1 (by show (dI l).length < _; unfold dI; rw [List.length_map]; exact lt_size (by omega)), ?_⟩
        rw [dI_put]
        have g2 := g1.set (o := .dK (dI (put l s pu))) fd (.inr (.inr rfl))
        have ho2 := (upd_ne (H := upd H p (.tup [])) (o := .dK (dI (put l s pu))) gd).trans ho1
        -- self.spot += entry[1]
        refine ⟨_, rfl, g, t.C_Goer, dx, _, _, rfl, ho2, t.cl_Goer, t.nA_Goer_spot, Goer_get_spot, _, rfl, a, _, _, _, rfl, rfl, SqT.of (g2.fh _ _ ha), atI_nat (j := 1) rfl, _, _, rfl, rfl, _, _, ho2, Goer_few, ?_⟩
        rw [Goer_put_spot]
        have g3 := g2.set (o := .ins t.C_Goer dx (Goer_F tb (.int r) (.int (s + wa)) (.ref d) (.int n))) fg (.inr (.inl rfl))
        -- self.row = entry[2]
        refine ⟨_, rfl, a, _, _, _, rfl, rfl, SqT.of (g3.fh _ _ ha), atI_nat (j := 2) rfl, _, rfl, g, t.C_Goer, dx, _, rfl, upd_same, t.cl_Goer, t.nA_Goer_row, Goer_few, ?_⟩
        rw [Goer_put_row]
        have g4 := g3.set (o := .ins t.C_Goer dx (Goer_F tb (.int ro) (.int (s + wa)) (.ref d) (.int n))) fg (.inr (.inl rfl))
        -- self.steps += 1
        refine ⟨_, rfl, g, t.C_Goer, dx, _, _, rfl, upd_same, t.cl_Goer, t.nA_Goer_steps, Goer_get_steps, _, _, rfl, rfl, _, _, upd_same, Goer_few, ?_⟩
        rw [Goer_put_steps]
        have g5 := g4.set (o := .ins t.C_Goer dx (Goer_F tb (.int ro) (.int (s + wa)) (.ref d) (.int (n + 1)))) fg (.inr (.inl rfl))
        refine q2 _ _ _ rfl _ g5 ⟨⟨dx, upd_same⟩, ?_⟩
        rw [upd_ne gd.symm, upd_ne gd.symm, upd_ne gd.symm, upd_same]
/-! ### what a machine does -/
structure Cfg where
  r : Int
  s : Int
  l : List PI
def entOf (M : Mach) (c : Cfg) : Ent := ((M[c.r.toNat]?.getD [])[((look c.l c.s).getD 0).toNat]?).getD .emp
def stepC (M : Mach) (c : Cfg) : Option Cfg := match entOf M c with
  | .emp => none
  | .go p w r => some ⟨r, c.s + w, put c.l c.s p⟩
structure CfOk (R S : Nat) (c : Cfg) : Prop where
  r0 : 0 ≤ c.r
  r1 : c.r < R
  nd : Nd c.l
  sg : ∀ q ∈ c.l, 0 ≤ q.b ∧ q.b < S
theorem CfOk.look {R S : Nat} {c : Cfg} (h : CfOk R S c) (s1 : 1 ≤ S) (x : Int) : 0 ≤ (look c.l x).getD 0 ∧ (look c.l x).getD 0 < S := by
  cases e : E.look c.l x with
  | none => simp only [Option.getD_none]; omega
  | some v => exact h.sg _ (mem_look e)
theorem CfOk.ent {M : Mach} {R S : Nat} {c : Cfg} (hM : MOk M R S) (h : CfOk R S c) : ∃ row, M[c.r.toNat]? = some row ∧ 0 ≤ (E.look c.l c.s).getD 0 ∧ row[((E.look c.l c.s).getD 0).toNat]? = some (entOf M c) ∧ EOk R S (entOf M c) := by
  have hr : c.r.toNat < M.length := by have := h.r0; have := h.r1; have := hM.len; omega
  have h1 : M[c.r.toNat]? = some M[c.r.toNat] := List.getElem?_eq_getElem hr
  have m1 := List.mem_of_getElem? h1
  obtain ⟨s0, s1⟩ := h.look (by have := hM.s2; omega) c.s
  have hs : ((E.look c.l c.s).getD 0).toNat < M[c.r.toNat].length := by rw [hM.row _ m1]; omega
  have h2 : M[c.r.toNat][((E.look c.l c.s).getD 0).toNat]? = some _ := List.getElem?_eq_getElem hs
  have e : entOf M c = M[c.r.toNat][((E.look c.l c.s).getD 0).toNat] := by
    unfold entOf
    rw [h1, Option.getD_some, h2, Option.getD_some]
  exact ⟨_, h1, s0, by rw [e]; exact h2, by rw [e]; exact hM.ent _ m1 _ (List.mem_of_getElem? h2)⟩
theorem CfOk.step {M : Mach} {R S : Nat} {c c' : Cfg} (hM : MOk M R S) (h : CfOk R S c) (e : stepC M c = some c') : CfOk R S c' := by
  obtain ⟨row, _, _, _, eo⟩ := h.ent hM
  unfold stepC at e
  split at e
  · cases e
  · rename_i p w r he
    cases e
    obtain ⟨o1, _, o3, o4⟩ := eo.ok _ _ _ he
    refine ⟨o3, o4, nd_put h.nd _ _, fun q m => ?_⟩
    rcases mem_put m with m | rfl
    · exact h.sg q m
    · exact o1
/-- the setups behind 0, 1, .. n steps, up to the end -/
def trace (M : Mach) : Nat → Cfg → List Cfg
  | 0, c => [c]
  | n + 1, c => c :: (match stepC M c with | none => [] | some c' => trace M n c')
/-- a setup with its signs in a dict -/
def cfAt (H : Hp) (v : V) (c : Cfg) : Prop := ∃ t d, v = .ref t ∧ H t = some (.tup [.int c.r, .int c.s, .ref d]) ∧ H d = some (.dK (dI c.l))
theorem cfAt.up {H H' : Hp} {v : V} {c : Cfg} (h : cfAt H v c) (s : Same H H') : cfAt H' v c := by
  obtain ⟨t, d, e, h1, h2⟩ := h
  exact ⟨t, d, e, s _ _ h1, s _ _ h2⟩
theorem dict_copy {H : Hp} {a : Addr} {l : List PI} (h : H a = some (.dK (dI l))) : Rd H a (.dK (dI l)) := .inl h
theorem stepC_none {M : Mach} {c : Cfg} : stepC M c = none ↔ entOf M c = .emp := by
  unfold stepC
  cases entOf M c with
  | emp => exact ⟨fun _ => rfl, fun _ => rfl⟩
  | go p w r => exact ⟨(fun h => nomatch h), (fun h => nomatch h)⟩
theorem stepC_go {M : Mach} {c : Cfg} {p w r : Int} (h : entOf M c = .go p w r) : stepC M c = some ⟨r, c.s + w, put c.l c.s p⟩ := by
  unfold stepC
  rw [h]
theorem mach_ent {F : Hp} {m : V} {M : Mach} {i j : Nat} {row : List Ent} {e : Ent} (hm : Is F m M) (h1 : M[i]? = some row) (h2 : row[j]? = some e) : ∃ am rs ra es v, m = .ref am ∧ F am = some (.lst rs) ∧ rs[i]? = some (.ref ra) ∧ F ra = some (.lst es) ∧ es[j]? = some v ∧ Is F v e := by
  obtain ⟨am, rs, e1, ham, hrs⟩ := hm
  obtain ⟨x, hx, ra, es, rfl, hra, hes⟩ := hrs.get h1
  obtain ⟨v, hv, hve⟩ := hes.get h2
  exact ⟨am, rs, ra, es, v, e1, ham, hx, hra, hv, hve⟩
theorem getD_int (o : Option Int) (x : Int) : (o.map V.int).getD (.int x) = .int (o.getD x) := by cases o <;> rfl
theorem trace_end {M : Mach} {c : Cfg} (h : stepC M c = none) : ∀ n, trace M n c = [c]
  | 0 => rfl
  | n + 1 => by
    unfold trace
    rw [h]
theorem trace_go {M : Mach} {c c' : Cfg} (h : stepC M c = some c') (n : Nat) : trace M (n + 1) c = c :: trace M n c' := by
  show c :: (match stepC M c with | none => [] | some c' => trace M n c') = _
  rw [h]
theorem size_dI {l : List PI} {n : Nat} (h : l.length ≤ n) (k : n ≤ 1000000) : (dI l).length < sizeLine := by
  unfold dI; rw [List.length_map]; exact lt_size (by omega)
/-! ### runs from the empty strip -/
def c0 : Cfg := ⟨0, 0, []⟩
def stepsC (M : Mach) : Nat → Option Cfg
  | 0 => some c0
  | k + 1 => (stepsC M k).bind (stepC M)
theorem stepsC_next {M : Mach} {k : Nat} {c : Cfg} (h : stepsC M k = some c) : stepsC M (k + 1) = stepC M c := by
  show (stepsC M k).bind (stepC M) = _
  rw [h]; rfl
theorem stepsC_back {M : Mach} {k : Nat} {c : Cfg} (h : stepsC M (k + 1) = some c) : ∃ b, stepsC M k = some b ∧ stepC M b = some c := Option.bind_eq_some_iff.mp h
theorem stepsC_end {M : Mach} {k : Nat} {c : Cfg} (h : stepsC M k = some c) (e : stepC M c = none) : ∀ j, stepsC M (k + 1 + j) = none
  | 0 => by rw [Nat.add_zero, stepsC_next h]; exact e
  | j + 1 => by
    show (stepsC M (k + 1 + j)).bind (stepC M) = _
    rw [stepsC_end h e j]; rfl
theorem c0_ok {R S : Nat} (r1 : 1 ≤ R) : CfOk R S c0 := ⟨Int.le_refl _, by show (0 : Int) < R; omega, nd_nil, fun z m => nomatch m⟩
theorem stepC_len {M : Mach} {c c' : Cfg} (e : stepC M c = some c') : c'.l.length ≤ c.l.length + 1 := by
  unfold stepC at e
  split at e
  · cases e
  · cases e
    exact put_len _ _ _
theorem stepsC_ok {M : Mach} {R S : Nat} (hM : MOk M R S) : ∀ {k : Nat} {c : Cfg}, stepsC M k = some c → CfOk R S c ∧ c.l.length ≤ k
  | 0, c, h => by
    cases h
    exact ⟨c0_ok hM.r1, Nat.le_refl _⟩
  | k + 1, c, h => by
    obtain ⟨b, hb, e⟩ := stepsC_back h
    obtain ⟨i1, i2⟩ := stepsC_ok hM hb
    have := stepC_len e
    exact ⟨i1.step hM e, by omega⟩
/-- where a run of at most n steps stands: behind k of them, at c -/
structure Gone (M : Mach) (n k : Nat) (c : Cfg) : Prop where
  le : k ≤ n
  stp : stepsC M k = some c
  fin : stepC M c = none ∨ k = n
theorem Gone.lt {M : Mach} {n k k' : Nat} {c c' : Cfg} (a : Gone M n k c) (b : Gone M n k' c') : ¬ k < k' := fun l => by
  rcases a.fin with e | e
  · have h := stepsC_end a.stp e (k' - (k + 1))
    rw [show k + 1 + (k' - (k + 1)) = k' by omega, b.stp] at h
    cases h
  · have := b.le; omega
theorem Gone.uniq {M : Mach} {n k k' : Nat} {c c' : Cfg} (a : Gone M n k c) (b : Gone M n k' c') : k = k' ∧ c = c' := by
  have e : k = k' := by have := a.lt b; have := b.lt a; omega
  subst e
  have h := a.stp
  rw [b.stp] at h
  cases h
  exact ⟨rfl, rfl⟩
/-! ### a strip without noughts -/
def pop (l : List PI) (x : Int) : List PI := l.filter fun p => decide (p.a ≠ x)
theorem dI_pop (l : List PI) (x : Int) : dropK (dI l) (Sum.inl x) = dI (pop l x) := by
  unfold dropK dI pop
  rw [List.filter_map]
  congr 2
  funext p
  have e : ((Sum.inl p.a : Key) ≠ Sum.inl x) = (p.a ≠ x) := propext ⟨fun h z => h (by rw [z]), fun h z => h (Sum.inl.inj z)⟩
  simp only [Function.comp, e]
theorem look_pop (x y : Int) : ∀ l : List PI, look (pop l x) y = if y = x then none else look l y
  | [] => by show look [] y = _; rw [look_nil]; split <;> rfl
  | p :: l => by
    have ih := look_pop x y l
    unfold pop at ih ⊢
    rw [List.filter_cons, look_cons]
    by_cases e : p.a = x
    · rw [if_neg (by simp [e]), ih]
      by_cases f : y = x
      · rw [if_pos f, if_pos f]
      · rw [if_neg f, if_neg f, if_neg (by rw [e]; exact fun z => f z.symm)]
    · rw [if_pos (by simp [e]), look_cons, ih]
      by_cases f : p.a = y
      · rw [if_pos f, if_pos f, if_neg (by rw [← f]; exact e)]
      · rw [if_neg f, if_neg f]
theorem nd_pop {l : List PI} (h : Nd l) (x : Int) : Nd (pop l x) := List.Sublist.nodup (List.Sublist.map _ List.filter_sublist) h
theorem nd_nodup {l : List PI} (h : Nd l) : l.Nodup := (List.pairwise_map.mp h).imp fun z e => z (by rw [e])
structure ZRel (l l' : List PI) : Prop where
  n : Nd l
  n' : Nd l'
  z : ∀ q ∈ l', q.b ≠ 0
  lk : ∀ x, (look l x).getD 0 = (look l' x).getD 0
theorem ZRel.nil : ZRel [] [] := ⟨nd_nil, nd_nil, fun q m => (nomatch m), fun x => rfl⟩
theorem ZRel.put {l l' : List PI} (h : ZRel l l') (x : Int) {v : Int} (e : v ≠ 0) : ZRel (put l x v) (put l' x v) := by
  refine ⟨nd_put h.n _ _, nd_put h.n' _ _, fun q m => ?_, fun y => ?_⟩
  · rcases mem_put m with m | rfl
    · exact h.z q m
    · exact e
  · rw [look_put, look_put]
    split
    · rfl
    · exact h.lk y
theorem ZRel.pop {l l' : List PI} (h : ZRel l l') (x : Int) : ZRel (E.put l x 0) (pop (E.put l' x 0) x) := by
  refine ⟨nd_put h.n _ _, nd_pop (nd_put h.n' _ _) _, fun q m => ?_, fun y => ?_⟩
  · obtain ⟨m, e⟩ := List.mem_filter.mp m
    have e : q.a ≠ x := of_decide_eq_true e
    rcases mem_put m with m | rfl
    · exact h.z q m
    · exact absurd rfl e
  · rw [look_put, look_pop, look_put]
    split
    · rfl
    · exact h.lk y
theorem ZRel.perm {l l' : List PI} (h : ZRel l l') : (l.filter nz).Perm l' := by
  refine (List.perm_ext_iff_of_nodup (List.Sublist.nodup List.filter_sublist (nd_nodup h.n)) (nd_nodup h.n')).mpr fun q => ?_
  have k := h.lk q.a
  rw [List.mem_filter]
  constructor
  · rintro ⟨m, e⟩
    have e : q.b ≠ 0 := of_decide_eq_true e
    rw [look_mem h.n m, Option.getD_some] at k
    cases f : look l' q.a with
    | none => rw [f] at k; exact absurd k e
    | some z =>
      rw [f, Option.getD_some] at k
      have m' := mem_look f
      rw [← k] at m'
      exact m'
  · intro m
    have e := h.z q m
    rw [look_mem h.n' m, Option.getD_some] at k
    cases f : look l q.a with
    | none => rw [f] at k; exact absurd k.symm e
    | some z =>
      rw [f, Option.getD_some] at k
      have m' := mem_look f
      rw [k] at m'
      exact ⟨m', decide_eq_true e⟩
theorem ZRel.told {l l' : List PI} (h : ZRel l l') : told l = srt l' :=
  srt_uniq (srt_srt _) (srt_srt _) (((srt_perm _).trans h.perm).trans (srt_perm _).symm)
theorem ZRel.len {l l' : List PI} (h : ZRel l l') : l'.length ≤ l.length := by
  rw [← h.perm.length_eq]; exact List.length_filter_le _ _
/-- a setup with its signs other than 0 in a dict -/
def zAt (H : Hp) (v : V) (c : Cfg) : Prop := ∃ t d l', v = .ref t ∧ H t = some (.tup [.int c.r, .int c.s, .ref d]) ∧ H d = some (.dK (dI l')) ∧ ZRel c.l l'
theorem zAt.up {H H' : Hp} {v : V} {c : Cfg} (h : zAt H v c) (s : Same H H') : zAt H' v c := by
  obtain ⟨t, d, l', e, h1, h2, h3⟩ := h
  exact ⟨t, d, l', e, s _ _ h1, s _ _ h2, h3⟩
/-- the setups behind 0, 1, .. k steps -/
def ZAll (H : Hp) (M : Mach) (xs : List V) (k : Nat) : Prop := xs.length = k + 1 ∧ ∀ i v, xs[i]? = some v → ∃ c, stepsC M i = some c ∧ zAt H v c
theorem ZAll.up {H H' : Hp} {M : Mach} {xs : List V} {k : Nat} (h : ZAll H M xs k) (s : Same H H') : ZAll H' M xs k :=
  ⟨h.1, fun i v e => by obtain ⟨c, a, b⟩ := h.2 i v e; exact ⟨c, a, b.up s⟩⟩
theorem ZAll.one {H : Hp} {M : Mach} {v : V} (h : zAt H v c0) : ZAll H M [v] 0 := ⟨rfl, fun i u e => by
  cases i with
  | zero => cases e; exact ⟨c0, rfl, h⟩
  | succ n => cases e⟩
theorem ZAll.app {H : Hp} {M : Mach} {xs : List V} {k : Nat} {v : V} {c : Cfg} (h : ZAll H M xs k) (e : stepsC M (k + 1) = some c) (z : zAt H v c) : ZAll H M (xs ++ [v]) (k + 1) := by
  refine ⟨by rw [List.length_append, h.1]; rfl, fun i u hu => ?_⟩
  by_cases l : i < xs.length
  · rw [List.getElem?_append_left l] at hu
    exact h.2 i u hu
  · rw [List.getElem?_append_right (by omega)] at hu
    cases j : i - xs.length with
    | zero =>
      rw [j] at hu
      cases hu
      have := h.1
      rw [show i = k + 1 by omega]
      exact ⟨c, e, z⟩
    | succ n => rw [j] at hu; cases hu
theorem ZAll.get {H : Hp} {M : Mach} {xs : List V} {k i : Nat} {c : Cfg} (h : ZAll H M xs k) (l : i ≤ k) (e : stepsC M i = some c) : ∃ v, xs[i]? = some v ∧ zAt H v c := by
  have l' : i < xs.length := by rw [h.1]; omega
  obtain ⟨c', e', z⟩ := h.2 i _ (List.getElem?_eq_getElem l')
  rw [e] at e'
  cases e'
  exact ⟨_, List.getElem?_eq_getElem l', z⟩
/-- the entry at c, looked up by a strip of the same signs -/
theorem CfOk.ent' {M : Mach} {R S : Nat} {c : Cfg} {l' : List PI} (hM : MOk M R S) (h : CfOk R S c) (z : ZRel c.l l') : ∃ row, M[c.r.toNat]? = some row ∧ 0 ≤ (E.look l' c.s).getD 0 ∧ row[((E.look l' c.s).getD 0).toNat]? = some (entOf M c) ∧ EOk R S (entOf M c) := by
  rw [← z.lk]
  exact h.ent hM
def sp_told_strip : Sp := fun vs H Q _ => ∃ (F : Hp) (d : Addr) (l : List PI), vs = [.ref d] ∧ Same F H ∧ H d = some (.dK (dI l)) ∧ l.length ≤ 100000 ∧
  ∀ (F' H' : Hp) (p : Addr) (xs : List V), Gr mu0 F H F' H' → Ow H F' H' p (.lst xs) → IsAll F' xs (told l) → Q (.ref p) H'
theorem ok_told_strip (t : Tx K mg) : FnOk P w K mg base CX0 1 t.a_told_strip t.fd_told_strip ["signs"] sp_told_strip := by
  refine t.F_told_strip.ok sc_told_strip (fun vs H Q E h => ?_) (fun cdv A outer s H vs Q E hr h => ?_)
  · obtain ⟨F, d, l, rfl, _⟩ := h
    rfl
  · obtain ⟨F, d, l, rfl, sF, hd, hl, q⟩ := h
    refine ⟨_, (pss_one (ps_ret (pe_callB (id := "sorted") call_sortQ (by rfl) t.n_sorted (by decide +kernel) (pa_cons (pe_lock (pe_lc (own := [("place", 1), ("sign", 2)]) rfl sc_told_strip.nd (pi_items (pv 0)) (blkOk_by (N := N_told_strip) (sc := defScope s_told_strip) (by decide +kernel)) (fun _ _ _ _ _ => (pg_tupK (K := K) (n := 2) rfl rfl (pgs_cons (pg_name (i := 1) sc_told_strip.nd rfl (by first | exact Or.inl rfl | exact Or.inr rfl)) (pgs_cons (pg_name (i := 2) sc_told_strip.nd rfl (by first | exact Or.inl rfl | exact Or.inr rfl)) pgs_nil)))) (fun _ _ _ _ _ => (pts_one (pt_cmpR op_ne (pv 2) pe_int (nomark _)))) (fun _ _ _ _ _ => (pe_tup (pa_cons (pv 1) (pa_cons (pv 2) pa_nil)))))) pa_nil)))), ?_⟩
    refine ⟨d, _, hd, trivial, fun od => ?_⟩
    have sL := lock_in (d := d) (o := .frz od (.dK (dI l))) sF
    have g0 : Gr mu0 _ (upd H d (.frz od (.dK (dI l)))) _ (upd H d (.frz od (.dK (dI l)))) := Gr.refl sL
    have dl : (dI l).length = l.length := by unfold dI; rw [List.length_map]
    generalize eH1 : upd H d (.frz od (.dK (dI l))) = H1 at g0
    generalize eF1 : (fun c => if c = d then none else F c) = F1 at g0
    have hd1 : H1 d = some (.frz od (.dK (dI l))) := by rw [← eH1]; exact upd_same
    refine ⟨_, rfl, d, od, dI l, rfl, hd1, fun D nD => lc_it walk_items (fun i G => ∃ F2 xs, Gr mu0 F1 H1 F2 G ∧ Ow H1 F2 G D (.lst xs) ∧ IsAll F2 xs ((l.take i).filter nz)) ⟨F1, [], g0.own nD, Ow.mk1 g0 nD, All2.nil⟩ (fun i G _ ⟨F2, xs, g, _⟩ => g.fr _ _ hd1 (fun z => z)) ?_ ?_⟩
    · rintro i x G G' hi ⟨F2, xs, g, w, al⟩ ⟨T, x1, x2, rfl, nT, rfl, e1, e2⟩
      rw [dl] at hi
      have e1 : (dI l)[i]?.map (fun kv => kV kv.1) = some x1 := e1
      have e2 : (dI l)[i]?.map Prod.snd = some x2 := e2
      rw [dI_get hi] at e1 e2
      cases e1
      cases e2
      have g1 := g.new (o := .tup [.int l[i].a, .int l[i].b]) nT
      have w1 := w.new (u := .tup [.int l[i].a, .int l[i].b]) nT
      refine ⟨T, _, rfl, SqT.of upd_same, rfl, _, _, rfl, _, _, rfl, rfl, rfl, _, rfl, rfl, _, rfl, ?_⟩
      rw [filter_take_succ hi]
      refine ite2 (fun c => ?_) (fun c => ?_)
      · have c' : nz l[i] = true := by
          refine decide_eq_true fun z => ?_
          have c : (!decide (V.int l[i].b = V.int 0)) = true := c
          rw [z, decide_eq_true rfl] at c
          cases c
        rw [if_pos c']
        refine ⟨_, rfl, _, rfl, two_le, fun T2 nT2 => ⟨xs, (w1.new nT2).h, ?_, ?_⟩⟩
        · rw [al.1]
          exact lt_size (Nat.le_trans (List.length_filter_le _ _) (by rw [List.length_take]; omega))
        · have g2 := g1.new (o := .tup [.int l[i].a, .int l[i].b]) nT2
          have w2 := w1.new (u := .tup [.int l[i].a, .int l[i].b]) nT2
          refine ⟨_, _, g2.set w2.f (.inl w2.n), w2.set, (al.up (fun c o h => ?_)).app (All2.one ⟨T2, _, _, rfl, upd_same, rfl, rfl⟩)⟩
          rw [upd_ne (ne_of_none (g1.fh _ _ ((Gr.refl (mu := mu0) g.fh).new nT |>.ff c o h)) nT2)]
          exact (Gr.refl (mu := mu0) g.fh).new nT |>.ff c o h
      · have c' : ¬ nz l[i] = true := fun z => by
          refine c ?_
          have z := of_decide_eq_true z
          show (!decide (V.int l[i].b = V.int 0)) = true
          rw [decide_eq_false (fun e => z (V.int.inj e))]; rfl
        rw [if_neg c', List.append_nil]
        exact ⟨_, xs, g1, w1, al.up ((Gr.refl (mu := mu0) g.fh).new nT).ff⟩
    · rintro G ⟨F2, xs, g, w, al⟩
      rw [dl, List.take_length] at al
      subst eH1
      subst eF1
      obtain ⟨h1, h2, h3⟩ := lock_out sF hd g
      refine ⟨h1, ?_⟩
      have hDd : D ≠ d := by
        rintro rfl
        rw [w.h] at h1; cases h1
      refine sort_pairs (K := K) (l := l.filter nz) (xs := xs) h3.fh (al.up h2) (SqL.of (by rw [upd_ne hDd]; exact w.h)) fun ys p np hys => ?_
      exact q _ _ p ys (h3.own np) (Ow.mk1 h3 np) hys
def sp_Goer_setup (C : Addr) : Sp := fun vs H Q _ => ∃ (F : Hp) (g d : Addr) (tb : V) (r s : Int) (l : List PI) (n : Int), vs = [.ref g] ∧ Same F H ∧ GoAt C H g d tb r s l n ∧ l.length ≤ 100000 ∧
  ∀ (F' H' : Hp) (p u : Addr) (xs : List V), Gr mu0 F H F' H' → Ow H F' H' p (.lst xs) → IsAll F' xs (told l) → Ow H F' H' u (.tup [.int r, .int s, .ref p]) → Q (.ref u) H'
theorem ok_Goer_setup (t : Tx K mg) : FnOk P w K mg base CX0 2 t.a_Goer_setup t.fd_Goer_setup ["self"] (sp_Goer_setup t.C_Goer) := by
  refine t.F_Goer_setup.ok sc_Goer_setup (fun vs H Q E h => ?_) (fun cdv A outer s H vs Q E hr h => ?_)
  · obtain ⟨F, g, d, tb, r, s, l, n, rfl, _⟩ := h
    rfl
  · obtain ⟨F, g, d, tb, r, s, l, n, rfl, sF, hg, hl, q⟩ := h
    refine ⟨_, (pss_one (ps_ret (pe_tup (pa_cons (pe_fld (pv 0) rfl) (pa_cons (pe_fld (pv 0) rfl) (pa_cons (pe_call (ok_told_strip t) (hr.mono (by decide)) (by rfl) t.m_told_strip t.F_told_strip.kp t.b_told_strip .nil pass0 (pa_cons (pe_fld (pv 0) rfl) pa_nil)) pa_nil)))))), ?_⟩
    obtain ⟨⟨dx, ho⟩, hd⟩ := id hg
    refine ⟨_, rfl, g, t.C_Goer, dx, _, _, rfl, ho, t.cl_Goer, t.nA_Goer_row, Goer_get_row, _, rfl, g, t.C_Goer, dx, _, _, rfl, ho, t.cl_Goer, t.nA_Goer_spot, Goer_get_spot, _, rfl, g, t.C_Goer, dx, _, _, rfl, ho, t.cl_Goer, t.nA_Goer_signs, Goer_get_signs, ?_⟩
    refine ⟨F, d, l, rfl, sF, hd, hl, fun F' H' p xs gr w al => ⟨three_le, fun u nu => ?_⟩⟩
    exact q F' _ p u xs (gr.own nu) (w.own nu) al (Ow.mk1 gr nu)
/-- what is due of a run -/
abbrev Res := T3 TStr Int Setup
def tEnds : TStr := ⟨"ends", by decide +kernel⟩
def tOn : TStr := ⟨"on", by decide +kernel⟩
def dueOf (M : Mach) (n k : Nat) (c : Cfg) : Res := if entOf M c = Ent.emp then ⟨tEnds, k, c.r, c.s, told c.l⟩ else ⟨tOn, n, c.r, c.s, told c.l⟩
def sp_gone (C : Addr) : Sp := fun vs H Q _ => ∃ (F : Hp) (m : V) (M : Mach) (R S n : Nat), vs = [m, .int n] ∧ Same F H ∧ Is F m M ∧ MOk M R S ∧ n ≤ 5000 ∧
  ∀ (F' H' : Hp) (u g d : Addr) (k : Nat) (c : Cfg), Gr mu0 F H F' H' → F' u = some (.tup [.ref g, .bl (decide (entOf M c = Ent.emp))]) → H g = none → H d = none → F' g = none → F' d = none → GoAt C H' g d m c.r c.s c.l k → Gone M n k c → Q (.ref u) H'
theorem ok_gone (t : Tx K mg) : FnOk P w K mg base CX0 3 t.a_gone t.fd_gone ["machine", "most"] (sp_gone t.C_Goer) := by
  refine t.F_gone.ok sc_gone (fun vs H Q E h => ?_) (fun cdv A outer s H vs Q E hr h => ?_)
  · obtain ⟨F, m, M, R, S, n, rfl, _⟩ := h
    rfl
  · obtain ⟨F, m, M, R, S, n, rfl, sF, hm, hM, hn, q⟩ := h
    refine ⟨_, (pss_cons (ps_set (i := 2) sc_gone.nd rfl (by first | exact Or.inl rfl | exact Or.inr rfl) (pe_make t.M_Goer (ok_Goer_init t) (hr.mono (by decide)) (by rfl) t.m_Goer t.b_Goer_init .nil pass0 (pa_cons (pv 0) (pa_cons (pe_tup (pa_cons pe_int (pa_cons pe_int (pa_cons (pe_lst pa_nil) pa_nil)))) pa_nil))))
      (pss_cons (ps_set (i := 3) sc_gone.nd rfl (by first | exact Or.inl rfl | exact Or.inr rfl) pe_bl)
      (pss_cons (ps_while PassesOwn.never (PW.pt (pw_and (pt_val (pv 3)) (pw_and1 (pt_cmpR op_lt (pe_fld (pv 2) rfl) (pv 1) (nomark _))))) (pss_one (ps_set (i := 3) sc_gone.nd rfl (by first | exact Or.inl rfl | exact Or.inr rfl) (pe_meth0 (pv 2) t.cl_Goer t.M_Goer_step (ok_Goer_step t) (hr.mono (by decide)) t.b_Goer_step .nil pass0))))
      (pss_one (ps_ret (pe_tup (pa_cons (pv 2) (pa_cons (pe_cmpR (op_eqD hr.units) (pe_meth0 (pv 2) t.cl_Goer t.M_Goer_entry (ok_Goer_entry t) (hr.mono (by decide)) t.b_Goer_entry .nil pass0) (pe_tup pa_nil) (nomark _)) pa_nil)))))))), ?_⟩
    have g0 : Gr mu0 F H F H := Gr.refl sF
    -- walk = Goer(machine, (0, 0, []))
    refine ⟨_, rfl, nil_le, fun l nl => ⟨three_le, fun u nu => ?_⟩⟩
    have g1 := g0.new (o := .lst []) nl
    have g2 := g1.new (o := .tup [.int 0, .int 0, .ref l]) nu
    have hx : Is (upd (upd F l (.lst [])) u (.tup [.int 0, .int 0, .ref l])) (.ref u) (⟨0, 0, []⟩ : Setup) := ⟨u, _, _, _, rfl, upd_same, rfl, rfl, l, [], rfl, ln (g1.fh.free nu) upd_same, All2.nil⟩
    generalize upd (upd F l (.lst [])) u (.tup [.int 0, .int 0, .ref l]) = F2 at g2 hx
    generalize upd (upd H l (.lst [])) u (.tup [.int 0, .int 0, .ref l]) = H2 at g2
    refine fun y dy ny ndy ney => ?_
    have g3 := g2.own (o := .own y) ndy
    have ny2 : (upd H2 dy (.own y)) y = none := by rw [upd_ne ney.symm]; exact ny
    have g4 := g3.own (o := .ins t.C_Goer dy []) ny2
    have hy : H y = none := g2.th _ ny
    have fy : F2 y = none := g2.fh.free ny
    refine ⟨F2, y, dy, m, .ref u, _, rfl, upd_same, fy, g4.fh, hx, fun d H5 nd5 g5 ga => ⟨rfl, ?_⟩⟩
    have g6 := g4.thn g5 fun c z => .inr (by rw [show c = y from z]; exact hy)
    have hd : H d = none := g4.th _ nd5
    have fd : F2 d = none := g4.fh.free nd5
    have hm2 := hm.up g2.ff
    -- going = True; while going and walk.steps < most
    refine ⟨fun k σ G => ∃ (F1 : Hp) (j : Nat) (c : Cfg) (b : Bool), k = 2 * (n - j) + b.toNat ∧ σ = [some m, some (.int n), some (.ref y), some (.bl b)] ∧ Gr mu0 F H F1 G ∧ F1 y = none ∧ F1 d = none ∧ Same F2 F1 ∧ GoAt t.C_Goer G y d m c.r c.s c.l j ∧ stepsC M j = some c ∧ j ≤ n ∧ (b = false → stepC M c = none),
      ⟨_, F2, 0, c0, true, rfl, rfl, g6, fy, fd, Same.refl _, ga, rfl, Nat.zero_le _, (fun z => nomatch z)⟩, ?_⟩
    rintro k σ G ⟨F1, j, c, b, rfl, rfl, g, fy, fd, s2, ga, st, lj, hb⟩
    obtain ⟨ok, ll⟩ := stepsC_ok hM st
    have hm1 := hm2.up s2
    obtain ⟨row, er, s0, ee, eo⟩ := ok.ent hM
    have gy := g.th
    have fin : ∀ G1, Gr mu0 F H F1 G1 → GoAt t.C_Goer G1 y d m c.r c.s c.l j → (stepC M c = none ∨ j = n) → ∀ p, G1 p = none → ∀ u, (upd G1 p (.tup [])) u = none → Q (.ref u) (upd (upd G1 p (.tup [])) u (.tup [.ref y, .bl (decide (entOf M c = Ent.emp))])) := by
      intro G1 g1 ga1 hend p np u nu
      have g2 := g1.own (o := .tup []) np
      have g3 := g2.new (o := .tup [.ref y, .bl (decide (entOf M c = Ent.emp))]) nu
      obtain ⟨⟨dx, ho⟩, hdc⟩ := id ga1
      have yu : y ≠ u := fun z => by rw [← z, upd_ne (ne_of_none ho np), ho] at nu; cases nu
      have du : d ≠ u := fun z => by rw [← z, upd_ne (ne_of_none hdc np), hdc] at nu; cases nu
      refine q _ _ u y d j c g3 upd_same hy hd (by rw [upd_ne yu]; exact fy) (by rw [upd_ne du]; exact fd) ⟨⟨dx, ln nu (ln np ho)⟩, ln nu (ln np hdc)⟩ ⟨lj, st, hend⟩
    obtain ⟨⟨dx, ho⟩, hdc⟩ := id ga
    refine ⟨_, rfl, _, rfl, ?_⟩
    refine ite2 (fun cb => ?_) (fun cb => ?_)
    · refine ⟨_, rfl, y, t.C_Goer, dx, _, _, rfl, ho, t.cl_Goer, t.nA_Goer_steps, Goer_get_steps, _, rfl, _, _, rfl, rfl, _, rfl, ?_⟩
      refine ite2 (fun cl => ?_) (fun cl => ?_)
      · have cl : (j : Int) < n := of_decide_eq_true cl
        refine ⟨_, fun _ _ h => h, ?_⟩
        refine ⟨_, rfl, y, dx, _, rfl, ho, Goer_no (by decide +kernel) (by decide +kernel) (by decide +kernel) (by decide +kernel) (by decide +kernel), F1, y, d, m, M, c.r, c.s, c.l, j, row, entOf M c, rfl, g.fh, fy, fd, hm1, ga, ok.r0, er, s0, ee, by omega, fun he H6 g6 => ?_, fun p w r' he H6 g6 gb => ?_⟩
        · exact ⟨2 * (n - j), by rw [cb]; show _ < 2 * (n - j) + 1; omega, F1, j, c, false, rfl, rfl, g.trans g6, fy, fd, s2, ga.gr g6 (fun z => z) (fun z => z), st, lj, fun _ => stepC_none.mpr he⟩
        · have st1 := stepC_go he
          exact ⟨2 * (n - (j + 1)) + 1, by rw [cb]; show _ < 2 * (n - j) + 1; omega, F1, j + 1, ⟨r', c.s + w, put c.l c.s p⟩, true, rfl, rfl, g.thn g6 (fun c z => .inr (by rcases z with rfl | rfl <;> assumption)), fy, fd, s2, gb, (stepsC_next st).trans st1, by omega, fun z => nomatch z⟩
      · have cl : ¬ (j : Int) < n := fun z => cl (decide_eq_true z)
        refine ⟨_, rfl, _, rfl, y, dx, _, rfl, ho, Goer_no (by decide +kernel) (by decide +kernel) (by decide +kernel) (by decide +kernel) (by decide +kernel), F1, y, d, m, M, c.r, c.s, c.l, j, row, entOf M c, rfl, g.fh, hm1, ga, ok.r0, er, s0, ee, fun v hv => ⟨nil_le, fun p np => ?_⟩⟩
        refine eq_dat (a := entOf M c) (b := Ent.emp) (hv.up (g.own np).fh) ⟨p, rfl, upd_same⟩ ⟨two_le, fun u nu => ?_⟩
        exact fin G g ga (.inr (by omega)) p np u nu
    · refine ifF rfl ?_
      have cb : b = false := by cases b with | false => rfl | true => exact absurd rfl cb
      refine ⟨_, rfl, _, rfl, y, dx, _, rfl, ho, Goer_no (by decide +kernel) (by decide +kernel) (by decide +kernel) (by decide +kernel) (by decide +kernel), F1, y, d, m, M, c.r, c.s, c.l, j, row, entOf M c, rfl, g.fh, hm1, ga, ok.r0, er, s0, ee, fun v hv => ⟨nil_le, fun p np => ?_⟩⟩
      refine eq_dat (a := entOf M c) (b := Ent.emp) (hv.up (g.own np).fh) ⟨p, rfl, upd_same⟩ ⟨two_le, fun u nu => ?_⟩
      exact fin G g ga (.inl (hb cb)) p np u nu
def sp_run : Sp := fun vs H Q _ => ∃ (F : Hp) (m : V) (M : Mach) (R S n : Nat), vs = [m, .int n] ∧ Same F H ∧ Is F m M ∧ MOk M R S ∧ n ≤ 5000 ∧
  ∀ (F' H' : Hp) (l u v : Addr) (xs : List V) (k : Nat) (c : Cfg), Gr mu0 F H F' H' → Gone M n k c → Ow H F' H' l (.lst xs) → IsAll F' xs (told c.l) → Ow H F' H' u (.tup [.int c.r, .int c.s, .ref l]) → Ow H F' H' v (.tup [.str (dueOf M n k c).a.x, .int (dueOf M n k c).b, .ref u]) → Q (.ref v) H'
theorem due_c {M : Mach} {n k : Nat} {c : Cfg} : (dueOf M n k c).c = ⟨c.r, c.s, told c.l⟩ := by unfold dueOf; split <;> rfl
theorem run_is {M : Mach} {n k : Nat} {c : Cfg} {F G : Hp} {l u v : Addr} {xs : List V} (s : Same F G) (hl : G l = some (.lst xs)) (al : IsAll F xs (told c.l)) (hu : G u = some (.tup [.int c.r, .int c.s, .ref l])) (hv : G v = some (.tup [.str (dueOf M n k c).a.x, .int (dueOf M n k c).b, .ref u])) : Is G (.ref v) (dueOf M n k c) := by
  refine ⟨v, _, _, _, rfl, hv, rfl, rfl, ?_⟩
  rw [due_c]
  exact ⟨u, _, _, _, rfl, hu, rfl, rfl, l, xs, rfl, hl, al.up s⟩
theorem ok_run (t : Tx K mg) : FnOk P w K mg base CX0 4 t.a_run t.fd_run ["machine", "most"] sp_run := by
  refine t.F_run.ok sc_run (fun vs H Q E h => ?_) (fun cdv A outer s H vs Q E hr h => ?_)
  · obtain ⟨F, m, M, R, S, n, rfl, _⟩ := h
    rfl
  · obtain ⟨F, m, M, R, S, n, rfl, sF, hm, hM, hn, q⟩ := h
    refine ⟨_, (pss_cons (ps_expr (pe_call (ok_must_machine t) (hr.mono (by decide)) (by rfl) t.m_must_machine t.F_must_machine.kp t.b_must_machine .nil pass0 (pa_cons (pv 0) pa_nil)))
      (pss_cons (ps_asg (pe_call (ok_gone t) (hr.mono (by decide)) (by rfl) t.m_gone t.F_gone.kp t.b_gone .nil pass0 (pa_cons (pv 0) (pa_cons (pv 1) pa_nil))) (pg_tup rfl (pgs_cons (pg_name (i := 2) sc_run.nd rfl (by first | exact Or.inl rfl | exact Or.inr rfl)) (pgs_cons (pg_name (i := 3) sc_run.nd rfl (by first | exact Or.inl rfl | exact Or.inr rfl)) pgs_nil))))
      (pss_cons (ps_if (pt_val (pv 3)) (pss_one (ps_ret (pe_tup (pa_cons pe_str (pa_cons (pe_fld (pv 2) rfl) (pa_cons (pe_meth0 (pv 2) t.cl_Goer t.M_Goer_setup (ok_Goer_setup t) (hr.mono (by decide)) t.b_Goer_setup .nil pass0) pa_nil)))))) pss_nil)
      (pss_one (ps_ret (pe_tup (pa_cons pe_str (pa_cons (pv 1) (pa_cons (pe_meth0 (pv 2) t.cl_Goer t.M_Goer_setup (ok_Goer_setup t) (hr.mono (by decide)) t.b_Goer_setup .nil pass0) pa_nil))))))))), ?_⟩
    refine ⟨_, rfl, F, m, M, R, S, rfl, sF, hm, hM, fun H1 g1 => ?_⟩
    refine ⟨_, rfl, _, rfl, F, m, M, R, S, n, rfl, g1.fh, hm, hM, hn, fun F2 H2 w g d k c g2 hw ng nd fg fd ga go => ?_⟩
    have g12 := g1.trans g2
    refine ⟨w, _, rfl, SqT.of (g2.fh _ _ hw), rfl, _, _, rfl, _, _, rfl, rfl, ?_⟩
    obtain ⟨ok, ll⟩ := stepsC_ok hM go.stp
    have gle := go.le
    obtain ⟨⟨dx, ho⟩, hdc⟩ := id ga
    have key : ∀ (x : Str) (i : Int), (dueOf M n k c).a.x = x → (dueOf M n k c).b = i → ∀ (F' H' : Hp) (p u : Addr) (xs : List V), Gr mu0 F2 H2 F' H' → Ow H2 F' H' p (.lst xs) → IsAll F' xs (told c.l) → Ow H2 F' H' u (.tup [.int c.r, .int c.s, .ref p]) → ∀ v, H' v = none → Q (.ref v) (upd H' v (.tup [.str x, .int i, .ref u])) := by
      intro x i ex ei F' H' p u xs g3 w1 al w2 v nv
      have g13 := g12.trans g3
      refine q F' _ p u v xs k c (g13.own nv) go ⟨g12.th _ w1.n, w1.f, ln nv w1.h⟩ al ⟨g12.th _ w2.n, w2.f, ln nv w2.h⟩ ?_
      rw [ex, ei]
      exact Ow.mk1 g13 nv
    by_cases e : entOf M c = Ent.emp
    · refine ⟨_, rfl, _, rfl, ifT (decide_eq_true e) ?_⟩
      refine ⟨_, rfl, g, t.C_Goer, dx, _, _, rfl, ho, t.cl_Goer, t.nA_Goer_steps, Goer_get_steps, _, rfl, g, dx, _, rfl, ho, Goer_no (by decide +kernel) (by decide +kernel) (by decide +kernel) (by decide +kernel) (by decide +kernel), F2, g, d, m, c.r, c.s, c.l, k, rfl, g2.fh, ga, by omega, fun F' H' p u xs g3 w1 al w2 => ⟨three_le, fun v nv => ?_⟩⟩
      exact key tEnds.x k (by unfold dueOf; rw [if_pos e]) (by unfold dueOf; rw [if_pos e]) F' H' p u xs g3 w1 al w2 v nv
    · refine ⟨_, rfl, _, rfl, ifF (decide_eq_false e) ?_⟩
      refine ⟨_, rfl, _, rfl, g, dx, _, rfl, ho, Goer_no (by decide +kernel) (by decide +kernel) (by decide +kernel) (by decide +kernel) (by decide +kernel), F2, g, d, m, c.r, c.s, c.l, k, rfl, g2.fh, ga, by omega, fun F' H' p u xs g3 w1 al w2 => ⟨three_le, fun v nv => ?_⟩⟩
      exact key tOn.x n (by unfold dueOf; rw [if_neg e]) (by unfold dueOf; rw [if_neg e]) F' H' p u xs g3 w1 al w2 v nv
/-- what is read at a place -/
def gz (l : List PI) (x : Int) : Int := (look l x).getD 0
/-! ### strides and single steps -/
theorem gz_put (l : List PI) (x v y : Int) : gz (put l x v) y = if y = x then v else gz l y := by
  unfold gz
  rw [look_put]
  split <;> rfl
def Pos (l : List PI) : Prop := ∀ q ∈ l, 1 ≤ q.b
theorem Pos.nil : Pos [] := fun q z => nomatch z
theorem takn_laid1 {l : List PI} {p : Int} (h : Pos l) : takn (laid l p 1) = (p, l) := by
  have n0 : ¬ (1 : Int) = 0 := by decide
  cases l with
  | nil =>
    by_cases c : p = 0
    · subst c; rfl
    · rw [laid_nil n0 c]; rfl
  | cons a r =>
    have ha := h a (List.mem_cons_self ..)
    rw [laid_cons n0]
    by_cases c : a.a = p
    · rw [if_pos c]
      unfold takn
      dsimp only
      rw [if_neg (by omega), show a.b + 1 - 1 = a.b by omega, ← c]
    · rw [if_neg c]; rfl
theorem laid_laid {l : List PI} {p m n : Int} (hm : 1 ≤ m) (hn : 1 ≤ n) : laid (laid l p m) p n = laid l p (m + n) := by
  have m0 : ¬ m = 0 := by omega
  have n0 : ¬ n = 0 := by omega
  have s0 : ¬ m + n = 0 := by omega
  cases l with
  | nil =>
    by_cases c : p = 0
    · rw [laid_same (n := m) (.inr ⟨rfl, c⟩), laid_same (n := n) (.inr ⟨rfl, c⟩), laid_same (n := m + n) (.inr ⟨rfl, c⟩)]
    · rw [laid_nil m0 c, laid_nil s0 c, laid_cons n0, if_pos rfl]
  | cons a r =>
    rw [laid_cons m0, laid_cons s0]
    by_cases c : a.a = p
    · rw [if_pos c, if_pos c, laid_cons n0, if_pos rfl, Int.add_assoc]
    · rw [if_neg c, if_neg c, laid_cons n0, if_pos rfl]
def sgn : List PI → Nat → Int
  | l, 0 => (takn l).1
  | l, i + 1 => sgn (takn l).2 i
theorem sgn_laid {l : List PI} {p : Int} (h : Pos l) : sgn (laid l p 1) 0 = p ∧ ∀ i, sgn (laid l p 1) (i + 1) = sgn l i := by
  have e := takn_laid1 (p := p) h
  refine ⟨by show (takn _).1 = p; rw [e], fun i => ?_⟩
  show sgn (takn _).2 i = _
  rw [e]
structure Rep (k : Sk) (c : Cfg) : Prop where
  row : c.r = k.row
  s : gz c.l c.s = k.s
  lf : ∀ i : Nat, gz c.l (c.s - 1 - i) = sgn k.l i
  rt : ∀ i : Nat, gz c.l (c.s + 1 + i) = sgn k.r i
theorem Rep.ent {M : Mach} {k : Sk} {c : Cfg} (h : Rep k c) : entOf M c = entAt M k.row k.s := by
  unfold entOf entAt
  rw [← h.row, ← h.s]
  rfl
def step1 (k : Sk) (b : Bool) (p t : Int) : Sk :=
  ⟨if b then laid (k.bh b) p 1 else (takn (k.ah b)).2, if b then (takn (k.ah b)).2 else laid (k.bh b) p 1, (takn (k.ah b)).1, t, k.st + 1⟩
theorem Rep.step1 {k : Sk} {c : Cfg} (h : Rep k c) (hl : Pos k.l) (hr : Pos k.r) {p w t : Int} (hw : w = -1 ∨ w = 1) : Rep (step1 k (decide (w = 1)) p t) ⟨t, c.s + w, put c.l c.s p⟩ := by
  rcases hw with rfl | rfl
  · have z := sgn_laid (p := p) hr
    refine ⟨rfl, ?_, fun i => ?_, fun i => ?_⟩
    · show gz (put c.l c.s p) (c.s + -1) = (takn k.l).1
      rw [gz_put, if_neg (by omega)]
      have := h.lf 0
      rw [show c.s - 1 - ((0 : Nat) : Int) = c.s + -1 by omega] at this
      exact this
    · show gz (put c.l c.s p) (c.s + -1 - 1 - i) = sgn (takn k.l).2 i
      rw [gz_put, if_neg (by omega)]
      have := h.lf (i + 1)
      rw [show c.s - 1 - ((i + 1 : Nat) : Int) = c.s + -1 - 1 - i by omega] at this
      exact this
    · show gz (put c.l c.s p) (c.s + -1 + 1 + i) = sgn (laid k.r p 1) i
      rw [gz_put]
      cases i with
      | zero => rw [if_pos (by omega), z.1]
      | succ i =>
        rw [if_neg (by omega), z.2]
        have := h.rt i
        rw [show c.s + 1 + (i : Int) = c.s + -1 + 1 + ((i + 1 : Nat) : Int) by omega] at this
        exact this
  · have z := sgn_laid (p := p) hl
    refine ⟨rfl, ?_, fun i => ?_, fun i => ?_⟩
    · show gz (put c.l c.s p) (c.s + 1) = (takn k.r).1
      rw [gz_put, if_neg (by omega)]
      have := h.rt 0
      rw [show c.s + 1 + ((0 : Nat) : Int) = c.s + 1 by omega] at this
      exact this
    · show gz (put c.l c.s p) (c.s + 1 - 1 - i) = sgn (laid k.l p 1) i
      rw [gz_put]
      cases i with
      | zero => rw [if_pos (by omega), z.1]
      | succ i =>
        rw [if_neg (by omega), z.2]
        have := h.lf i
        rw [show c.s - 1 - (i : Int) = c.s + 1 - 1 - ((i + 1 : Nat) : Int) by omega] at this
        exact this
    · show gz (put c.l c.s p) (c.s + 1 + 1 + i) = sgn (takn k.r).2 i
      rw [gz_put, if_neg (by omega)]
      have := h.rt (i + 1)
      rw [show c.s + 1 + ((i + 1 : Nat) : Int) = c.s + 1 + 1 + i by omega] at this
      exact this
theorem Pos.of {S : Nat} {l : List PI} (h : OkS S l) : Pos l := fun q z => (h q z).2
theorem Pos.takn {l : List PI} (h : Pos l) : Pos (takn l).2 := by
  cases l with
  | nil => exact Pos.nil
  | cons a r =>
    have ha := h a (List.mem_cons_self ..)
    have hr : Pos r := fun q z => h q (List.mem_cons_of_mem _ z)
    unfold E.takn
    dsimp only
    split
    · exact hr
    · intro q z
      rcases List.mem_cons.mp z with rfl | z
      · show 1 ≤ a.b - 1; omega
      · exact hr q z
theorem Pos.laid {l : List PI} {p n : Int} (h : Pos l) (hn : 1 ≤ n) : Pos (laid l p n) := by
  have n0 : ¬ n = 0 := by omega
  cases l with
  | nil =>
    by_cases c : p = 0
    · rw [laid_same (.inr ⟨rfl, c⟩)]; exact h
    · rw [laid_nil n0 c]
      intro q z
      rw [List.mem_singleton.mp z]; exact hn
  | cons a r =>
    rw [laid_cons n0]
    have ha := h a (List.mem_cons_self ..)
    split
    · intro q z
      rcases List.mem_cons.mp z with rfl | z
      · show 1 ≤ a.b + n; omega
      · exact h q (List.mem_cons_of_mem _ z)
    · intro q z
      rcases List.mem_cons.mp z with rfl | z
      · exact hn
      · exact h q z
theorem step1_pos {k : Sk} {b : Bool} {p t : Int} (hl : Pos k.l) (hr : Pos k.r) : Pos (step1 k b p t).l ∧ Pos (step1 k b p t).r := by
  cases b
  · exact ⟨hl.takn, hr.laid (by decide)⟩
  · exact ⟨hl.laid (by decide), hr.takn⟩
theorem step1_ah {k : Sk} {b : Bool} {p t : Int} : (step1 k b p t).ah b = (takn (k.ah b)).2 := by cases b <;> rfl
theorem step1_bh {k : Sk} {b : Bool} {p t : Int} : (step1 k b p t).bh b = laid (k.bh b) p 1 := by cases b <;> rfl
def mkS (b : Bool) (bh ah : List PI) (s row st : Int) : Sk := ⟨if b then bh else ah, if b then ah else bh, s, row, st⟩
/-- a step that is done -/
theorem sim1 {M : Mach} {R S : Nat} {k : Sk} {c : Cfg} {j : Nat} {p w t : Int} (hM : MOk M R S) (h : Rep k c) (ok : 0 ≤ k.row ∧ k.row < R ∧ 0 ≤ k.s ∧ k.s < S) (hl : Pos k.l) (hr : Pos k.r) (e : stepsC M j = some c) (he : entAt M k.row k.s = .go p w t) :
    ∃ c', stepsC M (j + 1) = some c' ∧ Rep (step1 k (decide (w = 1)) p t) c' := by
  obtain ⟨_, _, _, eo⟩ := ent_of hM ok.1 ok.2.1 ok.2.2.1 ok.2.2.2
  obtain ⟨_, wo, _, _⟩ := eo.ok _ _ _ he
  refine ⟨_, ?_, h.step1 hl hr wo⟩
  rw [stepsC_next e]
  exact stepC_go (by rw [h.ent]; exact he)
/-- a stride over places of one sign -/
theorem simFar {M : Mach} {R S : Nat} {p w : Int} (hM : MOk M R S) : ∀ (m : Nat) {k : Sk} {c : Cfg} {j : Nat} {tl : List PI}, Rep k c → (0 ≤ k.row ∧ k.row < R ∧ 0 ≤ k.s ∧ k.s < S) → Pos k.l → Pos k.r → stepsC M j = some c →
    entAt M k.row k.s = .go p w k.row → k.ah (decide (w = 1)) = ⟨k.s, (m : Int) + 1⟩ :: tl →
    ∃ c', stepsC M (j + m + 2) = some c' ∧ Rep (mkS (decide (w = 1)) (laid (k.bh (decide (w = 1))) p ((m : Int) + 2)) (takn tl).2 (takn tl).1 k.row (k.st + (m + 2))) c' := by
  intro m
  induction m with
  | zero =>
    intro k c j tl h ok hl hr e he ea
    obtain ⟨c1, e1, h1⟩ := sim1 hM h ok hl hr e he
    have et : takn (k.ah (decide (w = 1))) = (k.s, tl) := by
      rw [ea]
      unfold takn
      dsimp only
      rw [if_pos (by simp)]
    have es : (step1 k (decide (w = 1)) p k.row).s = k.s := by
      show (takn _).1 = _
      rw [et]
    obtain ⟨l1, r1⟩ := step1_pos (b := decide (w = 1)) (p := p) (t := k.row) hl hr
    obtain ⟨c2, e2, h2⟩ := sim1 (t := k.row) (p := p) (w := w) hM h1 (by rw [es]; exact ok) l1 r1 e1 (by rw [es]; exact he)
    refine ⟨c2, e2, ?_⟩
    have eq : step1 (step1 k (decide (w = 1)) p k.row) (decide (w = 1)) p k.row = mkS (decide (w = 1)) (laid (k.bh (decide (w = 1))) p (((0 : Nat) : Int) + 2)) (takn tl).2 (takn tl).1 k.row (k.st + (((0 : Nat) : Int) + 2)) := by
      rw [step1, step1_ah, step1_bh, et, laid_laid (by decide) (by decide)]
      show Sk.mk _ _ _ _ (k.st + 1 + 1) = _
      rw [show k.st + 1 + 1 = k.st + (((0 : Nat) : Int) + 2) by omega]
      rfl
    rw [eq] at h2
    exact h2
  | succ m ih =>
    intro k c j tl h ok hl hr e he ea
    obtain ⟨c1, e1, h1⟩ := sim1 hM h ok hl hr e he
    have et : takn (k.ah (decide (w = 1))) = (k.s, ⟨k.s, (m : Int) + 1⟩ :: tl) := by
      rw [ea]
      unfold takn
      dsimp only
      rw [if_neg (by omega), show ((m + 1 : Nat) : Int) + 1 - 1 = (m : Int) + 1 by omega]
    have es : (step1 k (decide (w = 1)) p k.row).s = k.s := by
      show (takn _).1 = _
      rw [et]
    obtain ⟨l1, r1⟩ := step1_pos (b := decide (w = 1)) (p := p) (t := k.row) hl hr
    obtain ⟨c2, e2, h2⟩ := ih (tl := tl) h1 (by rw [es]; exact ok) l1 r1 e1 (by rw [es]; exact he) (by rw [step1_ah, et, es])
    refine ⟨c2, by rw [show j + (m + 1) + 2 = j + 1 + m + 2 by omega]; exact e2, ?_⟩
    rw [step1_bh, laid_laid (by decide) (by omega)] at h2
    rw [show (((m + 1 : Nat) : Int) + 2) = 1 + ((m : Int) + 2) by omega, show k.st + (1 + ((m : Int) + 2)) = k.st + 1 + ((m : Int) + 2) by omega]
    exact h2
theorem sim {M : Mach} {R S : Nat} {k : Sk} {c : Cfg} {j : Nat} {p w t : Int} (hM : MOk M R S) (h : Rep k c) (ok : OkK R S k) (e : stepsC M j = some c) (he : entAt M k.row k.s = .go p w t) :
    ∃ c', stepsC M (j + (farOf k (decide (w = 1)) t).toNat) = some c' ∧ Rep (stepS k (decide (w = 1)) p t) c' := by
  have hl := Pos.of ok.l
  have hr := Pos.of ok.r
  have o4 : 0 ≤ k.row ∧ k.row < R ∧ 0 ≤ k.s ∧ k.s < S := ⟨ok.r0, ok.r1, ok.s0, ok.s1⟩
  by_cases ea : eats k (decide (w = 1)) t = true
  · have ea' := ea
    unfold eats at ea'
    rw [Bool.and_eq_true] at ea'
    have et : t = k.row := of_decide_eq_true ea'.1
    subst et
    have e2 := ea'.2
    have pa := ok.ah (decide (w = 1))
    cases eah : k.ah (decide (w = 1)) with
    | nil => rw [eah] at e2; cases e2
    | cons hd tl =>
      rw [eah] at e2 pa
      have es : hd.a = k.s := of_decide_eq_true e2
      have hb := (pa hd (List.mem_cons_self ..)).2
      obtain ⟨m, em⟩ : ∃ m : Nat, hd.b = (m : Int) + 1 := ⟨(hd.b - 1).toNat, by omega⟩
      have ef : farOf k (decide (w = 1)) k.row = (m : Int) + 2 := by
        unfold farOf
        rw [if_pos ea, eah]
        show 1 + hd.b = _
        omega
      have eo : ahOf k (decide (w = 1)) k.row = tl := by
        unfold ahOf
        rw [if_pos ea, eah]; rfl
      obtain ⟨c2, e2, h2⟩ := simFar (p := p) (w := w) hM m (tl := tl) h o4 hl hr e he (by
        rw [eah]
        obtain ⟨ha, hb'⟩ := hd
        have es : ha = k.s := es
        have em : hb' = (m : Int) + 1 := em
        rw [es, em])
      refine ⟨c2, ?_, ?_⟩
      · rw [ef, show j + ((m : Int) + 2).toNat = j + m + 2 by omega]; exact e2
      · have eq : stepS k (decide (w = 1)) p k.row = mkS (decide (w = 1)) (laid (k.bh (decide (w = 1))) p ((m : Int) + 2)) (takn tl).2 (takn tl).1 k.row (k.st + (m + 2)) := by
          unfold stepS
          rw [ef, eo]; rfl
        rw [eq]; exact h2
  · have ea : eats k (decide (w = 1)) t = false := Bool.eq_false_iff.mpr ea
    obtain ⟨c1, e1, h1⟩ := sim1 hM h o4 hl hr e he
    have ef : farOf k (decide (w = 1)) t = 1 := by
      unfold farOf
      rw [if_neg (by rw [ea]; exact Bool.false_ne_true)]
    have eo : ahOf k (decide (w = 1)) t = k.ah (decide (w = 1)) := by
      unfold ahOf
      rw [if_neg (by rw [ea]; exact Bool.false_ne_true)]
    refine ⟨c1, by rw [ef]; exact e1, ?_⟩
    have eq : stepS k (decide (w = 1)) p t = step1 k (decide (w = 1)) p t := by
      unfold stepS step1
      rw [ef, eo]
    rw [eq]; exact h1
/-! ### runs as they are told of a strip -/
def Can : List PI → Prop
  | [] => True
  | [h] => 1 ≤ h.b ∧ h.a ≠ 0
  | h :: g :: r => 1 ≤ h.b ∧ h.a ≠ g.a ∧ Can (g :: r)
theorem Can.tl {h : PI} {r : List PI} (c : Can (h :: r)) : 1 ≤ h.b ∧ Can r := by
  cases r with
  | nil => exact ⟨c.1, trivial⟩
  | cons g r => exact ⟨c.1, c.2.2⟩
theorem Can.re {h : PI} {r : List PI} (c : Can (h :: r)) {n : Int} (hn : 1 ≤ n) : Can (⟨h.a, n⟩ :: r) := by
  cases r with
  | nil => exact ⟨hn, c.2⟩
  | cons g r => exact ⟨hn, c.2⟩
theorem Can.pos : ∀ {l : List PI}, Can l → Pos l
  | [], _ => Pos.nil
  | h :: r, c => fun q z => by
    rcases List.mem_cons.mp z with rfl | z
    · exact c.tl.1
    · exact Can.pos c.tl.2 q z
theorem takn_can {l : List PI} (c : Can l) : Can (takn l).2 := by
  cases l with
  | nil => exact trivial
  | cons h r =>
    have hb := c.tl.1
    unfold takn
    dsimp only
    split
    · exact c.tl.2
    · exact c.re (by omega)
theorem laid_can {l : List PI} {p n : Int} (c : Can l) (hn : 1 ≤ n) : Can (laid l p n) := by
  have n0 : ¬ n = 0 := by omega
  cases l with
  | nil =>
    by_cases e : p = 0
    · rw [laid_same (.inr ⟨rfl, e⟩)]; exact c
    · rw [laid_nil n0 e]; exact ⟨hn, e⟩
  | cons h r =>
    rw [laid_cons n0]
    have hb := c.tl.1
    by_cases e : h.a = p
    · rw [if_pos e, ← e]; exact c.re (by omega)
    · rw [if_neg e]; exact ⟨hn, fun z => e z.symm, c⟩
theorem takn_laid {l : List PI} (c : Can l) : laid (takn l).2 (takn l).1 1 = l := by
  have n0 : ¬ (1 : Int) = 0 := by decide
  cases l with
  | nil => exact laid_same (.inr ⟨rfl, rfl⟩)
  | cons h r =>
    obtain ⟨ha, hb⟩ := h
    have h1 : 1 ≤ hb := c.tl.1
    unfold takn
    dsimp only
    by_cases e : hb = 1
    · rw [if_pos e]
      subst e
      cases r with
      | nil => exact laid_nil n0 c.2
      | cons g r =>
        show laid (g :: r) ha 1 = _
        rw [laid_cons n0, if_neg (fun z => c.2.1 z.symm)]
    · rw [if_neg e]
      show laid (⟨ha, hb - 1⟩ :: r) ha 1 = _
      rw [laid_cons n0, if_pos rfl, Int.sub_add_cancel]
def tot : List PI → Nat
  | [] => 0
  | h :: r => h.b.toNat + tot r
theorem tot_takn {h : PI} {r : List PI} (hb : 1 ≤ h.b) : tot (takn (h :: r)).2 < tot (h :: r) := by
  unfold takn
  dsimp only
  split
  · show tot r < h.b.toNat + tot r; omega
  · show (h.b - 1).toNat + tot r < h.b.toNat + tot r; omega
theorem can_zero : ∀ (n : Nat) {l : List PI}, tot l ≤ n → Can l → (∀ i, sgn l i = 0) → l = [] := by
  intro n
  induction n with
  | zero =>
    intro l hn c hz
    cases l with
    | nil => rfl
    | cons h r =>
      have hb := c.tl.1
      have : h.b.toNat + tot r ≤ 0 := hn
      omega
  | succ n ih =>
    intro l hn c hz
    cases l with
    | nil => rfl
    | cons h r =>
      have ht := tot_takn (r := r) c.tl.1
      have e1 := ih (l := (takn (h :: r)).2) (by omega) (takn_can c) (fun i => hz (i + 1))
      have e2 : (takn (h :: r)).1 = 0 := hz 0
      have e3 := takn_laid c
      rw [e1, e2] at e3
      rw [← e3]
      exact laid_same (.inr ⟨rfl, rfl⟩)
/-- the runs of what stands at 0, 1, .. from here on -/
def bld (f : Nat → Int) : Nat → List PI
  | 0 => []
  | n + 1 => laid (bld (fun i => f (i + 1)) n) (f 0) 1
theorem bld_can : ∀ (n : Nat) (f : Nat → Int), Can (bld f n)
  | 0, _ => trivial
  | n + 1, f => laid_can (bld_can n _) (by decide)
theorem bld_len : ∀ (n : Nat) (f : Nat → Int), (bld f n).length ≤ n
  | 0, _ => Nat.le_refl _
  | n + 1, f => by
    have := bld_len n (fun i => f (i + 1))
    have := @laid_len (bld (fun i => f (i + 1)) n) (f 0) 1
    show (laid _ _ _).length ≤ _
    omega
theorem bld_eq : ∀ (n : Nat) {f : Nat → Int} {l : List PI}, Can l → (∀ i, f i = sgn l i) → (∀ i, n ≤ i → f i = 0) → bld f n = l := by
  intro n
  induction n with
  | zero =>
    intro f l c h z
    exact (can_zero (tot l) (Nat.le_refl _) c fun i => by rw [← h i]; exact z i (Nat.zero_le _)).symm
  | succ n ih =>
    intro f l c h z
    have e := ih (f := fun i => f (i + 1)) (takn_can c) (fun i => h (i + 1)) (fun i hi => z (i + 1) (by omega))
    show laid (bld (fun i => f (i + 1)) n) (f 0) 1 = l
    rw [e, h 0]
    exact takn_laid c
theorem bld_congr : ∀ (n : Nat) {f g : Nat → Int}, (∀ i, i < n → f i = g i) → bld f n = bld g n
  | 0, _, _, _ => rfl
  | n + 1, f, g, h => by
    show laid _ _ _ = laid _ _ _
    rw [bld_congr n (f := fun i => f (i + 1)) (g := fun i => g (i + 1)) (fun i hi => h (i + 1) (by omega)), h 0 (by omega)]
/-! ### many strides -/
theorem step_can {k : Sk} {b : Bool} {p t : Int} {R S : Nat} (ok : OkK R S k) (cl : Can k.l) (cr : Can k.r) : Can (stepS k b p t).l ∧ Can (stepS k b p t).r := by
  have fp := far_pos ok b t
  have ca : Can (k.ah b) := by cases b <;> assumption
  have cb : Can (k.bh b) := by cases b <;> assumption
  have co : Can (ahOf k b t) := by
    unfold ahOf
    split
    · cases e : k.ah b with
      | nil => exact trivial
      | cons h r => rw [e] at ca; exact ca.tl.2
    · exact ca
  cases b
  · exact ⟨takn_can co, laid_can cb fp⟩
  · exact ⟨laid_can cb fp, takn_can co⟩
structure Stands (M : Mach) (R S : Nat) (k : Sk) (c : Cfg) : Prop where
  rep : Rep k c
  ok : OkK R S k
  st : stepsC M k.st.toNat = some c
  s0 : 0 ≤ k.st
  cl : Can k.l
  cr : Can k.r
def Fin75 (M : Mach) (z : TStr × Sk) : Prop := (z.1 = tEnd ∧ entAt M z.2.row z.2.s = .emp) ∨ (z.1 = tNev ∧ ∃ p w, entAt M z.2.row z.2.s = .go p w z.2.row ∧ z.2.s = 0 ∧ z.2.ah (decide (w = 1)) = []) ∨ z.1 = tOnn
theorem strd_sim {M : Mach} {R S : Nat} (hM : MOk M R S) : ∀ (n : Nat) {k : Sk} {c : Cfg}, Stands M R S k c → ∃ c', Stands M R S (strd M n k).2 c' ∧ Fin75 M (strd M n k) := by
  intro n
  induction n with
  | zero => exact fun {k c} h => ⟨c, h, .inr (.inr rfl)⟩
  | succ n ih =>
    intro k c h
    obtain ⟨_, _, _, eo⟩ := ent_of hM h.ok.r0 h.ok.r1 h.ok.s0 h.ok.s1
    unfold strd
    cases ee : entAt M k.row k.s with
    | emp => exact ⟨c, h, .inl ⟨rfl, ee⟩⟩
    | go p w t =>
      dsimp only
      rw [ee] at eo
      obtain ⟨⟨p0, p1⟩, wo, t0, t1⟩ := eo.ok _ _ _ rfl
      by_cases nv : nevr k (decide (w = 1)) t = true
      · rw [if_pos nv]
        unfold nevr at nv
        rw [Bool.and_eq_true, Bool.and_eq_true] at nv
        have e1 : t = k.row := of_decide_eq_true nv.1
        exact ⟨c, h, .inr (.inl ⟨rfl, p, w, by rw [← e1] at ee ⊢; exact ee, of_decide_eq_true nv.2.1, of_decide_eq_true nv.2.2⟩)⟩
      · rw [if_neg nv]
        by_cases n0 : n = 0
        · rw [if_pos n0]
          exact ih h
        · rw [if_neg n0]
          have S1 : 1 ≤ S := by have := hM.s2; omega
          obtain ⟨c1, e1, h1⟩ := sim hM h.rep h.ok h.st ee
          have fp := far_pos h.ok (decide (w = 1)) t
          have s0 := h.s0
          obtain ⟨x1, x2⟩ := step_can (b := decide (w = 1)) (p := p) (t := t) h.ok h.cl h.cr
          refine ih (c := c1) ⟨h1, h.ok.step _ S1 p0 p1 t0 t1, ?_, by show 0 ≤ k.st + _; omega, x1, x2⟩
          show stepsC M (k.st + farOf k (decide (w = 1)) t).toNat = _
          rw [show (k.st + farOf k (decide (w = 1)) t).toNat = k.st.toNat + (farOf k (decide (w = 1)) t).toNat by omega]
          exact e1
theorem never_on {M : Mach} {R S : Nat} {p w : Int} (hM : MOk M R S) : ∀ (i : Nat) {k : Sk} {c : Cfg} {j : Nat}, Rep k c → (0 ≤ k.row ∧ k.row < R ∧ 0 ≤ k.s ∧ k.s < S) → Pos k.l → Pos k.r → stepsC M j = some c → entAt M k.row k.s = .go p w k.row → k.s = 0 → k.ah (decide (w = 1)) = [] → ∃ c', stepsC M (j + i) = some c' := by
  intro i
  induction i with
  | zero => exact fun {k c j} _ _ _ _ e _ _ _ => ⟨c, e⟩
  | succ i ih =>
    intro k c j h ok hl hr e he hs ha
    obtain ⟨c1, e1, h1⟩ := sim1 hM h ok hl hr e he
    obtain ⟨l1, r1⟩ := step1_pos (b := decide (w = 1)) (p := p) (t := k.row) hl hr
    have es : (step1 k (decide (w = 1)) p k.row).s = 0 := by
      show (takn _).1 = _
      rw [ha]; rfl
    have es' : (step1 k (decide (w = 1)) p k.row).s = k.s := es.trans hs.symm
    obtain ⟨c2, e2⟩ := ih h1 (by rw [es']; exact ok) l1 r1 e1 (by rw [es']; exact he) es (by rw [step1_ah, ha]; rfl)
    exact ⟨c2, by rw [show j + (i + 1) = j + 1 + i by omega]; exact e2⟩
theorem stepsC_pre {M : Mach} : ∀ {a b : Nat} {c : Cfg}, stepsC M (a + b) = some c → ∃ c', stepsC M a = some c'
  | _, 0, c, h => ⟨c, h⟩
  | a, b + 1, c, h => by
    obtain ⟨c1, e1, _⟩ := stepsC_back (k := a + b) h
    exact stepsC_pre e1
/-- it goes on behind n steps -/
theorem on_of {M : Mach} {n k : Nat} {c c' : Cfg} (go : Gone M n k c) (e : stepsC M (n + 1) = some c') : entOf M c ≠ .emp := by
  intro z
  obtain ⟨c1, e1, e2⟩ := stepsC_back e
  have g1 : Gone M n n c1 := ⟨Nat.le_refl _, e1, .inr rfl⟩
  obtain ⟨rfl, rfl⟩ := go.uniq g1
  rw [stepC_none.mpr z] at e2
  cases e2
/-! ### the runs of a strip -/
def sp_runs_of : Sp := fun vs H Q _ => ∃ (F : Hp) (v : V) (L : List PI) (s : Int), vs = [v, .int s] ∧ Same F H ∧ Is F v L ∧ Nd L ∧ L.length ≤ 5000 ∧ (∀ x, L[0]? = some x → ∀ q ∈ L, x.a ≤ q.a) ∧ (∀ x, L[L.length - 1]? = some x → ∀ q ∈ L, q.a ≤ x.a) ∧
  (∀ q ∈ L, s - 2000 ≤ q.a ∧ q.a ≤ s + 2000) ∧ -100000 ≤ s ∧ s ≤ 100000 ∧
  ∀ (F' H' : Hp) (u : V) (nl nr : Nat), Gr mu0 F H F' H' → (∀ i : Nat, nl ≤ i → gz L (s - 1 - i) = 0) → (∀ i : Nat, nr ≤ i → gz L (s + 1 + i) = 0) → Is F' u (⟨(bld (fun i => gz L (s - 1 - (i : Int))) nl).reverse, gz L s, bld (fun i => gz L (s + 1 + (i : Int))) nr⟩ : Rs) → Q u H'
theorem gz_out {L : List PI} {x : Int} (h : ∀ q ∈ L, q.a ≠ x) : gz L x = 0 := by
  unfold gz
  cases e : look L x with
  | none => rfl
  | some v => exact absurd rfl (h _ (mem_look e))
theorem ok_runs_of (t : Tx K mg) : FnOk P w K mg base CX0 2 t.a_runs_of t.fd_runs_of ["strip", "place"] sp_runs_of := by
  refine t.F_runs_of.ok sc_runs_of (fun vs H Q E h => ?_) (fun cdv A outer s H vs Q E hr h => ?_)
  · obtain ⟨F, v, L, s, rfl, _⟩ := h
    rfl
  · obtain ⟨F, v, L, s, rfl, sF, hv, hN, hl5, hlo, hhi, hb, sb0, sb1, q⟩ := h
    refine ⟨_, (pss_cons (ps_set (i := 2) sc_runs_of.nd rfl (by first | exact Or.inl rfl | exact Or.inr rfl) (pe_callTy (T := "dict") (call_dictQ rfl) (by rfl) t.n_dict (by decide +kernel) (pa_cons (pv 0) pa_nil)))
      (pss_cons (ps_set (i := 3) sc_runs_of.nd rfl (by first | exact Or.inl rfl | exact Or.inr rfl) (pe_lst pa_nil))
      (pss_cons (ps_set (i := 4) sc_runs_of.nd rfl (by first | exact Or.inl rfl | exact Or.inr rfl) (pe_lst pa_nil))
      (pss_cons (ps_if (pt_cmpR (op_neD hr.units) (pv 0) (pe_lst pa_nil) (nomark _)) (pss_cons (ps_for PassesOwn.never rfl (pi_range2 (by rfl) t.n_range (pa_cons (pe_ix ix_tup (pe_ix ix_list (pv 0) pe_int (fun _ _ => rfl)) pe_int (fun _ _ => rfl)) (pa_cons (pv 1) pa_nil))) (pg_name (i := 5) sc_runs_of.nd rfl (by first | exact Or.inl rfl | exact Or.inr rfl)) (pss_one (ps_expr (pe_call (ok_put_run t) (hr.mono (by decide)) (by rfl) t.m_put_run t.F_put_run.kp t.b_put_run .nil pass0 (pa_cons (pv 3) (pa_cons (pe_dget2 (hu_of hr) (pv 2) (pv 5) pe_int ⟨by rfl, by rfl, by rfl, by rfl⟩) (pa_cons pe_int pa_nil)))))))
      (pss_one (ps_for PassesOwn.never rfl (pi_range3 (by rfl) t.n_range (pa_cons (pe_ix ix_tup (pe_ix ix_list (pv 0) (pe_un un_neg pe_int) (fun _ _ => rfl)) pe_int (fun _ _ => rfl)) (pa_cons (pv 1) (pa_cons (pe_un un_neg pe_int) pa_nil)))) (pg_name (i := 5) sc_runs_of.nd rfl (by first | exact Or.inl rfl | exact Or.inr rfl)) (pss_one (ps_expr (pe_call (ok_put_run t) (hr.mono (by decide)) (by rfl) t.m_put_run t.F_put_run.kp t.b_put_run .nil pass0 (pa_cons (pv 4) (pa_cons (pe_dget2 (hu_of hr) (pv 2) (pv 5) pe_int ⟨by rfl, by rfl, by rfl, by rfl⟩) (pa_cons pe_int pa_nil))))))))) pss_nil)
      (pss_one (ps_ret (pe_tup (pa_cons (pv 3) (pa_cons (pe_dget2 (hu_of hr) (pv 2) (pv 1) pe_int ⟨by rfl, by rfl, by rfl, by rfl⟩) (pa_cons (pe_revL (pv 4)) pa_nil)))))))))), ?_⟩
    obtain ⟨a, xs, rfl, ha, hxs⟩ := hv
    have g0 : Gr mu0 F H F H := Gr.refl sF
    refine ⟨_, rfl, ?_⟩
    refine dict_pairs (IsAll.up hxs sF) (SqL.of (sF _ _ ha)) fun d nd => ?_
    rw [merge_nd (l := []) (m := L) hN, List.nil_append]
    have g1 := g0.new (o := .dK (dI L)) nd
    have fd1 : (upd F d (.dK (dI L))) d = some (.dK (dI L)) := upd_same
    have ha1 := g1.ff _ _ ha
    have hx1 := IsAll.up hxs g1.ff
    generalize upd F d (.dK (dI L)) = F0 at g1 fd1 ha1 hx1
    generalize upd H d (.dK (dI L)) = H0 at g1 ⊢
    refine ⟨nil_le, fun lf nl0 => ?_⟩
    have g2 := g1.own (o := .lst []) nl0
    have nlf : H lf = none := g1.th _ nl0
    have la2 : LsAt F0 (upd H0 lf (.lst [])) lf [] := ⟨⟨[], upd_same, All2.nil⟩, g1.free nl0⟩
    generalize upd H0 lf (.lst []) = H2 at g2 la2 ⊢
    refine ⟨nil_le, fun rt nr0 => ?_⟩
    have g3 := g2.own (o := .lst []) nr0
    have nrt : H rt = none := g2.th _ nr0
    have lr : lf ≠ rt := by
      obtain ⟨⟨ys, h, _⟩, _⟩ := la2
      exact ne_of_none h nr0
    have la3 : LsAt F0 (upd H2 rt (.lst [])) lf [] := la2.gr ((Gr.refl (mu := mu0) g2.fh).own nr0) fun z => z
    have ra3 : LsAt F0 (upd H2 rt (.lst [])) rt [] := ⟨⟨[], upd_same, All2.nil⟩, g2.free nr0⟩
    generalize upd H2 rt (.lst []) = H3 at g3 la3 ra3 ⊢
    have mL : ∀ c, muP lf c → mu0 c ∨ H c = none := fun c z => .inr (by rw [show c = lf from z]; exact nlf)
    have mR : ∀ c, muP rt c → mu0 c ∨ H c = none := fun c z => .inr (by rw [show c = rt from z]; exact nrt)
    refine ⟨_, rfl, nil_le, fun e1 ne1 => ?_⟩
    have g4 := g3.own (o := .lst []) ne1
    have k4 := (Gr.refl (mu := mu0) g3.fh).own (o := .lst []) ne1
    have la4 := la3.gr k4 fun z => z
    have ra4 := ra3.gr k4 fun z => z
    refine ne_dat (a := L) (b := ([] : List PI)) ⟨a, xs, rfl, g4.fh _ _ ha1, IsAll.up hx1 g4.fh⟩ (is_nil upd_same) ⟨_, rfl, ?_⟩
    generalize upd H3 e1 (.lst []) = H4 at g4 la4 ra4 ⊢
    cases L with
    | nil =>
      refine ifF (by simp) ?_
      have g := g4
      have fd := fd1
      have la := la4
      have ra := ra4
      have hzl : ∀ i : Nat, 0 ≤ i → gz ([] : List PI) (s - 1 - i) = 0 := fun i _ => rfl
      have hzr : ∀ i : Nat, 0 ≤ i → gz ([] : List PI) (s + 1 + i) = 0 := fun i _ => rfl
      generalize eL : ([] : List PI) = L at fd hzl hzr q ⊢
      have la : LsAt F0 H4 lf (bld (fun i => gz L (s - 1 - (i : Int))) 0) := la
      have ra : LsAt F0 H4 rt (bld (fun i => gz L (s + 1 + (i : Int))) 0) := ra
      have hdG := g.fh _ _ fd
      refine ⟨_, rfl, _, rfl, d, rfl, .inl ⟨_, .inl hdG⟩, _, rfl, _, DGet.k (k := Sum.inl s) hdG, ?_⟩
      rw [dI_val, getD_int]
      obtain ⟨⟨ys, hl, il⟩, fl⟩ := la
      obtain ⟨⟨zs, hr', ir⟩, fr⟩ := ra
      refine ⟨_, rfl, rt, zs, rfl, SqL.of hr', fun b nb => ⟨three_le, fun u nu => ?_⟩⟩
      have g2 := g.frz hl nlf fl
      have s2 : Same F0 (upd F0 lf (.lst ys)) := sm_new (Same.refl F0) fl
      have g3 := g2.new (o := .lst zs.reverse) nb
      have s3 : Same (upd F0 lf (.lst ys)) (upd (upd F0 lf (.lst ys)) b (.lst zs.reverse)) := sm_new (Same.refl _) (g2.fh.free nb)
      have g4 := g3.new (o := .tup [.ref lf, .int (gz L s), .ref b]) nu
      have s4 := sm_new (o := .tup [.ref lf, .int (gz L s), .ref b]) (Same.refl (upd (upd F0 lf (.lst ys)) b (.lst zs.reverse))) (g3.fh.free nu)
      have iz := (IsAll.up (IsAll.up ir s2) s3).rev
      rw [List.reverse_reverse] at iz
      refine q _ _ (.ref u) _ _ g4 hzl hzr ⟨u, _, _, _, rfl, upd_same, ⟨lf, ys, rfl, s4 _ _ (s3 _ _ upd_same), IsAll.up (IsAll.up (IsAll.up il s2) s3) s4⟩, rfl, ⟨b, _, rfl, s4 _ _ upd_same, IsAll.up iz s4⟩⟩
    | cons x r =>
      refine ifT (by rw [decide_eq_false (by simp)]; rfl) ?_
      generalize eL : x :: r = L at *
      have hx0 : L[0]? = some x := by rw [← eL]; rfl
      have hlast : ∃ y, L[L.length - 1]? = some y := by
        have : L.length - 1 < L.length := by rw [← eL]; simp
        exact ⟨_, List.getElem?_eq_getElem this⟩
      obtain ⟨y, hy0⟩ := hlast
      have hlx := hlo x hx0
      have hly := hhi y hy0
      have bx := hb x (List.mem_of_getElem? hx0)
      have by' := hb y (List.mem_of_getElem? hy0)
      obtain ⟨vx, hvx, px, x1, x2, rfl, hpx, ex1, ex2⟩ := hx1.get hx0
      obtain ⟨vy, hvy, py, y1, y2, rfl, hpy, ey1, ey2⟩ := hx1.get hy0
      have ex1 : x1 = .int x.a := ex1
      have ey1 : y1 = .int y.a := ey1
      subst ex1
      subst ey1
      have lxs : xs.length = L.length - 1 + 1 := by
        have := hx1.1
        have : 0 < L.length := by rw [← eL]; simp
        omega
      refine ⟨_, rfl, a, xs, _, _, rfl, rfl, SqL.of (g4.fh _ _ ha1), atI_nat (j := 0) hvx, px, _, _, _, rfl, rfl, SqT.of (g4.fh _ _ hpx), atI_nat (j := 0) rfl, _, rfl, x.a, s, rfl, ⟨by omega, by omega, by omega, by omega⟩, for_range (lo := x.a) (n := (s - x.a).toNat) (fun i σ G => ∃ (F1 : Hp) (v5 : Option V), σ = [some (.ref a), some (.int s), some (.ref d), some (.ref lf), some (.ref rt), v5] ∧
        Gr mu0 F H F1 G ∧ Same F0 F1 ∧ LsAt F1 G lf (bld (fun j => gz L (x.a + (i : Int) - 1 - (j : Int))) i) ∧ LsAt F1 G rt [])
        ⟨F0, none, rfl, g4, Same.refl F0, la4, ra4⟩ ?_ ?_⟩
      · rintro i σ G hi ⟨F1, v5, rfl, g, s1, la, ra⟩
        have hdG := g.fh _ _ (s1 _ _ fd1)
        refine ⟨_, rfl, _, rfl, d, rfl, .inl ⟨_, .inl hdG⟩, _, rfl, _, DGet.k (k := Sum.inl (x.a + (i : Int))) hdG, ?_⟩
        rw [dI_val, getD_int]
        have bl := bld_len i (fun j => gz L (x.a + (i : Int) - 1 - (j : Int)))
        refine ⟨F1, lf, _, gz L (x.a + i), 1, rfl, g.fh, la, by omega, fun F2 H2 g2 l2 => ?_⟩
        refine ⟨F2, _, rfl, g.thn g2 mL, s1.trans g2.ff, ?_, ra.gr g2 fun z => lr (show rt = lf from z).symm⟩
        have e : bld (fun j => gz L (x.a + ((i + 1 : Nat) : Int) - 1 - (j : Int))) (i + 1) = laid (bld (fun j => gz L (x.a + (i : Int) - 1 - (j : Int))) i) (gz L (x.a + i)) 1 := by
          show laid (bld (fun j => gz L (x.a + ((i + 1 : Nat) : Int) - 1 - ((j + 1 : Nat) : Int))) i) (gz L (x.a + ((i + 1 : Nat) : Int) - 1 - ((0 : Nat) : Int))) 1 = _
          rw [show x.a + ((i + 1 : Nat) : Int) - 1 - ((0 : Nat) : Int) = x.a + i by omega, bld_congr i (g := fun j => gz L (x.a + (i : Int) - 1 - (j : Int))) fun j _ => by
            show gz L _ = gz L _
            congr 1; omega]
        rw [e]; exact l2
      · rintro σ G ⟨F1, v5, rfl, g, s1, la, ra⟩
        have la : LsAt F1 G lf (bld (fun j => gz L (s - 1 - (j : Int))) (s - x.a).toNat) := by
          by_cases c : s ≤ x.a
          · rw [show (s - x.a).toNat = 0 by omega] at la ⊢
            exact la
          · rw [show x.a + ((s - x.a).toNat : Int) = s by omega] at la
            exact la
        have hzl : ∀ i : Nat, (s - x.a).toNat ≤ i → gz L (s - 1 - i) = 0 := fun i hi => gz_out fun q m => by
          have := hlx q m
          omega
        refine ⟨_, rfl, _, rfl, a, xs, _, _, rfl, rfl, SqL.of (g.fh _ _ (s1 _ _ ha1)), at_end lxs hvy, py, _, _, _, rfl, rfl, SqT.of (g.fh _ _ (s1 _ _ hpy)), atI_nat (j := 0) rfl, _, rfl, _, rfl, y.a, s, -1, (y.a - s).toNat, rfl, RgC.neg (by omega) (by omega) (by omega) (by omega), for_rangeC (lo := y.a) (c := -1) (n := (y.a - s).toNat) (fun i σ G => ∃ (F2 : Hp) (v5 : Option V), σ = [some (.ref a), some (.int s), some (.ref d), some (.ref lf), some (.ref rt), v5] ∧
          Gr mu0 F H F2 G ∧ Same F0 F2 ∧ LsAt F2 G lf (bld (fun j => gz L (s - 1 - (j : Int))) (s - x.a).toNat) ∧ LsAt F2 G rt (bld (fun j => gz L (y.a - (i : Int) + 1 + (j : Int))) i))
          ⟨F1, v5, rfl, g, s1, la, ra⟩ ?_ ?_⟩
        · rintro i σ G hi ⟨F2, v5, rfl, g, s1, la, ra⟩
          have hdG := g.fh _ _ (s1 _ _ fd1)
          refine ⟨_, rfl, _, rfl, d, rfl, .inl ⟨_, .inl hdG⟩, _, rfl, _, DGet.k (k := Sum.inl (y.a + (i : Int) * -1)) hdG, ?_⟩
          rw [dI_val, getD_int]
          have bl := bld_len i (fun j => gz L (y.a - (i : Int) + 1 + (j : Int)))
          refine ⟨F2, rt, _, gz L (y.a + (i : Int) * -1), 1, rfl, g.fh, ra, by omega, fun F3 H3 g3 l3 => ?_⟩
          refine ⟨F3, _, rfl, g.thn g3 mR, s1.trans g3.ff, la.gr g3 fun z => lr (show lf = rt from z), ?_⟩
          have e : bld (fun j => gz L (y.a - ((i + 1 : Nat) : Int) + 1 + (j : Int))) (i + 1) = laid (bld (fun j => gz L (y.a - (i : Int) + 1 + (j : Int))) i) (gz L (y.a + (i : Int) * -1)) 1 := by
            show laid (bld (fun j => gz L (y.a - ((i + 1 : Nat) : Int) + 1 + ((j + 1 : Nat) : Int))) i) (gz L (y.a - ((i + 1 : Nat) : Int) + 1 + ((0 : Nat) : Int))) 1 = _
            rw [show y.a - ((i + 1 : Nat) : Int) + 1 + ((0 : Nat) : Int) = y.a + (i : Int) * -1 by omega, bld_congr i (g := fun j => gz L (y.a - (i : Int) + 1 + (j : Int))) fun j _ => by
              show gz L _ = gz L _
              congr 1; omega]
          rw [e]; exact l3
        · rintro σ G ⟨F2, v5, rfl, g, s1, la, ra⟩
          have ra : LsAt F2 G rt (bld (fun j => gz L (s + 1 + (j : Int))) (y.a - s).toNat) := by
            by_cases c : y.a ≤ s
            · rw [show (y.a - s).toNat = 0 by omega] at ra ⊢
              exact ra
            · rw [show y.a - ((y.a - s).toNat : Int) + 1 = s + 1 by omega] at ra
              exact ra
          have hzr : ∀ i : Nat, (y.a - s).toNat ≤ i → gz L (s + 1 + i) = 0 := fun i hi => gz_out fun q m => by
            have := hly q m
            omega
          have fd := s1 _ _ fd1
          have hdG := g.fh _ _ fd
          refine ⟨_, rfl, _, rfl, d, rfl, .inl ⟨_, .inl hdG⟩, _, rfl, _, DGet.k (k := Sum.inl s) hdG, ?_⟩
          rw [dI_val, getD_int]
          obtain ⟨⟨ys, hl, il⟩, fl⟩ := la
          obtain ⟨⟨zs, hr', ir⟩, fr⟩ := ra
          refine ⟨_, rfl, rt, zs, rfl, SqL.of hr', fun b nb => ⟨three_le, fun u nu => ?_⟩⟩
          have g2 := g.frz hl nlf fl
          have s2 : Same F2 (upd F2 lf (.lst ys)) := sm_new (Same.refl F2) fl
          have g3 := g2.new (o := .lst zs.reverse) nb
          have s3 : Same (upd F2 lf (.lst ys)) (upd (upd F2 lf (.lst ys)) b (.lst zs.reverse)) := sm_new (Same.refl _) (g2.fh.free nb)
          have g4 := g3.new (o := .tup [.ref lf, .int (gz L s), .ref b]) nu
          have s4 := sm_new (o := .tup [.ref lf, .int (gz L s), .ref b]) (Same.refl (upd (upd F2 lf (.lst ys)) b (.lst zs.reverse))) (g3.fh.free nu)
          have iz := (IsAll.up (IsAll.up ir s2) s3).rev
          rw [List.reverse_reverse] at iz
          refine q _ _ (.ref u) _ _ g4 hzl hzr ⟨u, _, _, _, rfl, upd_same, ⟨lf, ys, rfl, s4 _ _ (s3 _ _ upd_same), IsAll.up (IsAll.up (IsAll.up il s2) s3) s4⟩, rfl, ⟨b, _, rfl, s4 _ _ upd_same, IsAll.up iz s4⟩⟩
theorem ZRel.filt {l : List PI} (h : Nd l) : ZRel l (l.filter nz) := by
  refine ⟨h, List.Sublist.nodup (List.Sublist.map _ List.filter_sublist) h, fun q m => of_decide_eq_true (List.mem_filter.mp m).2, fun x => ?_⟩
  have hf : Nd (l.filter nz) := List.Sublist.nodup (List.Sublist.map _ List.filter_sublist) h
  cases e : look (l.filter nz) x with
  | some v =>
    have m := (List.mem_filter.mp (mem_look e)).1
    rw [show look l x = some v from look_mem h m]
  | none =>
    cases f : look l x with
    | none => rfl
    | some v =>
      by_cases z : v = 0
      · rw [z]; rfl
      · have m : (⟨x, v⟩ : PI) ∈ l.filter nz := List.mem_filter.mpr ⟨mem_look f, decide_eq_true z⟩
        rw [show look (l.filter nz) x = some v from look_mem hf m] at e
        cases e
/-! ### strides told, and runs -/
theorem look_perm {l m : List PI} (h : Nd l) (p : l.Perm m) (x : Int) : look l x = look m x := by
  have hm : Nd m := (p.map (fun q : PI => q.a)).nodup_iff.mp h
  cases e : look m x with
  | some v => exact look_mem h (p.mem_iff.mpr (mem_look e))
  | none =>
    cases f : look l x with
    | none => rfl
    | some v =>
      have : look m x = some v := look_mem hm (p.mem_iff.mp (mem_look f))
      rw [e] at this; cases this
theorem gz_told {l : List PI} (h : Nd l) (x : Int) : gz (told l) x = gz l x := by
  have hf : Nd (l.filter nz) := List.Sublist.nodup (List.Sublist.map _ List.filter_sublist) h
  unfold gz
  rw [(ZRel.filt h).lk x]
  unfold told
  rw [look_perm (nd_srt hf) (srt_perm _) x]
theorem told_nd {l : List PI} (h : Nd l) : Nd (told l) := nd_srt (List.Sublist.nodup (List.Sublist.map _ List.filter_sublist) h)
theorem told_len {l : List PI} : (told l).length ≤ l.length := by
  show (srt _).length ≤ _
  rw [(srt_perm _).length_eq]
  exact List.length_filter_le _ _
theorem told_mem {l : List PI} {q : PI} (m : q ∈ told l) : q ∈ l := (List.mem_filter.mp (mem_srt.mp m)).1
theorem leP_a {p q : PI} (h : LeP p q) : p.a ≤ q.a := by
  rcases leP_iff.mp h with h | h
  · omega
  · omega
theorem told_first {l : List PI} {x : PI} (h : (told l)[0]? = some x) : ∀ q ∈ told l, x.a ≤ q.a := fun q m => by
  have pw : (told l).Pairwise LeP := srt_srt (l.filter nz)
  obtain ⟨i, hi⟩ := List.getElem?_of_mem m
  obtain ⟨li, ei⟩ := List.getElem?_eq_some_iff.mp hi
  obtain ⟨l0, e0⟩ := List.getElem?_eq_some_iff.mp h
  by_cases c : i = 0
  · subst c
    rw [e0] at ei
    rw [ei]; exact Int.le_refl _
  · have := List.pairwise_iff_getElem.mp pw 0 i l0 li (by omega)
    rw [e0, ei] at this
    exact leP_a this
theorem told_last {l : List PI} {x : PI} (h : (told l)[(told l).length - 1]? = some x) : ∀ q ∈ told l, q.a ≤ x.a := fun q m => by
  have pw : (told l).Pairwise LeP := srt_srt (l.filter nz)
  obtain ⟨i, hi⟩ := List.getElem?_of_mem m
  obtain ⟨li, ei⟩ := List.getElem?_eq_some_iff.mp hi
  obtain ⟨l0, e0⟩ := List.getElem?_eq_some_iff.mp h
  by_cases c : i = (told l).length - 1
  · subst c
    rw [e0] at ei
    rw [ei]; exact Int.le_refl _
  · have := List.pairwise_iff_getElem.mp pw i ((told l).length - 1) li l0 (by omega)
    rw [ei, e0] at this
    exact leP_a this
theorem spot_bound {M : Mach} {R S : Nat} (hM : MOk M R S) : ∀ {k : Nat} {c : Cfg}, stepsC M k = some c → (-(k : Int) ≤ c.s ∧ c.s ≤ k) ∧ ∀ q ∈ c.l, -(k : Int) ≤ q.a ∧ q.a ≤ k
  | 0, c, h => by
    cases h
    exact ⟨⟨Int.le_refl _, Int.le_refl _⟩, fun q m => nomatch m⟩
  | k + 1, c, h => by
    obtain ⟨b, hb, e⟩ := stepsC_back h
    obtain ⟨⟨i1, i2⟩, i3⟩ := spot_bound hM hb
    obtain ⟨_, _, _, _, eo⟩ := (stepsC_ok hM hb).1.ent hM
    unfold stepC at e
    split at e
    · cases e
    · rename_i p w r he
      cases e
      obtain ⟨_, wo, _⟩ := eo.ok _ _ _ he
      refine ⟨⟨by show _ ≤ b.s + w; omega, by show b.s + w ≤ _; omega⟩, fun q m => ?_⟩
      rcases mem_put m with m | rfl
      · have := i3 q m
        omega
      · exact ⟨by show _ ≤ b.s; omega, by show b.s ≤ _; omega⟩
theorem sgn_nil : ∀ i, sgn [] i = 0
  | 0 => rfl
  | i + 1 => sgn_nil i
theorem stands0 {M : Mach} {R S : Nat} (hM : MOk M R S) : Stands M R S (k0Of ⟨[], 0, []⟩ 0) c0 := by
  have := hM.r1
  have := hM.s2
  refine ⟨⟨rfl, rfl, fun i => (sgn_nil i).symm, fun i => (sgn_nil i).symm⟩, ⟨OkS.nil, OkS.nil, Int.le_refl _, by show (0 : Int) < S; omega, Int.le_refl _, by show (0 : Int) < R; omega⟩, rfl, Int.le_refl _, trivial, trivial⟩
theorem due_on {M : Mach} {n k : Nat} {c : Cfg} (h : entOf M c ≠ .emp) : dueOf M n k c = ⟨tOn, n, c.r, c.s, told c.l⟩ := by
  unfold dueOf; rw [if_neg h]
theorem due_end {M : Mach} {n k : Nat} {c : Cfg} (h : entOf M c = .emp) : dueOf M n k c = ⟨tEnds, k, c.r, c.s, told c.l⟩ := by
  unfold dueOf; rw [if_pos h]
theorem cut02 : ¬ (HT.sIx 3 0 none = 0 ∧ HT.sIx 3 3 (some 2) = 3) := by decide
def sp_L_so : Sp := fun vs H Q _ => ∃ (F : Hp) (m v : V) (M : Mach) (R S n : Nat), vs = [m, v] ∧ Same F H ∧ Is F m M ∧ MOk M R S ∧ Is F v (resOf (strd M n (k0Of ⟨[], 0, []⟩ 0))) ∧
  ∀ (F' H' : Hp), Gr mu0 F H F' H' → Q (.bl true) H'
theorem ok_L_so (t : Tx K mg) : FnOk P w K mg base CX0 5 t.a_L_so t.fd_L_so ["_law_machine_here", "_law_told"] sp_L_so := by
  refine t.F_L_so.ok sc_L_so (fun vs H Q E h => ?_) (fun cdv A outer s H vs Q E hr h => ?_)
  · obtain ⟨F, m, v, M, R, S, n, rfl, _⟩ := h
    rfl
  · obtain ⟨F, m, v, M, R, S, n, rfl, sF, hm, hM, hv, q⟩ := h
    refine ⟨_, (pss_cons (ps_asg (pv 1) (pg_tup rfl (pgs_cons (pg_name (i := 2) sc_L_so.nd rfl (by first | exact Or.inl rfl | exact Or.inr rfl)) (pgs_cons (pg_name (i := 3) sc_L_so.nd rfl (by first | exact Or.inl rfl | exact Or.inr rfl)) (pgs_cons (pg_name (i := 4) sc_L_so.nd rfl (by first | exact Or.inl rfl | exact Or.inr rfl)) (pgs_cons (pg_name (i := 5) sc_L_so.nd rfl (by first | exact Or.inl rfl | exact Or.inr rfl)) pgs_nil))))))
      (pss_cons (ps_if (pt_cmpR op_gt (pv 3) pe_int (nomark _)) (pss_one (ps_ret (pe_cmpR op_eq (pe_ix ix_tup (pe_call (ok_run t) (hr.mono (by decide)) (by rfl) t.m_run t.F_run.kp t.b_run .nil pass0 (pa_cons (pv 0) (pa_cons pe_int pa_nil))) pe_int (fun _ _ => rfl)) pe_str (nomark _)))) pss_nil)
      (pss_cons (ps_set (i := 6) sc_L_so.nd rfl (by first | exact Or.inl rfl | exact Or.inr rfl) (pe_call (ok_run t) (hr.mono (by decide)) (by rfl) t.m_run t.F_run.kp t.b_run .nil pass0 (pa_cons (pv 0) (pa_cons (pv 3) pa_nil))))
      (pss_cons (ps_if (PW.pt (pw_or (pt_cmpR op_ne (pe_ix ix_tup (pe_ix ix_tup (pv 6) pe_int (fun _ _ => rfl)) pe_int (fun _ _ => rfl)) (pv 4) (nomark _)) (pw_or1 (pt_cmpR (op_neD hr.units) (pe_call (ok_runs_of t) (hr.mono (by decide)) (by rfl) t.m_runs_of t.F_runs_of.kp t.b_runs_of .nil pass0 (pa_cons (pe_ix ix_tup (pe_ix ix_tup (pv 6) pe_int (fun _ _ => rfl)) pe_int (fun _ _ => rfl)) (pa_cons (pe_ix ix_tup (pe_ix ix_tup (pv 6) pe_int (fun _ _ => rfl)) pe_int (fun _ _ => rfl)) pa_nil))) (pv 5) (nomark _))))) (pss_one (ps_ret pe_bl)) pss_nil)
      (pss_cons (ps_if (pt_cmpR op_eq (pv 2) pe_str (nomark _)) (pss_one (ps_ret (pe_cmpR op_eq (pe_ix ix_tup (pe_call (ok_run t) (hr.mono (by decide)) (by rfl) t.m_run t.F_run.kp t.b_run .nil pass0 (pa_cons (pv 0) (pa_cons pe_int pa_nil))) pe_int (fun _ _ => rfl)) pe_str (nomark _)))) pss_nil)
      (pss_one (ps_ret (pe_or (pe_cmpR op_eq (pv 2) pe_str (nomark _)) (pe_one (pe_cmpR (op_eqD hr.units) (pe_slice sl_tupQ (pv 6) po_none (po_some pe_int)) (pe_tup (pa_cons pe_str (pa_cons (pv 3) pa_nil))) (nomark _))))))))))), ?_⟩
    have g0 : Gr mu0 F H F H := Gr.refl sF
    obtain ⟨c, st, fin⟩ := strd_sim hM n (stands0 hM)
    generalize strd M n (k0Of ⟨[], 0, []⟩ 0) = z at hv st fin
    obtain ⟨n1, en1⟩ : ∃ n1 : Nat, z.2.st = (n1 : Int) := ⟨z.2.st.toNat, by have := st.s0; omega⟩
    have est : stepsC M n1 = some c := by
      have := st.st
      rw [en1] at this
      exact this
    obtain ⟨t, x1, x2, x3, x4, rfl, ht, e1, e2, e3, e4⟩ := hv
    have e1 : x1 = .str z.1.x := e1
    have e2 : x2 = .int n1 := by rw [← en1]; exact e2
    have e3 : x3 = .int z.2.row := e3
    subst e1
    subst e2
    subst e3
    -- it goes on behind 1000
    have on1000 : ∀ {F1 H1 : Hp}, Gr mu0 F H F1 H1 → (∃ c', stepsC M 1001 = some c') → sp_run [m, .int 1000] H1 (fun y H2 => ∃ v a b c', y = .ref v ∧ H2 v = some (.tup [a, b, c']) ∧ a = .str tOn.x ∧ ∃ F2, Gr mu0 F H F2 H2) E := by
      rintro F1 H1 g1 ⟨c', hc'⟩
      refine ⟨F1, m, M, R, S, 1000, rfl, g1.fh, hm.up g1.ff, hM, by decide, fun F' H' l u v xs k c g go wl al wu wv => ?_⟩
      refine ⟨v, _, _, _, rfl, wv.h, ?_, F', g1.trans g⟩
      rw [due_on (on_of go hc')]
    refine ⟨_, rfl, t, _, rfl, SqT.of (sF _ _ ht), rfl, _, _, rfl, _, _, rfl, _, _, rfl, _, _, rfl, rfl, ?_⟩
    refine ⟨_, rfl, _, _, rfl, rfl, _, rfl, ?_⟩
    refine ite2 (fun cc => ?_) (fun cc => ?_)
    · have cc := of_decide_eq_true cc
      have h1001 : ∃ c', stepsC M 1001 = some c' := by
        have := est
        rw [show n1 = 1001 + (n1 - 1001) by omega] at this
        exact stepsC_pre this
      obtain ⟨F1, m1, M1, R1, S1, n1', e, a1, a2, a3, a4, a5⟩ := on1000 g0 h1001
      refine ⟨_, rfl, F1, m1, M1, R1, S1, n1', e, a1, a2, a3, a4, fun F' H' l u v xs k c g go wl al wu wv => ?_⟩
      obtain ⟨v', a, b, c', ev, hv', ea, F2, g2⟩ := a5 F' H' l u v xs k c g go wl al wu wv
      cases ev
      subst ea
      exact ⟨v, _, _, _, rfl, rfl, SqT.of hv', atI_nat (j := 0) rfl, rfl, q F2 _ g2⟩
    · have cc : ¬ (1000 : Int) < n1 := fun z => cc (decide_eq_true z)
      have n1000 : n1 ≤ 1000 := by omega
      refine ⟨_, rfl, _, rfl, F, m, M, R, S, n1, rfl, sF, hm, hM, by omega, fun F1 H1 l u v xs k c1 g1 go wl al wu wv => ?_⟩
      obtain ⟨rfl, rfl⟩ := go.uniq ⟨Nat.le_refl _, est, .inr rfl⟩
      obtain ⟨ok, ll⟩ := stepsC_ok hM est
      obtain ⟨⟨b1, b2⟩, b3⟩ := spot_bound hM est
      -- found[2][0] != row
      refine ⟨_, rfl, v, _, _, _, rfl, rfl, SqT.of wv.h, atI_nat (j := 2) rfl, u, _, _, _, rfl, rfl, SqT.of wu.h, atI_nat (j := 0) rfl, _, rfl, rfl, _, rfl, ifF (by rw [st.rep.row]; simp) ?_⟩
      -- runs_of
      refine ⟨_, rfl, v, _, _, _, rfl, rfl, SqT.of wv.h, atI_nat (j := 2) rfl, u, _, _, _, rfl, rfl, SqT.of wu.h, atI_nat (j := 2) rfl, ?_⟩
      refine ⟨_, rfl, v, _, _, _, rfl, rfl, SqT.of wv.h, atI_nat (j := 2) rfl, u, _, _, _, rfl, rfl, SqT.of wu.h, atI_nat (j := 1) rfl, ?_⟩
      have g2 := g1.frz wl.h wl.n wl.f
      have s2 : Same F1 (upd F1 l (.lst xs)) := sm_new (Same.refl F1) wl.f
      have il : Is (upd F1 l (.lst xs)) (.ref l) (told c1.l) := ⟨l, xs, rfl, upd_same, IsAll.up al s2⟩
      generalize upd F1 l (.lst xs) = F2 at g2 s2 il
      refine ⟨F2, .ref l, told c1.l, c1.s, rfl, g2.fh, il, told_nd ok.nd, by have := @told_len c1.l; omega, fun x h => told_first h, fun x h => told_last h, fun q m => by have := b3 q (told_mem m); omega, by omega, by omega, fun F3 H3 w nl nr g3 hzl hzr iw => ?_⟩
      have e5 : bld (fun i => gz (told c1.l) (c1.s - 1 - (i : Int))) nl = z.2.l := bld_eq nl st.cl (fun i => (gz_told ok.nd _).trans (st.rep.lf i)) hzl
      have e6 : bld (fun i => gz (told c1.l) (c1.s + 1 + (i : Int))) nr = z.2.r := bld_eq nr st.cr (fun i => (gz_told ok.nd _).trans (st.rep.rt i)) hzr
      rw [e5, e6, gz_told ok.nd, st.rep.s] at iw
      have g23 := g2.trans g3
      refine ⟨_, rfl, ne_dat (a := (⟨z.2.l.reverse, z.2.s, z.2.r⟩ : Rs)) (b := (⟨z.2.l.reverse, z.2.s, z.2.r⟩ : Rs)) (iw.up g3.fh) ((e4.up g23.ff).up g3.fh) ⟨_, rfl, ifF (by rw [decide_eq_true rfl]; rfl) ?_⟩⟩
      have wv3 := (g3.fr _ _ wv.h fun z => z)
      rcases fin with ⟨f1, f2⟩ | ⟨f1, p, w', f2, f3, f4⟩ | f1
      · rw [f1]
        refine ⟨_, rfl, rfl, _, rfl, ifF (by decide +kernel) ?_⟩
        refine ⟨_, rfl, rfl, _, rfl, ifF (by decide +kernel) ?_⟩
        have de := due_end (n := k) (k := k) (show entOf M c1 = .emp by rw [st.rep.ent]; exact f2)
        rw [de] at wv3
        refine ⟨_, rfl, _, rfl, slA_cut (SqT.of wv3) cut02 fun p1 np1 => ⟨_, rfl, two_le, fun p2 np2 => ?_⟩⟩
        have g4 := (g23.own (o := .tup [.str tEnds.x, .int k]) np1).own (o := .tup [.str tEnds.x, .int k]) np2
        refine eq_dat (a := (⟨tEnds, (k : Int)⟩ : T2 TStr Int)) (b := (⟨tEnds, (k : Int)⟩ : T2 TStr Int)) ⟨p1, _, _, rfl, ln np2 upd_same, rfl, rfl⟩ ⟨p2, _, _, rfl, upd_same, rfl, rfl⟩ ?_
        rw [decide_eq_true rfl]
        exact q _ _ g4
      · rw [f1]
        refine ⟨_, rfl, rfl, _, rfl, ifT (by decide +kernel) ?_⟩
        have h1001 : ∃ c', stepsC M 1001 = some c' := by
          have := never_on hM (1001 - k) st.rep ⟨st.ok.r0, st.ok.r1, st.ok.s0, st.ok.s1⟩ (Pos.of st.ok.l) (Pos.of st.ok.r) est f2 f3 f4
          rw [show k + (1001 - k) = 1001 by omega] at this
          exact this
        obtain ⟨F1', m1, M1, R1, S1, n1', e, a1, a2, a3, a4, a5⟩ := on1000 g23 h1001
        refine ⟨_, rfl, F1', m1, M1, R1, S1, n1', e, a1, a2, a3, a4, fun F' H' l u v xs k c g go wl al wu wv => ?_⟩
        obtain ⟨v', a, b, c', ev, hv', ea, F2, g2⟩ := a5 F' H' l u v xs k c g go wl al wu wv
        cases ev
        subst ea
        exact ⟨v, _, _, _, rfl, rfl, SqT.of hv', atI_nat (j := 0) rfl, rfl, q F2 _ g2⟩
      · rw [f1]
        refine ⟨_, rfl, rfl, _, rfl, ifF (by decide +kernel) ?_⟩
        exact ⟨_, rfl, rfl, _, rfl, ifT (by decide +kernel) (q _ _ g23)⟩
theorem strd_len (M : Mach) : ∀ (n : Nat) {k : Sk} {m : Nat}, LenK k m → LenK (strd M n k).2 (m + n)
  | 0, k, m, h => h
  | n + 1, k, m, h => by
    have h1 : LenK k (m + (n + 1)) := ⟨by have := h.1; omega, by have := h.2; omega⟩
    unfold strd
    split
    · exact h1
    · split
      · exact h1
      · rw [show m + (n + 1) = (m + 1) + n by omega]
        refine strd_len M n ?_
        split
        · exact ⟨by have := h.1; omega, by have := h.2; omega⟩
        · exact h.step _
/-! ### strides in two parts -/
theorem tags : tEnd ≠ tOnn ∧ tNev ≠ tOnn := by decide +kernel
theorem strd_more {M : Mach} (d : Nat) : ∀ (a : Nat) {k : Sk}, (strd M (a + 1) k).1 ≠ tOnn → strd M (a + 1 + d) k = strd M (a + 1) k := by
  intro a
  induction a with
  | zero =>
    intro k h
    rw [show 0 + 1 + d = d + 1 by omega]
    unfold strd at h ⊢
    cases ee : entAt M k.row k.s with
    | emp => rfl
    | go p w t =>
      rw [ee] at h
      dsimp only at h ⊢
      by_cases nv : nevr k (decide (w = 1)) t = true
      · rw [if_pos nv, if_pos nv]
      · rw [if_neg nv] at h
        exact absurd rfl h
  | succ a ih =>
    intro k h
    rw [show a + 1 + 1 + d = (a + 1 + d) + 1 by omega]
    rw [strd] at h
    rw [strd, strd]
    cases ee : entAt M k.row k.s with
    | emp => rfl
    | go p w t =>
      rw [ee] at h
      dsimp only at h ⊢
      by_cases nv : nevr k (decide (w = 1)) t = true
      · rw [if_pos nv, if_pos nv]
      · rw [if_neg nv, if_neg (by omega)] at h
        rw [if_neg nv, if_neg nv, if_neg (by omega), if_neg (by omega)]
        exact ih h
theorem strd_go {M : Mach} {n : Nat} {k : Sk} {p w t : Int} (ee : entAt M k.row k.s = .go p w t) (nv : ¬ nevr k (decide (w = 1)) t = true) (n0 : ¬ n = 0) : strd M (n + 1) k = strd M n (stepS k (decide (w = 1)) p t) := by
  rw [strd, ee]
  dsimp only
  rw [if_neg nv, if_neg n0]
theorem strd_on {M : Mach} (d : Nat) : ∀ (a : Nat) {k : Sk}, (strd M (a + 1) k).1 = tOnn → strd M (a + 1 + d) k = strd M (d + 1) (strd M (a + 1) k).2 := by
  intro a
  induction a with
  | zero =>
    intro k h
    rw [show 0 + 1 + d = d + 1 by omega]
    have e : (strd M (0 + 1) k).2 = k := by
      rw [strd]
      cases ee : entAt M k.row k.s with
      | emp => rfl
      | go p w t =>
        dsimp only
        split
        · rfl
        · rfl
    rw [e]
  | succ a ih =>
    intro k h
    rw [show a + 1 + 1 + d = (a + 1 + d) + 1 by omega]
    have h' := h
    rw [strd] at h'
    cases ee : entAt M k.row k.s with
    | emp =>
      rw [ee] at h'
      exact absurd h' tags.1
    | go p w t =>
      rw [ee] at h'
      dsimp only at h'
      by_cases nv : nevr k (decide (w = 1)) t = true
      · rw [if_pos nv] at h'
        exact absurd h' tags.2
      · rw [if_neg nv, if_neg (by omega)] at h'
        rw [strd_go (n := a + 1 + d) ee nv (by omega), strd_go (n := a + 1) ee nv (by omega)]
        exact ih h'
def addSt (s : Int) (k : Sk) : Sk := ⟨k.l, k.r, k.s, k.row, k.st + s⟩
theorem step_add {s : Int} {k : Sk} {b : Bool} {p t : Int} : stepS (addSt s k) b p t = addSt s (stepS k b p t) := by
  show Sk.mk _ _ _ _ (k.st + s + farOf k b t) = Sk.mk _ _ _ _ (k.st + farOf k b t + s)
  rw [show k.st + s + farOf k b t = k.st + farOf k b t + s by omega]
  rfl
theorem strd_add {M : Mach} {s : Int} : ∀ (n : Nat) {k : Sk}, strd M n (addSt s k) = ((strd M n k).1, addSt s (strd M n k).2)
  | 0, k => rfl
  | n + 1, k => by
    rw [strd, strd]
    show (match entAt M k.row k.s with
      | .emp => (tEnd, addSt s k)
      | .go p w t => if nevr k (decide (w = 1)) t = true then (tNev, addSt s k) else strd M n (if n = 0 then addSt s k else stepS (addSt s k) (decide (w = 1)) p t)) = _
    cases ee : entAt M k.row k.s with
    | emp => rfl
    | go p w t =>
      dsimp only
      by_cases nv : nevr k (decide (w = 1)) t = true
      · rw [if_pos nv, if_pos nv]
      · rw [if_neg nv, if_neg nv]
        by_cases n0 : n = 0
        · rw [if_pos n0, if_pos n0]
          exact strd_add n
        · rw [if_neg n0, if_neg n0, step_add]
          exact strd_add n
theorem strd_ok {M : Mach} {R S : Nat} (hM : MOk M R S) : ∀ (n : Nat) {k : Sk}, OkK R S k → OkK R S (strd M n k).2
  | 0, k, h => h
  | n + 1, k, h => by
    have S1 : 1 ≤ S := by have := hM.s2; omega
    obtain ⟨_, _, _, eo⟩ := ent_of hM h.r0 h.r1 h.s0 h.s1
    rw [strd]
    cases ee : entAt M k.row k.s with
    | emp => exact h
    | go p w t =>
      rw [ee] at eo
      obtain ⟨⟨p0, p1⟩, wo, t0, t1⟩ := eo.ok _ _ _ rfl
      dsimp only
      split
      · exact h
      · refine strd_ok hM n ?_
        split
        · exact h
        · exact h.step _ S1 p0 p1 t0 t1
theorem bs_frz {F H F' H' : Hp} {t u l1 l2 : Addr} {xs1 xs2 : List V} {z : TStr × Sk} (g : Gr mu0 F H F' H') (ht : F' t = some (.tup [.str z.1.x, .int z.2.st, .int z.2.row, .ref u])) (hu : F' u = some (.tup [.ref l1, .int z.2.s, .ref l2]))
    (w1 : Ow H F' H' l1 (.lst xs1)) (w2 : Ow H F' H' l2 (.lst xs2)) (l12 : l1 ≠ l2) (i1 : IsAll F' xs1 z.2.l.reverse) (i2 : IsAll F' xs2 z.2.r) :
    ∃ F2, Gr mu0 F H F2 H' ∧ F2 t = some (.tup [.str z.1.x, .int z.2.st, .int z.2.row, .ref u]) ∧ Is F2 (.ref u) (⟨z.2.l.reverse, z.2.s, z.2.r⟩ : Rs) := by
  have g1 := g.frz w1.h w1.n w1.f
  have s1 : Same F' (upd F' l1 (.lst xs1)) := sm_new (Same.refl F') w1.f
  have w2' := w2.frz' (u := .lst xs1) (Ne.symm l12)
  have g2 := g1.frz w2'.h w2'.n w2'.f
  have s2 : Same (upd F' l1 (.lst xs1)) (upd (upd F' l1 (.lst xs1)) l2 (.lst xs2)) := sm_new (Same.refl _) w2'.f
  have s12 := s1.trans s2
  exact ⟨_, g2, s12 _ _ ht, u, _, _, _, rfl, s12 _ _ hu, ⟨l1, xs1, rfl, s2 _ _ upd_same, IsAll.up i1 s12⟩, rfl, ⟨l2, xs2, rfl, upd_same, IsAll.up i2 s12⟩⟩
def sp_L_parted : Sp := fun vs H Q _ => ∃ (F : Hp) (m v : V) (M : Mach) (R S : Nat) (x : Rs) (row : Int) (a n : Nat), vs = [m, .int row, v, .int a, .int n] ∧ Same F H ∧ Is F m M ∧ MOk M R S ∧ Is F v x ∧ OkR S x ∧ x.a.length ≤ 8 ∧ x.c.length ≤ 8 ∧ 0 ≤ row ∧ row < R ∧ a ≤ n ∧ n ≤ 500 ∧
  ∀ (F' H' : Hp), Gr mu0 F H F' H' → Q (.bl true) H'
theorem ok_L_parted (t : Tx K mg) : FnOk P w K mg base CX0 5 t.a_L_parted t.fd_L_parted ["_law_machine_here", "_law_row", "_law_runs_here", "_law_first", "_law_many"] sp_L_parted := by
  refine t.F_L_parted.ok sc_L_parted (fun vs H Q E h => ?_) (fun cdv A outer s H vs Q E hr h => ?_)
  · obtain ⟨F, m, v, M, R, S, x, row, a, n, rfl, _⟩ := h
    rfl
  · obtain ⟨F, m, v, M, R, S, x, row, a, n, rfl, sF, hm, hM, hv, hx, x8, x8', r0, r1, han, hn, q⟩ := h
    refine ⟨_, (pss_cons (ps_asg (pe_call (ok_by_strides t) (hr.mono (by decide)) (by rfl) t.m_by_strides t.F_by_strides.kp t.b_by_strides .nil pass0 (pa_cons (pv 0) (pa_cons (pv 1) (pa_cons (pe_call (ok_L_copied t) (hr.mono (by decide)) (by rfl) t.m_L_copied t.F_L_copied.kp t.b_L_copied .nil pass0 (pa_cons (pv 2) pa_nil)) (pa_cons (pv 3) pa_nil))))) (pg_tup rfl (pgs_cons (pg_name (i := 5) sc_L_parted.nd rfl (by first | exact Or.inl rfl | exact Or.inr rfl)) (pgs_cons (pg_name (i := 6) sc_L_parted.nd rfl (by first | exact Or.inl rfl | exact Or.inr rfl)) (pgs_cons (pg_name (i := 7) sc_L_parted.nd rfl (by first | exact Or.inl rfl | exact Or.inr rfl)) (pgs_cons (pg_name (i := 8) sc_L_parted.nd rfl (by first | exact Or.inl rfl | exact Or.inr rfl)) pgs_nil))))))
      (pss_cons (ps_set (i := 9) sc_L_parted.nd rfl (by first | exact Or.inl rfl | exact Or.inr rfl) (pe_call (ok_by_strides t) (hr.mono (by decide)) (by rfl) t.m_by_strides t.F_by_strides.kp t.b_by_strides .nil pass0 (pa_cons (pv 0) (pa_cons (pv 1) (pa_cons (pe_call (ok_L_copied t) (hr.mono (by decide)) (by rfl) t.m_L_copied t.F_L_copied.kp t.b_L_copied .nil pass0 (pa_cons (pv 2) pa_nil)) (pa_cons (pv 4) pa_nil))))))
      (pss_cons (ps_if (pt_cmpR op_ne (pv 5) pe_str (nomark _)) (pss_one (ps_ret (pe_cmpR (op_eqD hr.units) (pv 9) (pe_tup (pa_cons (pv 5) (pa_cons (pv 6) (pa_cons (pv 7) (pa_cons (pv 8) pa_nil))))) (nomark _)))) pss_nil)
      (pss_cons (ps_asg (pe_call (ok_by_strides t) (hr.mono (by decide)) (by rfl) t.m_by_strides t.F_by_strides.kp t.b_by_strides .nil pass0 (pa_cons (pv 0) (pa_cons (pv 7) (pa_cons (pv 8) (pa_cons (pe_op op_sub (pv 4) (pv 3)) pa_nil))))) (pg_tup rfl (pgs_cons (pg_name (i := 5) sc_L_parted.nd rfl (by first | exact Or.inl rfl | exact Or.inr rfl)) (pgs_cons (pg_name (i := 10) sc_L_parted.nd rfl (by first | exact Or.inl rfl | exact Or.inr rfl)) (pgs_cons (pg_name (i := 7) sc_L_parted.nd rfl (by first | exact Or.inl rfl | exact Or.inr rfl)) (pgs_cons (pg_name (i := 8) sc_L_parted.nd rfl (by first | exact Or.inl rfl | exact Or.inr rfl)) pgs_nil))))))
      (pss_one (ps_ret (pe_cmpR (op_eqD hr.units) (pv 9) (pe_tup (pa_cons (pv 5) (pa_cons (pe_op op_add (pv 6) (pv 10)) (pa_cons (pv 7) (pa_cons (pv 8) pa_nil))))) (nomark _)))))))), ?_⟩
    refine ⟨_, rfl, _, rfl, _, rfl, F, v, x, rfl, sF, hv, fun F1 H1 v1 g1 iv1 => ⟨_, rfl, ?_⟩⟩
    refine ⟨F1, m, v1, M, R, S, x, row, a, rfl, g1.fh, hm.up g1.ff, hM, iv1, hx, r0, r1, by omega, fun F2' H2 t u l1 l2 xs1 xs2 z ez g2' ht' hu w1 w2 l12 i1 i2 => ?_⟩
    obtain ⟨F2, g2, ht, iu⟩ := bs_frz g2' ht' hu w1 w2 l12 i1 i2
    clear g2' ht' hu w1 w2 l12 i1 i2
    have g12 := g1.trans g2
    refine ⟨t, _, rfl, SqT.of (g2.fh _ _ ht), rfl, _, _, rfl, _, _, rfl, _, _, rfl, _, _, rfl, rfl, ?_⟩
    refine ⟨_, rfl, _, rfl, _, rfl, F2, v, x, rfl, g12.fh, hv.up g12.ff, fun F3 H3 v3 g3 iv3 => ⟨_, rfl, ?_⟩⟩
    have g13 := g12.trans g3
    refine ⟨F3, m, v3, M, R, S, x, row, n, rfl, g13.fh, hm.up g13.ff, hM, iv3, hx, r0, r1, by omega, fun F4' H4 t' u' l1 l2 xs1 xs2 z' ez' g4' ht4' hu4 w1 w2 l12 i1 i2 => ?_⟩
    obtain ⟨F4, g4, ht4, iu4⟩ := bs_frz g4' ht4' hu4 w1 w2 l12 i1 i2
    clear g4' ht4' hu4 w1 w2 l12 i1 i2
    have g14 := g13.trans g4
    have s24 := g3.ff.trans g4.ff
    have iw : Is F4 (.ref t') (resOf z') := ⟨t', _, _, _, _, rfl, ht4, rfl, rfl, rfl, iu4⟩
    have iu' := iu.up s24
    refine ⟨_, rfl, rfl, _, rfl, ?_⟩
    refine ite2 (fun cc => ?_) (fun cc => ?_)
    · have non : z.1 ≠ tOnn := by
        intro e
        rw [e] at cc
        exact absurd cc (by decide +kernel)
      have eq : z' = z := by
        rw [← ez'] at *
        rw [← ez] at non ⊢
        have := strd_more (n - a) a non
        rw [show a + 1 + (n - a) = n + 1 by omega] at this
        exact this
      refine ⟨_, rfl, _, rfl, _, rfl, _, rfl, _, rfl, by show 4 ≤ sizeLine; decide, fun p np => ?_⟩
      have g5 := g14.own (o := .tup [.str z.1.x, .int z.2.st, .int z.2.row, .ref u]) np
      refine eq_dat (a := resOf z') (b := resOf z) (iw.up g5.fh) ⟨p, _, _, _, _, rfl, upd_same, rfl, rfl, rfl, iu'.up g5.fh⟩ ?_
      rw [decide_eq_true (by rw [eq])]
      exact q _ _ g5
    · have on : z.1 = tOnn := by
        refine Decidable.byContradiction fun ne => cc ?_
        have : ¬ V.str z.1.x = V.str tOnn.x := fun e => ne (by
          have e := V.str.inj e
          obtain ⟨⟨zx, zo⟩, zk⟩ := z
          have e : zx = tOnn.x := e
          subst e
          rfl)
        show (!decide (V.str z.1.x = V.str tOnn.x)) = true
        rw [decide_eq_false this]; rfl
      have k1 : OkK R S (k0Of x row) := ⟨hx.1.1.rev, hx.2.2.1, hx.2.1.1, hx.2.1.2, r0, r1⟩
      have ok := strd_ok hM (a + 1) k1
      have ln' := strd_len M (a + 1) (k := k0Of x row) (m := 8) ⟨by show x.a.reverse.length ≤ 8; rw [List.length_reverse]; exact x8, x8'⟩
      have wh := strd_on (n - a) a (M := M) (k := k0Of x row) (by rw [ez]; exact on)
      rw [ez] at ok ln' wh
      rw [show a + 1 + (n - a) = n + 1 by omega, ez'] at wh
      obtain ⟨d, ed⟩ : ∃ d : Nat, (n : Int) - (a : Int) = (d : Int) := ⟨n - a, by omega⟩
      have ed' : n - a = d := by omega
      rw [ed'] at wh
      have lz1 := ln'.1
      have lz2 := ln'.2
      refine ⟨_, rfl, _, rfl, _, rfl, _, rfl, _, rfl, _, _, rfl, rfl, ?_⟩
      refine ⟨F4, m, .ref u, M, R, S, ⟨z.2.l.reverse, z.2.s, z.2.r⟩, z.2.row, d, (by show [m, V.int z.2.row, V.ref u, V.int ((n : Int) - (a : Int))] = _; rw [ed]), g14.fh, hm.up g14.ff, hM, iu', ⟨⟨ok.l.rev, by show z.2.l.reverse.length ≤ 600; rw [List.length_reverse]; omega⟩, ⟨ok.s0, ok.s1⟩, ok.r, by show z.2.r.length ≤ 600; omega⟩, ok.r0, ok.r1, by omega, fun F5' H5 t5 u5 l1 l2 xs1 xs2 z5 ez5 g5' ht5' hu5 w1 w2 l12 i1 i2 => ?_⟩
      obtain ⟨F5, g5, ht5, iu5⟩ := bs_frz g5' ht5' hu5 w1 w2 l12 i1 i2
      have g15 := g14.trans g5
      have ek : addSt z.2.st (k0Of ⟨z.2.l.reverse, z.2.s, z.2.r⟩ z.2.row) = z.2 := by
        show Sk.mk z.2.l.reverse.reverse z.2.r z.2.s z.2.row (0 + z.2.st) = z.2
        rw [List.reverse_reverse, Int.zero_add]
      have e5 := strd_add (M := M) (s := z.2.st) (d + 1) (k := k0Of ⟨z.2.l.reverse, z.2.s, z.2.r⟩ z.2.row)
      rw [ek, ez5, ← wh] at e5
      refine ⟨t5, _, rfl, SqT.of (g5.fh _ _ ht5), rfl, _, _, rfl, _, _, rfl, _, _, rfl, _, _, rfl, rfl, ?_⟩
      refine ⟨_, rfl, _, rfl, _, rfl, _, rfl, _, _, rfl, rfl, _, rfl, _, rfl, by show 4 ≤ sizeLine; decide, fun p np => ?_⟩
      have g6 := g15.own (o := .tup [.str z5.1.x, .int (z.2.st + z5.2.st), .int z5.2.row, .ref u5]) np
      refine eq_dat (a := resOf z') (b := (⟨z5.1, z.2.st + z5.2.st, z5.2.row, ⟨z5.2.l.reverse, z5.2.s, z5.2.r⟩⟩ : Res4)) ((iw.up g5.ff).up g6.fh) ⟨p, _, _, _, _, rfl, upd_same, rfl, rfl, rfl, iu5.up g6.fh⟩ ?_
      rw [decide_eq_true (by
        rw [e5]
        show (⟨z5.1, z5.2.st + z.2.st, z5.2.row, ⟨z5.2.l.reverse, z5.2.s, z5.2.r⟩⟩ : Res4) = _
        rw [Int.add_comm])]
      exact q _ _ g6
theorem SqL.up {K : PySem.W.Frag} {H H' : Hp} {a : Addr} {xs : List V} (h : SqL K H a xs) (s : Same H H') : SqL K H' a xs :=
  h.elim (fun h => .inl (h.elim (fun h => .inl (s _ _ h)) fun ⟨o, h⟩ => .inr ⟨o, s _ _ h⟩)) fun h => .inr h
theorem gr_same {F H H1 : Hp} (f : Same F H) (s : Same H H1) : Gr mu0 F H F H1 := ⟨fun _ _ h => h, fun c o h => s _ _ (f _ _ h), fun _ _ h => .inl h, fun c o h _ => s _ _ h, fun c h => s.free h⟩
theorem Same.trans' {F G H : Hp} (a : Same F G) (b : Same G H) : Same F H := fun c o h => b c o (a c o h)
def sp_law (K : PySem.W.Frag) : Sp := fun vs H Q _ => ∃ (a : Addr) (ns : List Int), vs = [.ref a] ∧ SqL K H a (ns.map V.int) ∧ ns.length ≤ 63 ∧ ∀ H', Q (.bl true) H'
theorem ok_law (t : Tx K mg) : FnOk P w K mg base CX0 6 t.a_law t.fd_law ["_law_script"] (sp_law K) := by
  refine t.F_law.ok sc_law (fun vs H Q E h => ?_) (fun cdv A outer s H vs Q E hr h => ?_)
  · obtain ⟨a, ns, rfl, _⟩ := h
    rfl
  · obtain ⟨l, ns, rfl, hS, hn, q⟩ := h
    refine ⟨_, (pss_cons (ps_for PassesOwn.never rfl (pi_range1 (by rfl) t.n_range (pa_cons pe_int pa_nil)) (pg_name (i := 1) sc_law.nd rfl (by first | exact Or.inl rfl | exact Or.inr rfl)) (pss_cons (ps_set (i := 2) sc_law.nd rfl (by first | exact Or.inl rfl | exact Or.inr rfl) (pe_call (ok_L_purse t) (hr.mono (by decide)) (by rfl) t.m_L_purse t.F_L_purse.kp t.b_L_purse .nil pass0 (pa_cons (pv 0) (pa_cons (pv 1) pa_nil))))
      (pss_cons (ps_set (i := 3) sc_law.nd rfl (by first | exact Or.inl rfl | exact Or.inr rfl) (pe_call (ok_L_machine t) (hr.mono (by decide)) (by rfl) t.m_L_machine t.F_L_machine.kp t.b_L_machine .nil pass0 (pa_cons (pv 2) pa_nil)))
      (pss_cons (ps_for PassesOwn.never rfl (pi_list (pe_op op_cat (pe_listRg rfl (by rfl) t.n_list (prg_1 (by rfl) t.n_range pe_int)) (pe_lst (pa_cons (pe_call (ok_L_draw t) (hr.mono (by decide)) (by rfl) t.m_L_draw t.F_L_draw.kp t.b_L_draw .nil pass0 (pa_cons (pv 2) (pa_cons pe_int pa_nil))) pa_nil)))) (pg_name (i := 4) sc_law.nd rfl (by first | exact Or.inl rfl | exact Or.inr rfl)) (pss_one (ps_if (pt_not (pt_val (pe_call (ok_L_so t) (hr.mono (by decide)) (by rfl) t.m_L_so t.F_L_so.kp t.b_L_so .nil pass0 (pa_cons (pv 3) (pa_cons (pe_call (ok_by_strides t) (hr.mono (by decide)) (by rfl) t.m_by_strides t.F_by_strides.kp t.b_by_strides .nil pass0 (pa_cons (pv 3) (pa_cons pe_int (pa_cons (pe_tup (pa_cons (pe_lst pa_nil) (pa_cons pe_int (pa_cons (pe_lst pa_nil) pa_nil)))) (pa_cons (pv 4) pa_nil))))) pa_nil))))) (pss_one (ps_ret pe_bl)) pss_nil)))
      (pss_one (ps_for PassesOwn.never rfl (pi_range1 (by rfl) t.n_range (pa_cons pe_int pa_nil)) (pg_name (i := 5) sc_law.nd rfl (by first | exact Or.inl rfl | exact Or.inr rfl)) (pss_cons (ps_set (i := 6) sc_law.nd rfl (by first | exact Or.inl rfl | exact Or.inr rfl) (pe_call (ok_L_draw t) (hr.mono (by decide)) (by rfl) t.m_L_draw t.F_L_draw.kp t.b_L_draw .nil pass0 (pa_cons (pv 2) (pa_cons (pe_callB (id := "len") call_lenQ (by rfl) t.n_len (by decide +kernel) (pa_cons (pv 3) pa_nil)) pa_nil))))
      (pss_cons (ps_set (i := 7) sc_law.nd rfl (by first | exact Or.inl rfl | exact Or.inr rfl) (pe_call (ok_L_runs t) (hr.mono (by decide)) (by rfl) t.m_L_runs t.F_L_runs.kp t.b_L_runs .nil pass0 (pa_cons (pv 2) (pa_cons (pe_callB (id := "len") call_lenQ (by rfl) t.n_len (by decide +kernel) (pa_cons (pe_ix ix_list (pv 3) pe_int (fun _ _ => rfl)) pa_nil)) pa_nil))))
      (pss_cons (ps_set (i := 4) sc_law.nd rfl (by first | exact Or.inl rfl | exact Or.inr rfl) (pe_call (ok_L_draw t) (hr.mono (by decide)) (by rfl) t.m_L_draw t.F_L_draw.kp t.b_L_draw .nil pass0 (pa_cons (pv 2) (pa_cons (pe_ix ix_list (pe_lst (pa_cons pe_int (pa_cons pe_int pa_nil))) (pe_call (ok_L_draw t) (hr.mono (by decide)) (by rfl) t.m_L_draw t.F_L_draw.kp t.b_L_draw .nil pass0 (pa_cons (pv 2) (pa_cons pe_int pa_nil))) (fun _ _ => rfl)) pa_nil))))
      (pss_one (ps_if (pt_not (pt_val (pe_call (ok_L_parted t) (hr.mono (by decide)) (by rfl) t.m_L_parted t.F_L_parted.kp t.b_L_parted .nil pass0 (pa_cons (pv 3) (pa_cons (pv 6) (pa_cons (pv 7) (pa_cons (pe_call (ok_L_draw t) (hr.mono (by decide)) (by rfl) t.m_L_draw t.F_L_draw.kp t.b_L_draw .nil pass0 (pa_cons (pv 2) (pa_cons (pe_op op_add (pv 4) pe_int) pa_nil))) (pa_cons (pv 4) pa_nil)))))))) (pss_one (ps_ret pe_bl)) pss_nil)))))))))))
      (pss_one (ps_ret pe_bl))), ?_⟩
    refine ⟨8, rfl, by decide, by decide, for_range (lo := 0) (n := 8) (fun i σ G => ∃ (v1 v2 v3 v4 v5 v6 v7 : Option V), σ = [some (.ref l), v1, v2, v3, v4, v5, v6, v7] ∧ Same H G)
      ⟨none, none, none, none, none, none, none, rfl, Same.refl H⟩ ?_ ?_⟩
    · rintro i σ G hi ⟨v1, v2, v3, v4, v5, v6, v7, rfl, sG⟩
      have ei : ((0 : Int) + (i : Int)) = (i : Int) := by omega
      rw [ei]
      refine ⟨_, rfl, _, rfl, l, ns, i, rfl, SqL.up hS sG, by omega, fun p G1 s1 np hp1 => ?_⟩
      refine ⟨_, rfl, G, p, 10000, rfl, s1, np, hp1, by decide, fun F2 G2 m M R S g2 hp2 hM hm => ?_⟩
      have r1 := hM.r1
      have r4 := hM.r4
      have S2 := hM.s2
      have S4 := hM.s4
      have fp2 := hp1.f np g2
      -- the counts
      refine ⟨13, rfl, RgOk.of_le (by decide) (by decide) (by decide) (by decide), fun q1 nq1 => ?_⟩
      have g3 := g2.own (o := .lst (rgV 0 13)) nq1
      have hp3 := hp2.ln (o := .lst (rgV 0 13)) nq1
      have pq := hp2.ne nq1
      have hq : (upd G2 q1 (.lst (rgV 0 13))) q1 = some (.lst (rgV 0 13)) := upd_same
      generalize upd G2 q1 (.lst (rgV 0 13)) = G3 at g3 hp3 hq ⊢
      refine ⟨_, rfl, F2, p, 501, _, rfl, g3.fh, fp2, hp3, by omega, by decide, by decide, fun d G4 d0 d1 g4 hp4 => ⟨one_le, fun w nw => ?_⟩⟩
      have hq4 := g4.fr _ _ hq (Ne.symm pq)
      have g5 := (g3.trans g4).own (o := .lst [.int d]) nw
      have hp5 := hp4.ln (o := .lst [.int d]) nw
      refine ⟨q1, w, rgV 0 13, [.int d], rfl, rfl, ln nw hq4, upd_same, by rw [rgV_length]; exact le_size (by show 13 + 1 ≤ 1000000; decide), fun r nr => ?_⟩
      have g6 := g5.own (o := .lst (rgV 0 13 ++ [.int d])) nr
      have hp6 := hp5.ln (o := .lst (rgV 0 13 ++ [.int d])) nr
      have wr : Ow G1 F2 (upd (upd G4 w (.lst [.int d])) r (.lst (rgV 0 13 ++ [.int d]))) r (.lst (rgV 0 13 ++ [.int d])) := Ow.mk1 g5 nr
      have pr : p ≠ r := hp5.ne nr
      generalize upd (upd G4 w (.lst [.int d])) r (.lst (rgV 0 13 ++ [.int d])) = G6 at g6 hp6 wr ⊢
      have hel : ∀ (j : Nat) y, (rgV 0 13 ++ [V.int d])[j]? = some y → ∃ n : Nat, y = .int n ∧ n ≤ 600 := by
        intro j y hy
        have hm := List.mem_of_getElem? hy
        rcases List.mem_append.mp hm with hm | hm
        · unfold rgV at hm
          obtain ⟨e, he, ey⟩ := List.mem_map.mp hm
          have := List.mem_range.mp he
          have h13 : ((13 : Int) - 0).toNat = 13 := by decide
          exact ⟨e, by rw [← ey]; congr 1; omega, by omega⟩
        · exact ⟨d.toNat, by rw [List.mem_singleton.mp hm]; congr 1; omega, by omega⟩
      refine ⟨r, rfl, ⟨_, SqL.of wr.h⟩, for_list (K := K) (a := r) (xs := rgV 0 13 ++ [.int d]) (fun j σ T => ∃ (F4 : Hp) (v4 v5 v6 v7 : Option V), σ = [some (.ref l), some (.int i), some (.ref p), some m, v4, v5, v6, v7] ∧ Gr (muP p) G G1 F4 T ∧ PuAt T p 20000 ∧ Is F4 m M ∧ Ow G1 F4 T r (.lst (rgV 0 13 ++ [.int d])))
        ⟨F2, v4, v5, v6, v7, rfl, g6, hp6.le (by omega), hm, wr⟩ (fun j σ T _ ⟨_, _, _, _, _, _, _, _, _, w⟩ => SqL.of w.h) ?_ ?_⟩
      · rintro j y σ T hj ⟨F4, v4, v5, v6, v7, rfl, g, hpT, hmF, wr⟩
        obtain ⟨n, rfl, hn6⟩ := hel j y hj
        refine ⟨_, rfl, _, rfl, nil_le, fun a na => ⟨nil_le, fun c nc => ⟨three_le, fun u nu => ?_⟩⟩⟩
        have k5 := (((Gr.refl (mu := mu0) g.fh).new (o := .lst []) na).new (o := .lst []) nc).new (o := .tup [.ref a, .int 0, .ref c]) nu
        have i5 : Is (upd (upd (upd F4 a (.lst [])) c (.lst [])) u (.tup [.ref a, .int 0, .ref c])) (.ref u) (⟨[], 0, []⟩ : Rs) := by
          refine ⟨u, _, _, _, rfl, upd_same, is_nil ?_, rfl, is_nil ?_⟩
          · rw [upd_ne (ne_of_none (ln nc upd_same) nu), upd_ne (ne_of_none upd_same nc)]; exact upd_same
          · rw [upd_ne (ne_of_none upd_same nu)]; exact upd_same
        generalize upd (upd (upd F4 a (.lst [])) c (.lst [])) u (.tup [.ref a, .int 0, .ref c]) = F5 at k5 i5
        generalize upd (upd (upd T a (.lst [])) c (.lst [])) u (.tup [.ref a, .int 0, .ref c]) = T5 at k5 ⊢
        refine ⟨_, rfl, F5, m, .ref u, M, R, S, ⟨[], 0, []⟩, 0, n, rfl, k5.fh, hmF.up k5.ff, hM, i5, ⟨⟨OkS.nil, by show 0 ≤ 600; omega⟩, ⟨by show (0 : Int) ≤ 0; omega, by show (0 : Int) < S; omega⟩, OkS.nil, by show 0 ≤ 600; omega⟩, by decide, by omega, by omega, fun F6' T6 t u' l1 l2 xs1 xs2 z ez g6' ht' hu w1 w2 l12 i1 i2 => ?_⟩
        obtain ⟨F6, g6, ht, iu⟩ := bs_frz g6' ht' hu w1 w2 l12 i1 i2
        have g56 := k5.trans g6
        refine ⟨F6, m, .ref t, M, R, S, n + 1, rfl, g6.fh, hmF.up g56.ff, hM, by rw [ez]; exact ⟨t, _, _, _, _, rfl, ht, rfl, rfl, rfl, iu⟩, fun F7 T7 g7 => ⟨_, rfl, ifF rfl ?_⟩⟩
        have g57 := g56.trans g7
        exact ⟨F7, _, _, _, _, rfl, g.trans (g57.weak (mu' := muP p) fun c z => z.elim), hpT.gr g57 fun z => z, hmF.up g57.ff, wr.call g57 fun z => z⟩
      · rintro σ T ⟨F4, v4, v5, v6, v7, rfl, g, hpT, hmF, wr⟩
        refine ⟨3, rfl, by decide, by decide, for_range (lo := 0) (n := 3) (fun j σ T => ∃ (F4 : Hp) (b : Int) (v4 v5 v6 v7 : Option V), σ = [some (.ref l), some (.int i), some (.ref p), some m, v4, v5, v6, v7] ∧
          Gr (muP p) G G1 F4 T ∧ PuAt T p b ∧ b ≤ 20000 + 1000 * j ∧ Is F4 m M) ⟨F4, _, v4, v5, v6, v7, rfl, g, hpT, by omega, hmF⟩ ?_ ?_⟩
        · rintro j σ T hj ⟨F4, b, v4, v5, v6, v7, rfl, g, hpT, hb, hmF⟩
          have fp4 := hp1.f np g
          obtain ⟨am, rs, rfl, ham, hrs⟩ := id hmF
          have lrs : rs.length = R := hrs.1.trans hM.len
          have l0 : 0 < rs.length := by omega
          obtain ⟨row0, hM0, a0, es0, er0, ha0, hes0⟩ := hrs.get' (List.getElem?_eq_getElem l0)
          have ls0 : es0.length = S := hes0.1.trans (hM.row _ (List.mem_of_getElem? hM0))
          have hx0 : rs[0]? = some (.ref a0) := (List.getElem?_eq_getElem l0).trans (congrArg some er0)
          refine ⟨_, rfl, _, rfl, am, rs, rfl, .inl (SqL.of (g.fh _ _ ham)), F4, p, (rs.length : Int), b, rfl, g.fh, fp4, hpT, by omega, by omega, by omega, fun d1 T1 d10 d11 g1 hp1' => ?_⟩
          have ga := g.trans g1
          refine ⟨_, rfl, _, rfl, am, rs, _, _, rfl, rfl, SqL.of (g1.fh _ _ ham), atI_nat (j := 0) hx0, a0, es0, rfl, .inl (SqL.of (g1.fh _ _ ha0)), F4, p, es0.length, _, rfl, g1.fh, fp4, hp1', by omega, by omega, by omega, fun Fz Tz rv x gz hpz irv okr0 x8 x8' => ?_⟩
          have okr : OkR S x := by rw [← ls0]; exact okr0
          have gB := ga.trans gz
          have fpB := hp1.f np gB
          have hmz := hmF.up gz.ff
          refine ⟨_, rfl, two_le, fun l3 nl3 => ?_⟩
          have gC := gB.own (o := .lst [.int 13, .int 501]) nl3
          have hpC := hpz.ln (o := .lst [.int 13, .int 501]) nl3
          have pl := hpz.ne nl3
          refine ⟨_, rfl, Fz, p, 2, _, rfl, gC.fh, fpB, hpC, by omega, by decide, by decide, fun d3 T7 d30 d31 g7 hp7 => ?_⟩
          have ef : ∃ f : Int, atI [V.int 13, V.int 501] d3 = some (.int f) ∧ 0 < f ∧ f ≤ 501 := by
            rcases (by omega : d3 = 0 ∨ d3 = 1) with rfl | rfl <;> exact ⟨_, rfl, by decide, by decide⟩
          obtain ⟨f, ef, f0, f1⟩ := ef
          refine ⟨l3, _, _, _, rfl, rfl, SqL.of (g7.fr _ _ upd_same (Ne.symm pl)), ef, ?_⟩
          have gD := gC.trans g7
          refine ⟨Fz, p, f, _, rfl, gD.fh, fpB, hp7, by omega, f0, by omega, fun d4 T8 d40 d41 g8 hp8 => ?_⟩
          have gE := gD.trans g8
          obtain ⟨n, rfl⟩ : ∃ n : Nat, d4 = (n : Int) := ⟨d4.toNat, by omega⟩
          -- parted
          refine ⟨_, rfl, _, rfl, _, rfl, _, rfl, _, rfl, _, _, rfl, rfl, Fz, p, (n : Int) + 1, _, rfl, gE.fh, fpB, hp8, by omega, by omega, by omega, fun d5 T9 d50 d51 g9 hp9 => ?_⟩
          have gF := gE.trans g9
          obtain ⟨a, rfl⟩ : ∃ a : Nat, d5 = (a : Int) := ⟨d5.toNat, by omega⟩
          refine ⟨_, rfl, Fz, .ref am, rv, M, R, S, x, d1, a, n, rfl, g9.fh, hmz, hM, irv, okr, x8, x8', d10, by omega, by omega, by omega, fun Fa Ta ga' => ⟨_, rfl, ifF rfl ?_⟩⟩
          exact ⟨Fa, _, _, _, _, _, rfl, gF.trans (ga'.weak (mu' := muP p) fun c z => z.elim), hp9.gr ga' fun z => z, by omega, hmz.up ga'.ff⟩
        · rintro σ T ⟨F4, b, v4, v5, v6, v7, rfl, g, hpT, hb, hmF⟩
          exact ⟨_, _, _, _, _, _, _, rfl, fun c o h => g.fh _ _ (g.ff _ _ (sG _ _ h))⟩
    · rintro σ G ⟨v1, v2, v3, v4, v5, v6, v7, rfl, sG⟩
      exact q _

end
def all_tx {K : PySem.W.Frag} {h : Heap} {mg : Str → Option Value} {a_L_at a_L_purse a_L_mixed a_L_draw a_L_entry a_L_machine a_L_side a_L_runs a_is_entry a_is_machine a_must_machine a_Goer_init a_Goer_entry a_Goer_step a_put_run a_taken a_Strip_step a_gone a_told_strip a_Goer_setup a_run a_runs_of a_L_so a_Strip_init a_Strip_told a_Strip_stride a_by_strides a_L_copied a_L_parted a_law C_NoMachine C_Goer C_Strip : Addr} {od_L_at an_L_at od_L_purse an_L_purse od_L_mixed an_L_mixed od_L_draw an_L_draw od_L_entry an_L_entry od_L_machine an_L_machine od_L_side an_L_side od_L_runs an_L_runs od_is_entry an_is_entry od_is_machine an_is_machine od_must_machine an_must_machine od_Goer_init an_Goer_init od_Goer_entry an_Goer_entry od_Goer_step an_Goer_step od_put_run an_put_run od_taken an_taken od_Strip_step an_Strip_step od_gone an_gone od_told_strip an_told_strip od_Goer_setup an_Goer_setup od_run an_run od_runs_of an_runs_of od_L_so an_L_so od_Strip_init an_Strip_init od_Strip_told an_Strip_told od_Strip_stride an_Strip_stride od_by_strides an_by_strides od_L_copied an_L_copied od_L_parted an_L_parted od_law an_law : Option Addr} {sl_L_at sl_L_purse sl_L_mixed sl_L_draw sl_L_entry sl_L_machine sl_L_side sl_L_runs sl_is_entry sl_is_machine sl_must_machine sl_Goer_init sl_Goer_entry sl_Goer_step sl_put_run sl_taken sl_Strip_step sl_gone sl_told_strip sl_Goer_setup sl_run sl_runs_of sl_L_so sl_Strip_init sl_Strip_told sl_Strip_stride sl_by_strides sl_L_copied sl_L_parted sl_law : Array (Option Value)} {oc_L_at kV_L_at dc_L_at pm_L_at cd_L_at ct_L_at oc_L_purse kV_L_purse dc_L_purse pm_L_purse cd_L_purse ct_L_purse oc_L_mixed kV_L_mixed dc_L_mixed pm_L_mixed cd_L_mixed ct_L_mixed oc_L_draw kV_L_draw dc_L_draw pm_L_draw cd_L_draw ct_L_draw oc_L_entry kV_L_entry dc_L_entry pm_L_entry cd_L_entry ct_L_entry oc_L_machine kV_L_machine dc_L_machine pm_L_machine cd_L_machine ct_L_machine oc_L_side kV_L_side dc_L_side pm_L_side cd_L_side ct_L_side oc_L_runs kV_L_runs dc_L_runs pm_L_runs cd_L_runs ct_L_runs oc_is_entry kV_is_entry dc_is_entry pm_is_entry cd_is_entry ct_is_entry oc_is_machine kV_is_machine dc_is_machine pm_is_machine cd_is_machine ct_is_machine oc_must_machine kV_must_machine dc_must_machine pm_must_machine cd_must_machine ct_must_machine oc_Goer_init kV_Goer_init dc_Goer_init pm_Goer_init cd_Goer_init ct_Goer_init oc_Goer_entry kV_Goer_entry dc_Goer_entry pm_Goer_entry cd_Goer_entry ct_Goer_entry oc_Goer_step kV_Goer_step dc_Goer_step pm_Goer_step cd_Goer_step ct_Goer_step oc_put_run kV_put_run dc_put_run pm_put_run cd_put_run ct_put_run oc_taken kV_taken dc_taken pm_taken cd_taken ct_taken oc_Strip_step kV_Strip_step dc_Strip_step pm_Strip_step cd_Strip_step ct_Strip_step oc_gone kV_gone dc_gone pm_gone cd_gone ct_gone oc_told_strip kV_told_strip dc_told_strip pm_told_strip cd_told_strip ct_told_strip oc_Goer_setup kV_Goer_setup dc_Goer_setup pm_Goer_setup cd_Goer_setup ct_Goer_setup oc_run kV_run dc_run pm_run cd_run ct_run oc_runs_of kV_runs_of dc_runs_of pm_runs_of cd_runs_of ct_runs_of oc_L_so kV_L_so dc_L_so pm_L_so cd_L_so ct_L_so oc_Strip_init kV_Strip_init dc_Strip_init pm_Strip_init cd_Strip_init ct_Strip_init oc_Strip_told kV_Strip_told dc_Strip_told pm_Strip_told cd_Strip_told ct_Strip_told oc_Strip_stride kV_Strip_stride dc_Strip_stride pm_Strip_stride cd_Strip_stride ct_Strip_stride oc_by_strides kV_by_strides dc_by_strides pm_by_strides cd_by_strides ct_by_strides oc_L_copied kV_L_copied dc_L_copied pm_L_copied cd_L_copied ct_L_copied oc_L_parted kV_L_parted dc_L_parted pm_L_parted cd_L_parted ct_L_parted oc_law kV_law dc_law pm_law cd_law ct_law : Value} {tk_MOST_ROWS tk_MOST_SIGNS : Tok} (X : K.In h) (G : h.Ns mainGlobals mg)
    (n_NoMachine : PySem.W.nsIn K mainGlobals "NoMachine" = some (some (.ref C_NoMachine)))
    (n_Goer : PySem.W.nsIn K mainGlobals "Goer" = some (some (.ref C_Goer)))
    (n_Strip : PySem.W.nsIn K mainGlobals "Strip" = some (some (.ref C_Strip)))
    (n_L_at : PySem.W.nsIn K mainGlobals "_law_at" = some (some (.ref a_L_at)))
    (l_L_at : K.lookup a_L_at = some ⟨oc_L_at, od_L_at, .func (PySem.W.fnOf "_law_at" "_law_at" (defArgs s_L_at) (defBody s_L_at) (defScope s_L_at) .none kV_L_at dc_L_at pm_L_at an_L_at cd_L_at ct_L_at), sl_L_at⟩)
    (c_L_at : PySem.W.codeIn K cd_L_at "_law_at" = true)
    (k_L_at : PySem.W.keepIn K (.ref a_L_at) = true)
    (n_L_purse : PySem.W.nsIn K mainGlobals "_law_purse" = some (some (.ref a_L_purse)))
    (l_L_purse : K.lookup a_L_purse = some ⟨oc_L_purse, od_L_purse, .func (PySem.W.fnOf "_law_purse" "_law_purse" (defArgs s_L_purse) (defBody s_L_purse) (defScope s_L_purse) .none kV_L_purse dc_L_purse pm_L_purse an_L_purse cd_L_purse ct_L_purse), sl_L_purse⟩)
    (c_L_purse : PySem.W.codeIn K cd_L_purse "_law_purse" = true)
    (k_L_purse : PySem.W.keepIn K (.ref a_L_purse) = true)
    (n_L_mixed : PySem.W.nsIn K mainGlobals "_law_mixed" = some (some (.ref a_L_mixed)))
    (l_L_mixed : K.lookup a_L_mixed = some ⟨oc_L_mixed, od_L_mixed, .func (PySem.W.fnOf "_law_mixed" "_law_mixed" (defArgs s_L_mixed) (defBody s_L_mixed) (defScope s_L_mixed) .none kV_L_mixed dc_L_mixed pm_L_mixed an_L_mixed cd_L_mixed ct_L_mixed), sl_L_mixed⟩)
    (c_L_mixed : PySem.W.codeIn K cd_L_mixed "_law_mixed" = true)
    (k_L_mixed : PySem.W.keepIn K (.ref a_L_mixed) = true)
    (n_L_draw : PySem.W.nsIn K mainGlobals "_law_draw" = some (some (.ref a_L_draw)))
    (l_L_draw : K.lookup a_L_draw = some ⟨oc_L_draw, od_L_draw, .func (PySem.W.fnOf "_law_draw" "_law_draw" (defArgs s_L_draw) (defBody s_L_draw) (defScope s_L_draw) .none kV_L_draw dc_L_draw pm_L_draw an_L_draw cd_L_draw ct_L_draw), sl_L_draw⟩)
    (c_L_draw : PySem.W.codeIn K cd_L_draw "_law_draw" = true)
    (k_L_draw : PySem.W.keepIn K (.ref a_L_draw) = true)
    (n_L_entry : PySem.W.nsIn K mainGlobals "_law_entry" = some (some (.ref a_L_entry)))
    (l_L_entry : K.lookup a_L_entry = some ⟨oc_L_entry, od_L_entry, .func (PySem.W.fnOf "_law_entry" "_law_entry" (defArgs s_L_entry) (defBody s_L_entry) (defScope s_L_entry) .none kV_L_entry dc_L_entry pm_L_entry an_L_entry cd_L_entry ct_L_entry), sl_L_entry⟩)
    (c_L_entry : PySem.W.codeIn K cd_L_entry "_law_entry" = true)
    (k_L_entry : PySem.W.keepIn K (.ref a_L_entry) = true)
    (n_L_machine : PySem.W.nsIn K mainGlobals "_law_machine" = some (some (.ref a_L_machine)))
    (l_L_machine : K.lookup a_L_machine = some ⟨oc_L_machine, od_L_machine, .func (PySem.W.fnOf "_law_machine" "_law_machine" (defArgs s_L_machine) (defBody s_L_machine) (defScope s_L_machine) .none kV_L_machine dc_L_machine pm_L_machine an_L_machine cd_L_machine ct_L_machine), sl_L_machine⟩)
    (c_L_machine : PySem.W.codeIn K cd_L_machine "_law_machine" = true)
    (k_L_machine : PySem.W.keepIn K (.ref a_L_machine) = true)
    (n_L_side : PySem.W.nsIn K mainGlobals "_law_side" = some (some (.ref a_L_side)))
    (l_L_side : K.lookup a_L_side = some ⟨oc_L_side, od_L_side, .func (PySem.W.fnOf "_law_side" "_law_side" (defArgs s_L_side) (defBody s_L_side) (defScope s_L_side) .none kV_L_side dc_L_side pm_L_side an_L_side cd_L_side ct_L_side), sl_L_side⟩)
    (c_L_side : PySem.W.codeIn K cd_L_side "_law_side" = true)
    (k_L_side : PySem.W.keepIn K (.ref a_L_side) = true)
    (n_L_runs : PySem.W.nsIn K mainGlobals "_law_runs" = some (some (.ref a_L_runs)))
    (l_L_runs : K.lookup a_L_runs = some ⟨oc_L_runs, od_L_runs, .func (PySem.W.fnOf "_law_runs" "_law_runs" (defArgs s_L_runs) (defBody s_L_runs) (defScope s_L_runs) .none kV_L_runs dc_L_runs pm_L_runs an_L_runs cd_L_runs ct_L_runs), sl_L_runs⟩)
    (c_L_runs : PySem.W.codeIn K cd_L_runs "_law_runs" = true)
    (k_L_runs : PySem.W.keepIn K (.ref a_L_runs) = true)
    (n_is_entry : PySem.W.nsIn K mainGlobals "is_entry" = some (some (.ref a_is_entry)))
    (l_is_entry : K.lookup a_is_entry = some ⟨oc_is_entry, od_is_entry, .func (PySem.W.fnOf "is_entry" "is_entry" (defArgs s_is_entry) (defBody s_is_entry) (defScope s_is_entry) .none kV_is_entry dc_is_entry pm_is_entry an_is_entry cd_is_entry ct_is_entry), sl_is_entry⟩)
    (c_is_entry : PySem.W.codeIn K cd_is_entry "is_entry" = true)
    (k_is_entry : PySem.W.keepIn K (.ref a_is_entry) = true)
    (n_is_machine : PySem.W.nsIn K mainGlobals "is_machine" = some (some (.ref a_is_machine)))
    (l_is_machine : K.lookup a_is_machine = some ⟨oc_is_machine, od_is_machine, .func (PySem.W.fnOf "is_machine" "is_machine" (defArgs s_is_machine) (defBody s_is_machine) (defScope s_is_machine) .none kV_is_machine dc_is_machine pm_is_machine an_is_machine cd_is_machine ct_is_machine), sl_is_machine⟩)
    (c_is_machine : PySem.W.codeIn K cd_is_machine "is_machine" = true)
    (k_is_machine : PySem.W.keepIn K (.ref a_is_machine) = true)
    (n_must_machine : PySem.W.nsIn K mainGlobals "must_machine" = some (some (.ref a_must_machine)))
    (l_must_machine : K.lookup a_must_machine = some ⟨oc_must_machine, od_must_machine, .func (PySem.W.fnOf "must_machine" "must_machine" (defArgs s_must_machine) (defBody s_must_machine) (defScope s_must_machine) .none kV_must_machine dc_must_machine pm_must_machine an_must_machine cd_must_machine ct_must_machine), sl_must_machine⟩)
    (c_must_machine : PySem.W.codeIn K cd_must_machine "must_machine" = true)
    (k_must_machine : PySem.W.keepIn K (.ref a_must_machine) = true)
    (n_Goer_init : PySem.W.findIn K (.ref C_Goer) "__init__" = some (some (.ref a_Goer_init)))
    (i_Goer_init : PySem.W.isFn K (.ref a_Goer_init) = true)
    (l_Goer_init : K.lookup a_Goer_init = some ⟨oc_Goer_init, od_Goer_init, .func (PySem.W.fnOf "__init__" "Goer.__init__" (defArgs s_Goer_init) (defBody s_Goer_init) (defScope s_Goer_init) .none kV_Goer_init dc_Goer_init pm_Goer_init an_Goer_init cd_Goer_init ct_Goer_init), sl_Goer_init⟩)
    (c_Goer_init : PySem.W.codeIn K cd_Goer_init "Goer.__init__" = true)
    (k_Goer_init : PySem.W.keepIn K (.ref a_Goer_init) = true)
    (n_Goer_entry : PySem.W.findIn K (.ref C_Goer) "entry" = some (some (.ref a_Goer_entry)))
    (i_Goer_entry : PySem.W.isFn K (.ref a_Goer_entry) = true)
    (l_Goer_entry : K.lookup a_Goer_entry = some ⟨oc_Goer_entry, od_Goer_entry, .func (PySem.W.fnOf "entry" "Goer.entry" (defArgs s_Goer_entry) (defBody s_Goer_entry) (defScope s_Goer_entry) .none kV_Goer_entry dc_Goer_entry pm_Goer_entry an_Goer_entry cd_Goer_entry ct_Goer_entry), sl_Goer_entry⟩)
    (c_Goer_entry : PySem.W.codeIn K cd_Goer_entry "Goer.entry" = true)
    (k_Goer_entry : PySem.W.keepIn K (.ref a_Goer_entry) = true)
    (n_Goer_step : PySem.W.findIn K (.ref C_Goer) "step" = some (some (.ref a_Goer_step)))
    (i_Goer_step : PySem.W.isFn K (.ref a_Goer_step) = true)
    (l_Goer_step : K.lookup a_Goer_step = some ⟨oc_Goer_step, od_Goer_step, .func (PySem.W.fnOf "step" "Goer.step" (defArgs s_Goer_step) (defBody s_Goer_step) (defScope s_Goer_step) .none kV_Goer_step dc_Goer_step pm_Goer_step an_Goer_step cd_Goer_step ct_Goer_step), sl_Goer_step⟩)
    (c_Goer_step : PySem.W.codeIn K cd_Goer_step "Goer.step" = true)
    (k_Goer_step : PySem.W.keepIn K (.ref a_Goer_step) = true)
    (n_put_run : PySem.W.nsIn K mainGlobals "put_run" = some (some (.ref a_put_run)))
    (l_put_run : K.lookup a_put_run = some ⟨oc_put_run, od_put_run, .func (PySem.W.fnOf "put_run" "put_run" (defArgs s_put_run) (defBody s_put_run) (defScope s_put_run) .none kV_put_run dc_put_run pm_put_run an_put_run cd_put_run ct_put_run), sl_put_run⟩)
    (c_put_run : PySem.W.codeIn K cd_put_run "put_run" = true)
    (k_put_run : PySem.W.keepIn K (.ref a_put_run) = true)
    (n_taken : PySem.W.nsIn K mainGlobals "taken" = some (some (.ref a_taken)))
    (l_taken : K.lookup a_taken = some ⟨oc_taken, od_taken, .func (PySem.W.fnOf "taken" "taken" (defArgs s_taken) (defBody s_taken) (defScope s_taken) .none kV_taken dc_taken pm_taken an_taken cd_taken ct_taken), sl_taken⟩)
    (c_taken : PySem.W.codeIn K cd_taken "taken" = true)
    (k_taken : PySem.W.keepIn K (.ref a_taken) = true)
    (n_Strip_step : PySem.W.findIn K (.ref C_Strip) "step" = some (some (.ref a_Strip_step)))
    (i_Strip_step : PySem.W.isFn K (.ref a_Strip_step) = true)
    (l_Strip_step : K.lookup a_Strip_step = some ⟨oc_Strip_step, od_Strip_step, .func (PySem.W.fnOf "step" "Strip.step" (defArgs s_Strip_step) (defBody s_Strip_step) (defScope s_Strip_step) .none kV_Strip_step dc_Strip_step pm_Strip_step an_Strip_step cd_Strip_step ct_Strip_step), sl_Strip_step⟩)
    (c_Strip_step : PySem.W.codeIn K cd_Strip_step "Strip.step" = true)
    (k_Strip_step : PySem.W.keepIn K (.ref a_Strip_step) = true)
    (n_gone : PySem.W.nsIn K mainGlobals "gone" = some (some (.ref a_gone)))
    (l_gone : K.lookup a_gone = some ⟨oc_gone, od_gone, .func (PySem.W.fnOf "gone" "gone" (defArgs s_gone) (defBody s_gone) (defScope s_gone) .none kV_gone dc_gone pm_gone an_gone cd_gone ct_gone), sl_gone⟩)
    (c_gone : PySem.W.codeIn K cd_gone "gone" = true)
    (k_gone : PySem.W.keepIn K (.ref a_gone) = true)
    (n_told_strip : PySem.W.nsIn K mainGlobals "told_strip" = some (some (.ref a_told_strip)))
    (l_told_strip : K.lookup a_told_strip = some ⟨oc_told_strip, od_told_strip, .func (PySem.W.fnOf "told_strip" "told_strip" (defArgs s_told_strip) (defBody s_told_strip) (defScope s_told_strip) .none kV_told_strip dc_told_strip pm_told_strip an_told_strip cd_told_strip ct_told_strip), sl_told_strip⟩)
    (c_told_strip : PySem.W.codeIn K cd_told_strip "told_strip" = true)
    (k_told_strip : PySem.W.keepIn K (.ref a_told_strip) = true)
    (n_Goer_setup : PySem.W.findIn K (.ref C_Goer) "setup" = some (some (.ref a_Goer_setup)))
    (i_Goer_setup : PySem.W.isFn K (.ref a_Goer_setup) = true)
    (l_Goer_setup : K.lookup a_Goer_setup = some ⟨oc_Goer_setup, od_Goer_setup, .func (PySem.W.fnOf "setup" "Goer.setup" (defArgs s_Goer_setup) (defBody s_Goer_setup) (defScope s_Goer_setup) .none kV_Goer_setup dc_Goer_setup pm_Goer_setup an_Goer_setup cd_Goer_setup ct_Goer_setup), sl_Goer_setup⟩)
    (c_Goer_setup : PySem.W.codeIn K cd_Goer_setup "Goer.setup" = true)
    (k_Goer_setup : PySem.W.keepIn K (.ref a_Goer_setup) = true)
    (n_run : PySem.W.nsIn K mainGlobals "run" = some (some (.ref a_run)))
    (l_run : K.lookup a_run = some ⟨oc_run, od_run, .func (PySem.W.fnOf "run" "run" (defArgs s_run) (defBody s_run) (defScope s_run) .none kV_run dc_run pm_run an_run cd_run ct_run), sl_run⟩)
    (c_run : PySem.W.codeIn K cd_run "run" = true)
    (k_run : PySem.W.keepIn K (.ref a_run) = true)
    (n_runs_of : PySem.W.nsIn K mainGlobals "runs_of" = some (some (.ref a_runs_of)))
    (l_runs_of : K.lookup a_runs_of = some ⟨oc_runs_of, od_runs_of, .func (PySem.W.fnOf "runs_of" "runs_of" (defArgs s_runs_of) (defBody s_runs_of) (defScope s_runs_of) .none kV_runs_of dc_runs_of pm_runs_of an_runs_of cd_runs_of ct_runs_of), sl_runs_of⟩)
    (c_runs_of : PySem.W.codeIn K cd_runs_of "runs_of" = true)
    (k_runs_of : PySem.W.keepIn K (.ref a_runs_of) = true)
    (n_L_so : PySem.W.nsIn K mainGlobals "_law_so" = some (some (.ref a_L_so)))
    (l_L_so : K.lookup a_L_so = some ⟨oc_L_so, od_L_so, .func (PySem.W.fnOf "_law_so" "_law_so" (defArgs s_L_so) (defBody s_L_so) (defScope s_L_so) .none kV_L_so dc_L_so pm_L_so an_L_so cd_L_so ct_L_so), sl_L_so⟩)
    (c_L_so : PySem.W.codeIn K cd_L_so "_law_so" = true)
    (k_L_so : PySem.W.keepIn K (.ref a_L_so) = true)
    (n_Strip_init : PySem.W.findIn K (.ref C_Strip) "__init__" = some (some (.ref a_Strip_init)))
    (i_Strip_init : PySem.W.isFn K (.ref a_Strip_init) = true)
    (l_Strip_init : K.lookup a_Strip_init = some ⟨oc_Strip_init, od_Strip_init, .func (PySem.W.fnOf "__init__" "Strip.__init__" (defArgs s_Strip_init) (defBody s_Strip_init) (defScope s_Strip_init) .none kV_Strip_init dc_Strip_init pm_Strip_init an_Strip_init cd_Strip_init ct_Strip_init), sl_Strip_init⟩)
    (c_Strip_init : PySem.W.codeIn K cd_Strip_init "Strip.__init__" = true)
    (k_Strip_init : PySem.W.keepIn K (.ref a_Strip_init) = true)
    (n_Strip_told : PySem.W.findIn K (.ref C_Strip) "told" = some (some (.ref a_Strip_told)))
    (i_Strip_told : PySem.W.isFn K (.ref a_Strip_told) = true)
    (l_Strip_told : K.lookup a_Strip_told = some ⟨oc_Strip_told, od_Strip_told, .func (PySem.W.fnOf "told" "Strip.told" (defArgs s_Strip_told) (defBody s_Strip_told) (defScope s_Strip_told) .none kV_Strip_told dc_Strip_told pm_Strip_told an_Strip_told cd_Strip_told ct_Strip_told), sl_Strip_told⟩)
    (c_Strip_told : PySem.W.codeIn K cd_Strip_told "Strip.told" = true)
    (k_Strip_told : PySem.W.keepIn K (.ref a_Strip_told) = true)
    (n_Strip_stride : PySem.W.findIn K (.ref C_Strip) "stride" = some (some (.ref a_Strip_stride)))
    (i_Strip_stride : PySem.W.isFn K (.ref a_Strip_stride) = true)
    (l_Strip_stride : K.lookup a_Strip_stride = some ⟨oc_Strip_stride, od_Strip_stride, .func (PySem.W.fnOf "stride" "Strip.stride" (defArgs s_Strip_stride) (defBody s_Strip_stride) (defScope s_Strip_stride) .none kV_Strip_stride dc_Strip_stride pm_Strip_stride an_Strip_stride cd_Strip_stride ct_Strip_stride), sl_Strip_stride⟩)
    (c_Strip_stride : PySem.W.codeIn K cd_Strip_stride "Strip.stride" = true)
    (k_Strip_stride : PySem.W.keepIn K (.ref a_Strip_stride) = true)
    (n_by_strides : PySem.W.nsIn K mainGlobals "by_strides" = some (some (.ref a_by_strides)))
    (l_by_strides : K.lookup a_by_strides = some ⟨oc_by_strides, od_by_strides, .func (PySem.W.fnOf "by_strides" "by_strides" (defArgs s_by_strides) (defBody s_by_strides) (defScope s_by_strides) .none kV_by_strides dc_by_strides pm_by_strides an_by_strides cd_by_strides ct_by_strides), sl_by_strides⟩)
    (c_by_strides : PySem.W.codeIn K cd_by_strides "by_strides" = true)
    (k_by_strides : PySem.W.keepIn K (.ref a_by_strides) = true)
    (n_L_copied : PySem.W.nsIn K mainGlobals "_law_copied" = some (some (.ref a_L_copied)))
    (l_L_copied : K.lookup a_L_copied = some ⟨oc_L_copied, od_L_copied, .func (PySem.W.fnOf "_law_copied" "_law_copied" (defArgs s_L_copied) (defBody s_L_copied) (defScope s_L_copied) .none kV_L_copied dc_L_copied pm_L_copied an_L_copied cd_L_copied ct_L_copied), sl_L_copied⟩)
    (c_L_copied : PySem.W.codeIn K cd_L_copied "_law_copied" = true)
    (k_L_copied : PySem.W.keepIn K (.ref a_L_copied) = true)
    (n_L_parted : PySem.W.nsIn K mainGlobals "_law_parted" = some (some (.ref a_L_parted)))
    (l_L_parted : K.lookup a_L_parted = some ⟨oc_L_parted, od_L_parted, .func (PySem.W.fnOf "_law_parted" "_law_parted" (defArgs s_L_parted) (defBody s_L_parted) (defScope s_L_parted) .none kV_L_parted dc_L_parted pm_L_parted an_L_parted cd_L_parted ct_L_parted), sl_L_parted⟩)
    (c_L_parted : PySem.W.codeIn K cd_L_parted "_law_parted" = true)
    (k_L_parted : PySem.W.keepIn K (.ref a_L_parted) = true)
    (n_law : PySem.W.nsIn K mainGlobals "law" = some (some (.ref a_law)))
    (l_law : K.lookup a_law = some ⟨oc_law, od_law, .func (PySem.W.fnOf "law" "law" (defArgs s_law) (defBody s_law) (defScope s_law) .none kV_law dc_law pm_law an_law cd_law ct_law), sl_law⟩)
    (c_law : PySem.W.codeIn K cd_law "law" = true)
    (k_law : PySem.W.keepIn K (.ref a_law) = true)
    (pg_Goer : PySem.W.plainGet K C_Goer Str.empty = true)
    (hd_Goer : PySem.W.hasDictIn K C_Goer = true)
    (po_Goer : PySem.W.plainOver K C_Goer = true)
    (sa_Goer : PySem.W.findIn K (.ref C_Goer) "__setattr__" = some (some (.builtin "object.__setattr__")))
    (mk_Goer : PySem.W.makesIn K C_Goer = true)
    (kc_Goer : PySem.W.keepIn K (.ref C_Goer) = true)
    (f_Goer_table : PySem.W.findIn K (.ref C_Goer) "table" = some none)
    (f_Goer_row : PySem.W.findIn K (.ref C_Goer) "row" = some none)
    (f_Goer_spot : PySem.W.findIn K (.ref C_Goer) "spot" = some none)
    (f_Goer_signs : PySem.W.findIn K (.ref C_Goer) "signs" = some none)
    (f_Goer_steps : PySem.W.findIn K (.ref C_Goer) "steps" = some none)
    (pg_Strip : PySem.W.plainGet K C_Strip Str.empty = true)
    (hd_Strip : PySem.W.hasDictIn K C_Strip = true)
    (po_Strip : PySem.W.plainOver K C_Strip = true)
    (sa_Strip : PySem.W.findIn K (.ref C_Strip) "__setattr__" = some (some (.builtin "object.__setattr__")))
    (mk_Strip : PySem.W.makesIn K C_Strip = true)
    (kc_Strip : PySem.W.keepIn K (.ref C_Strip) = true)
    (f_Strip_sides : PySem.W.findIn K (.ref C_Strip) "sides" = some none)
    (f_Strip_sign : PySem.W.findIn K (.ref C_Strip) "sign" = some none)
    (f_Strip_row : PySem.W.findIn K (.ref C_Strip) "row" = some none)
    (f_Strip_steps : PySem.W.findIn K (.ref C_Strip) "steps" = some none)
    (n_MOST_ROWS : PySem.W.nsIn K mainGlobals "MOST_ROWS" = some (some (.int 4 tk_MOST_ROWS)))
    (n_MOST_SIGNS : PySem.W.nsIn K mainGlobals "MOST_SIGNS" = some (some (.int 4 tk_MOST_SIGNS)))
    (z_len : PySem.W.nsIn K mainGlobals "len" = some none)
    (z_max : PySem.W.nsIn K mainGlobals "max" = some none)
    (z_int : PySem.W.nsIn K mainGlobals "int" = some none)
    (z_range : PySem.W.nsIn K mainGlobals "range" = some none)
    (z_all : PySem.W.nsIn K mainGlobals "all" = some none)
    (z_dict : PySem.W.nsIn K mainGlobals "dict" = some none)
    (z_sorted : PySem.W.nsIn K mainGlobals "sorted" = some none)
    (z_list : PySem.W.nsIn K mainGlobals "list" = some none) : Tx K mg where
  a_L_at := a_L_at
  fd_L_at := PySem.W.fnOf "_law_at" "_law_at" (defArgs s_L_at) (defBody s_L_at) (defScope s_L_at) .none kV_L_at dc_L_at pm_L_at an_L_at cd_L_at ct_L_at
  F_L_at := fun_mk l_L_at c_L_at k_L_at
  b_L_at := (fun_mk (st := s_L_at) l_L_at c_L_at k_L_at).binds (ps := ["_law_script", "_law_k"]) fun _ _ _ _ _ _ us hl => match us, hl with | [_, _], _ => rfl
  m_L_at := PySem.W.mg_of X G n_L_at
  a_L_purse := a_L_purse
  fd_L_purse := PySem.W.fnOf "_law_purse" "_law_purse" (defArgs s_L_purse) (defBody s_L_purse) (defScope s_L_purse) .none kV_L_purse dc_L_purse pm_L_purse an_L_purse cd_L_purse ct_L_purse
  F_L_purse := fun_mk l_L_purse c_L_purse k_L_purse
  b_L_purse := (fun_mk (st := s_L_purse) l_L_purse c_L_purse k_L_purse).binds (ps := ["_law_script", "_law_at_here"]) fun _ _ _ _ _ _ us hl => match us, hl with | [_, _], _ => rfl
  m_L_purse := PySem.W.mg_of X G n_L_purse
  a_L_mixed := a_L_mixed
  fd_L_mixed := PySem.W.fnOf "_law_mixed" "_law_mixed" (defArgs s_L_mixed) (defBody s_L_mixed) (defScope s_L_mixed) .none kV_L_mixed dc_L_mixed pm_L_mixed an_L_mixed cd_L_mixed ct_L_mixed
  F_L_mixed := fun_mk l_L_mixed c_L_mixed k_L_mixed
  b_L_mixed := (fun_mk (st := s_L_mixed) l_L_mixed c_L_mixed k_L_mixed).binds (ps := ["_law_cell", "_law_k"]) fun _ _ _ _ _ _ us hl => match us, hl with | [_, _], _ => rfl
  m_L_mixed := PySem.W.mg_of X G n_L_mixed
  a_L_draw := a_L_draw
  fd_L_draw := PySem.W.fnOf "_law_draw" "_law_draw" (defArgs s_L_draw) (defBody s_L_draw) (defScope s_L_draw) .none kV_L_draw dc_L_draw pm_L_draw an_L_draw cd_L_draw ct_L_draw
  F_L_draw := fun_mk l_L_draw c_L_draw k_L_draw
  b_L_draw := (fun_mk (st := s_L_draw) l_L_draw c_L_draw k_L_draw).binds (ps := ["_law_purse_here", "_law_out_of"]) fun _ _ _ _ _ _ us hl => match us, hl with | [_, _], _ => rfl
  m_L_draw := PySem.W.mg_of X G n_L_draw
  a_L_entry := a_L_entry
  fd_L_entry := PySem.W.fnOf "_law_entry" "_law_entry" (defArgs s_L_entry) (defBody s_L_entry) (defScope s_L_entry) .none kV_L_entry dc_L_entry pm_L_entry an_L_entry cd_L_entry ct_L_entry
  F_L_entry := fun_mk l_L_entry c_L_entry k_L_entry
  b_L_entry := (fun_mk (st := s_L_entry) l_L_entry c_L_entry k_L_entry).binds (ps := ["_law_purse_here", "_law_rows", "_law_signs", "_law_row", "_law_few"]) fun _ _ _ _ _ _ us hl => match us, hl with | [_, _, _, _, _], _ => rfl
  m_L_entry := PySem.W.mg_of X G n_L_entry
  a_L_machine := a_L_machine
  fd_L_machine := PySem.W.fnOf "_law_machine" "_law_machine" (defArgs s_L_machine) (defBody s_L_machine) (defScope s_L_machine) .none kV_L_machine dc_L_machine pm_L_machine an_L_machine cd_L_machine ct_L_machine
  F_L_machine := fun_mk l_L_machine c_L_machine k_L_machine
  b_L_machine := (fun_mk (st := s_L_machine) l_L_machine c_L_machine k_L_machine).binds (ps := ["_law_purse_here"]) fun _ _ _ _ _ _ us hl => match us, hl with | [_], _ => rfl
  m_L_machine := PySem.W.mg_of X G n_L_machine
  a_L_side := a_L_side
  fd_L_side := PySem.W.fnOf "_law_side" "_law_side" (defArgs s_L_side) (defBody s_L_side) (defScope s_L_side) .none kV_L_side dc_L_side pm_L_side an_L_side cd_L_side ct_L_side
  F_L_side := fun_mk l_L_side c_L_side k_L_side
  b_L_side := (fun_mk (st := s_L_side) l_L_side c_L_side k_L_side).binds (ps := ["_law_purse_here", "_law_signs", "_law_near_first"]) fun _ _ _ _ _ _ us hl => match us, hl with | [_, _, _], _ => rfl
  m_L_side := PySem.W.mg_of X G n_L_side
  a_L_runs := a_L_runs
  fd_L_runs := PySem.W.fnOf "_law_runs" "_law_runs" (defArgs s_L_runs) (defBody s_L_runs) (defScope s_L_runs) .none kV_L_runs dc_L_runs pm_L_runs an_L_runs cd_L_runs ct_L_runs
  F_L_runs := fun_mk l_L_runs c_L_runs k_L_runs
  b_L_runs := (fun_mk (st := s_L_runs) l_L_runs c_L_runs k_L_runs).binds (ps := ["_law_purse_here", "_law_signs"]) fun _ _ _ _ _ _ us hl => match us, hl with | [_, _], _ => rfl
  m_L_runs := PySem.W.mg_of X G n_L_runs
  a_is_entry := a_is_entry
  fd_is_entry := PySem.W.fnOf "is_entry" "is_entry" (defArgs s_is_entry) (defBody s_is_entry) (defScope s_is_entry) .none kV_is_entry dc_is_entry pm_is_entry an_is_entry cd_is_entry ct_is_entry
  F_is_entry := fun_mk l_is_entry c_is_entry k_is_entry
  b_is_entry := (fun_mk (st := s_is_entry) l_is_entry c_is_entry k_is_entry).binds (ps := ["entry", "rows", "signs"]) fun _ _ _ _ _ _ us hl => match us, hl with | [_, _, _], _ => rfl
  m_is_entry := PySem.W.mg_of X G n_is_entry
  a_is_machine := a_is_machine
  fd_is_machine := PySem.W.fnOf "is_machine" "is_machine" (defArgs s_is_machine) (defBody s_is_machine) (defScope s_is_machine) .none kV_is_machine dc_is_machine pm_is_machine an_is_machine cd_is_machine ct_is_machine
  F_is_machine := fun_mk l_is_machine c_is_machine k_is_machine
  b_is_machine := (fun_mk (st := s_is_machine) l_is_machine c_is_machine k_is_machine).binds (ps := ["machine"]) fun _ _ _ _ _ _ us hl => match us, hl with | [_], _ => rfl
  m_is_machine := PySem.W.mg_of X G n_is_machine
  a_must_machine := a_must_machine
  fd_must_machine := PySem.W.fnOf "must_machine" "must_machine" (defArgs s_must_machine) (defBody s_must_machine) (defScope s_must_machine) .none kV_must_machine dc_must_machine pm_must_machine an_must_machine cd_must_machine ct_must_machine
  F_must_machine := fun_mk l_must_machine c_must_machine k_must_machine
  b_must_machine := (fun_mk (st := s_must_machine) l_must_machine c_must_machine k_must_machine).binds (ps := ["machine"]) fun _ _ _ _ _ _ us hl => match us, hl with | [_], _ => rfl
  m_must_machine := PySem.W.mg_of X G n_must_machine
  a_Goer_init := a_Goer_init
  fd_Goer_init := PySem.W.fnOf "__init__" "Goer.__init__" (defArgs s_Goer_init) (defBody s_Goer_init) (defScope s_Goer_init) .none kV_Goer_init dc_Goer_init pm_Goer_init an_Goer_init cd_Goer_init ct_Goer_init
  F_Goer_init := fun_mk l_Goer_init c_Goer_init k_Goer_init
  b_Goer_init := (fun_mk (st := s_Goer_init) l_Goer_init c_Goer_init k_Goer_init).binds (ps := ["self", "machine", "setup"]) fun _ _ _ _ _ _ us hl => match us, hl with | [_, _, _], _ => rfl
  a_Goer_entry := a_Goer_entry
  fd_Goer_entry := PySem.W.fnOf "entry" "Goer.entry" (defArgs s_Goer_entry) (defBody s_Goer_entry) (defScope s_Goer_entry) .none kV_Goer_entry dc_Goer_entry pm_Goer_entry an_Goer_entry cd_Goer_entry ct_Goer_entry
  F_Goer_entry := fun_mk l_Goer_entry c_Goer_entry k_Goer_entry
  b_Goer_entry := (fun_mk (st := s_Goer_entry) l_Goer_entry c_Goer_entry k_Goer_entry).binds (ps := ["self"]) fun _ _ _ _ _ _ us hl => match us, hl with | [_], _ => rfl
  a_Goer_step := a_Goer_step
  fd_Goer_step := PySem.W.fnOf "step" "Goer.step" (defArgs s_Goer_step) (defBody s_Goer_step) (defScope s_Goer_step) .none kV_Goer_step dc_Goer_step pm_Goer_step an_Goer_step cd_Goer_step ct_Goer_step
  F_Goer_step := fun_mk l_Goer_step c_Goer_step k_Goer_step
  b_Goer_step := (fun_mk (st := s_Goer_step) l_Goer_step c_Goer_step k_Goer_step).binds (ps := ["self"]) fun _ _ _ _ _ _ us hl => match us, hl with | [_], _ => rfl
  a_put_run := a_put_run
  fd_put_run := PySem.W.fnOf "put_run" "put_run" (defArgs s_put_run) (defBody s_put_run) (defScope s_put_run) .none kV_put_run dc_put_run pm_put_run an_put_run cd_put_run ct_put_run
  F_put_run := fun_mk l_put_run c_put_run k_put_run
  b_put_run := (fun_mk (st := s_put_run) l_put_run c_put_run k_put_run).binds (ps := ["runs", "sign", "many"]) fun _ _ _ _ _ _ us hl => match us, hl with | [_, _, _], _ => rfl
  m_put_run := PySem.W.mg_of X G n_put_run
  a_taken := a_taken
  fd_taken := PySem.W.fnOf "taken" "taken" (defArgs s_taken) (defBody s_taken) (defScope s_taken) .none kV_taken dc_taken pm_taken an_taken cd_taken ct_taken
  F_taken := fun_mk l_taken c_taken k_taken
  b_taken := (fun_mk (st := s_taken) l_taken c_taken k_taken).binds (ps := ["runs"]) fun _ _ _ _ _ _ us hl => match us, hl with | [_], _ => rfl
  m_taken := PySem.W.mg_of X G n_taken
  a_Strip_step := a_Strip_step
  fd_Strip_step := PySem.W.fnOf "step" "Strip.step" (defArgs s_Strip_step) (defBody s_Strip_step) (defScope s_Strip_step) .none kV_Strip_step dc_Strip_step pm_Strip_step an_Strip_step cd_Strip_step ct_Strip_step
  F_Strip_step := fun_mk l_Strip_step c_Strip_step k_Strip_step
  b_Strip_step := (fun_mk (st := s_Strip_step) l_Strip_step c_Strip_step k_Strip_step).binds (ps := ["self", "put", "way", "row"]) fun _ _ _ _ _ _ us hl => match us, hl with | [_, _, _, _], _ => rfl
  a_gone := a_gone
  fd_gone := PySem.W.fnOf "gone" "gone" (defArgs s_gone) (defBody s_gone) (defScope s_gone) .none kV_gone dc_gone pm_gone an_gone cd_gone ct_gone
  F_gone := fun_mk l_gone c_gone k_gone
  b_gone := (fun_mk (st := s_gone) l_gone c_gone k_gone).binds (ps := ["machine", "most"]) fun _ _ _ _ _ _ us hl => match us, hl with | [_, _], _ => rfl
  m_gone := PySem.W.mg_of X G n_gone
  a_told_strip := a_told_strip
  fd_told_strip := PySem.W.fnOf "told_strip" "told_strip" (defArgs s_told_strip) (defBody s_told_strip) (defScope s_told_strip) .none kV_told_strip dc_told_strip pm_told_strip an_told_strip cd_told_strip ct_told_strip
  F_told_strip := fun_mk l_told_strip c_told_strip k_told_strip
  b_told_strip := (fun_mk (st := s_told_strip) l_told_strip c_told_strip k_told_strip).binds (ps := ["signs"]) fun _ _ _ _ _ _ us hl => match us, hl with | [_], _ => rfl
  m_told_strip := PySem.W.mg_of X G n_told_strip
  a_Goer_setup := a_Goer_setup
  fd_Goer_setup := PySem.W.fnOf "setup" "Goer.setup" (defArgs s_Goer_setup) (defBody s_Goer_setup) (defScope s_Goer_setup) .none kV_Goer_setup dc_Goer_setup pm_Goer_setup an_Goer_setup cd_Goer_setup ct_Goer_setup
  F_Goer_setup := fun_mk l_Goer_setup c_Goer_setup k_Goer_setup
  b_Goer_setup := (fun_mk (st := s_Goer_setup) l_Goer_setup c_Goer_setup k_Goer_setup).binds (ps := ["self"]) fun _ _ _ _ _ _ us hl => match us, hl with | [_], _ => rfl
  a_run := a_run
  fd_run := PySem.W.fnOf "run" "run" (defArgs s_run) (defBody s_run) (defScope s_run) .none kV_run dc_run pm_run an_run cd_run ct_run
  F_run := fun_mk l_run c_run k_run
  b_run := (fun_mk (st := s_run) l_run c_run k_run).binds (ps := ["machine", "most"]) fun _ _ _ _ _ _ us hl => match us, hl with | [_, _], _ => rfl
  m_run := PySem.W.mg_of X G n_run
  a_runs_of := a_runs_of
  fd_runs_of := PySem.W.fnOf "runs_of" "runs_of" (defArgs s_runs_of) (defBody s_runs_of) (defScope s_runs_of) .none kV_runs_of dc_runs_of pm_runs_of an_runs_of cd_runs_of ct_runs_of
  F_runs_of := fun_mk l_runs_of c_runs_of k_runs_of
  b_runs_of := (fun_mk (st := s_runs_of) l_runs_of c_runs_of k_runs_of).binds (ps := ["strip", "place"]) fun _ _ _ _ _ _ us hl => match us, hl with | [_, _], _ => rfl
  m_runs_of := PySem.W.mg_of X G n_runs_of
  a_L_so := a_L_so
  fd_L_so := PySem.W.fnOf "_law_so" "_law_so" (defArgs s_L_so) (defBody s_L_so) (defScope s_L_so) .none kV_L_so dc_L_so pm_L_so an_L_so cd_L_so ct_L_so
  F_L_so := fun_mk l_L_so c_L_so k_L_so
  b_L_so := (fun_mk (st := s_L_so) l_L_so c_L_so k_L_so).binds (ps := ["_law_machine_here", "_law_told"]) fun _ _ _ _ _ _ us hl => match us, hl with | [_, _], _ => rfl
  m_L_so := PySem.W.mg_of X G n_L_so
  a_Strip_init := a_Strip_init
  fd_Strip_init := PySem.W.fnOf "__init__" "Strip.__init__" (defArgs s_Strip_init) (defBody s_Strip_init) (defScope s_Strip_init) .none kV_Strip_init dc_Strip_init pm_Strip_init an_Strip_init cd_Strip_init ct_Strip_init
  F_Strip_init := fun_mk l_Strip_init c_Strip_init k_Strip_init
  b_Strip_init := (fun_mk (st := s_Strip_init) l_Strip_init c_Strip_init k_Strip_init).binds (ps := ["self", "row", "runs"]) fun _ _ _ _ _ _ us hl => match us, hl with | [_, _, _], _ => rfl
  a_Strip_told := a_Strip_told
  fd_Strip_told := PySem.W.fnOf "told" "Strip.told" (defArgs s_Strip_told) (defBody s_Strip_told) (defScope s_Strip_told) .none kV_Strip_told dc_Strip_told pm_Strip_told an_Strip_told cd_Strip_told ct_Strip_told
  F_Strip_told := fun_mk l_Strip_told c_Strip_told k_Strip_told
  b_Strip_told := (fun_mk (st := s_Strip_told) l_Strip_told c_Strip_told k_Strip_told).binds (ps := ["self"]) fun _ _ _ _ _ _ us hl => match us, hl with | [_], _ => rfl
  a_Strip_stride := a_Strip_stride
  fd_Strip_stride := PySem.W.fnOf "stride" "Strip.stride" (defArgs s_Strip_stride) (defBody s_Strip_stride) (defScope s_Strip_stride) .none kV_Strip_stride dc_Strip_stride pm_Strip_stride an_Strip_stride cd_Strip_stride ct_Strip_stride
  F_Strip_stride := fun_mk l_Strip_stride c_Strip_stride k_Strip_stride
  b_Strip_stride := (fun_mk (st := s_Strip_stride) l_Strip_stride c_Strip_stride k_Strip_stride).binds (ps := ["self", "put", "way"]) fun _ _ _ _ _ _ us hl => match us, hl with | [_, _, _], _ => rfl
  a_by_strides := a_by_strides
  fd_by_strides := PySem.W.fnOf "by_strides" "by_strides" (defArgs s_by_strides) (defBody s_by_strides) (defScope s_by_strides) .none kV_by_strides dc_by_strides pm_by_strides an_by_strides cd_by_strides ct_by_strides
  F_by_strides := fun_mk l_by_strides c_by_strides k_by_strides
  b_by_strides := (fun_mk (st := s_by_strides) l_by_strides c_by_strides k_by_strides).binds (ps := ["machine", "row", "runs", "many"]) fun _ _ _ _ _ _ us hl => match us, hl with | [_, _, _, _], _ => rfl
  m_by_strides := PySem.W.mg_of X G n_by_strides
  a_L_copied := a_L_copied
  fd_L_copied := PySem.W.fnOf "_law_copied" "_law_copied" (defArgs s_L_copied) (defBody s_L_copied) (defScope s_L_copied) .none kV_L_copied dc_L_copied pm_L_copied an_L_copied cd_L_copied ct_L_copied
  F_L_copied := fun_mk l_L_copied c_L_copied k_L_copied
  b_L_copied := (fun_mk (st := s_L_copied) l_L_copied c_L_copied k_L_copied).binds (ps := ["_law_runs_here"]) fun _ _ _ _ _ _ us hl => match us, hl with | [_], _ => rfl
  m_L_copied := PySem.W.mg_of X G n_L_copied
  a_L_parted := a_L_parted
  fd_L_parted := PySem.W.fnOf "_law_parted" "_law_parted" (defArgs s_L_parted) (defBody s_L_parted) (defScope s_L_parted) .none kV_L_parted dc_L_parted pm_L_parted an_L_parted cd_L_parted ct_L_parted
  F_L_parted := fun_mk l_L_parted c_L_parted k_L_parted
  b_L_parted := (fun_mk (st := s_L_parted) l_L_parted c_L_parted k_L_parted).binds (ps := ["_law_machine_here", "_law_row", "_law_runs_here", "_law_first", "_law_many"]) fun _ _ _ _ _ _ us hl => match us, hl with | [_, _, _, _, _], _ => rfl
  m_L_parted := PySem.W.mg_of X G n_L_parted
  a_law := a_law
  fd_law := PySem.W.fnOf "law" "law" (defArgs s_law) (defBody s_law) (defScope s_law) .none kV_law dc_law pm_law an_law cd_law ct_law
  F_law := fun_mk l_law c_law k_law
  b_law := (fun_mk (st := s_law) l_law c_law k_law).binds (ps := ["_law_script"]) fun _ _ _ _ _ _ us hl => match us, hl with | [_], _ => rfl
  m_law := PySem.W.mg_of X G n_law
  C_NoMachine := C_NoMachine
  m_NoMachine := PySem.W.mg_of X G n_NoMachine
  C_Goer := C_Goer
  m_Goer := PySem.W.mg_of X G n_Goer
  cl_Goer := ⟨pg_Goer, hd_Goer, po_Goer, sa_Goer⟩
  M_Goer := ⟨mk_Goer, n_Goer_init, i_Goer_init, kc_Goer⟩
  M_Goer_entry := ⟨n_Goer_entry, i_Goer_entry, k_Goer_entry⟩
  M_Goer_step := ⟨n_Goer_step, i_Goer_step, k_Goer_step⟩
  M_Goer_setup := ⟨n_Goer_setup, i_Goer_setup, k_Goer_setup⟩
  nA_Goer_table := f_Goer_table
  nA_Goer_row := f_Goer_row
  nA_Goer_spot := f_Goer_spot
  nA_Goer_signs := f_Goer_signs
  nA_Goer_steps := f_Goer_steps
  C_Strip := C_Strip
  m_Strip := PySem.W.mg_of X G n_Strip
  cl_Strip := ⟨pg_Strip, hd_Strip, po_Strip, sa_Strip⟩
  M_Strip := ⟨mk_Strip, n_Strip_init, i_Strip_init, kc_Strip⟩
  M_Strip_told := ⟨n_Strip_told, i_Strip_told, k_Strip_told⟩
  M_Strip_stride := ⟨n_Strip_stride, i_Strip_stride, k_Strip_stride⟩
  M_Strip_step := ⟨n_Strip_step, i_Strip_step, k_Strip_step⟩
  nA_Strip_sides := f_Strip_sides
  nA_Strip_sign := f_Strip_sign
  nA_Strip_row := f_Strip_row
  nA_Strip_steps := f_Strip_steps
  tk_MOST_ROWS := tk_MOST_ROWS
  m_MOST_ROWS := PySem.W.mg_of X G n_MOST_ROWS
  tk_MOST_SIGNS := tk_MOST_SIGNS
  m_MOST_SIGNS := PySem.W.mg_of X G n_MOST_SIGNS
  n_len := PySem.W.mg_none_of X G z_len
  n_max := PySem.W.mg_none_of X G z_max
  n_int := PySem.W.mg_none_of X G z_int
  n_range := PySem.W.mg_none_of X G z_range
  n_all := PySem.W.mg_none_of X G z_all
  n_dict := PySem.W.mg_none_of X G z_dict
  n_sorted := PySem.W.mg_none_of X G z_sorted
  n_list := PySem.W.mg_none_of X G z_list
theorem all_mk {l : PySem.W.OpenLaw} {w : World} {K : PySem.W.Frag} {h : Heap} {mg : Str → Option Value} {fa : Addr} (X : K.In h) (G : h.Ns mainGlobals mg) (hfa : mg "law" = some (.ref fa)) (t : Tx K mg)
    (hb : ∃ (kV dc pm : Value) (an : Option Addr) (cd ct : Value), t.fd_law = PySem.W.fnOf "law" "law" (defArgs s_law) (defBody s_law) (defScope s_law) .none kV dc pm an cd ct) :
    ∃ fd : FuncData, (∀ (s : Shared) (v : Value), BindsTo s fd ⟨[v], []⟩ [("_law_script", v)]) ∧ ∀ base : Heap, K.In base → base.Ns mainGlobals mg → FnOk l.prog w K mg base CX0 6 fa fd ["_law_script"] (sp_law K) := by
  have e := hfa.symm.trans t.m_law
  cases e
  refine ⟨t.fd_law, fun s v => ?_, fun base _ _ => ok_law t⟩
  obtain ⟨kV, dc, pm, an, cd, ct, e⟩ := hb
  rw [e]
  exact .of_eq rfl
theorem walk {l : PySem.W.OpenLaw} {q : Program} {loose : List Str} {XP : (Str → Option Value) → Heap → Prop} {YP : World → Heap → Prop} {d : DefRec} {K : Params → PySem.W.Frag} (hn : l.most = some 63) (hdf : d.params.defaults = [])
    (hY : ∀ (w : World) (h : Heap), YP w h → (K w.params).In h)
    (F : ∀ (w : World) (mg : Str → Option Value) (fa : Addr) (h : Heap), (K w.params).In h → h.Ns mainGlobals mg → mg d.name = some (.ref fa) →
      ∃ fd : FuncData, (∀ (s : Shared) (u : Value), BindsTo s fd ⟨[u], []⟩ [("_law_script", u)]) ∧ ∀ base : Heap, (K w.params).In base → base.Ns mainGlobals mg → FnOk l.prog w (K w.params) mg base CX0 6 fa fd ["_law_script"] (sp_law (K w.params))) :
    PySem.W.WalkO q loose XP YP l.row.toRowW d [] (fun f vs => PySem.call f vs) :=
  L2.walk_of (n := 63) (k := 6) (x := "_law_script") (CX := fun _ => CX0) (sp := fun w => sp_law (K w.params)) hn (by decide) hdf ⟨rfl, by decide, by decide⟩ hY F (fun _ _ a ns hl _ hS => ⟨a, ns, rfl, hS, hl, fun _ => rfl⟩) fun _ _ _ _ _ z => z
theorem all_go {l : PySem.W.OpenLaw} {w : World} {K : PySem.W.Frag} {h : Heap} {mg : Str → Option Value} {fa : Addr} {a_L_at a_L_purse a_L_mixed a_L_draw a_L_entry a_L_machine a_L_side a_L_runs a_is_entry a_is_machine a_must_machine a_Goer_init a_Goer_entry a_Goer_step a_put_run a_taken a_Strip_step a_gone a_told_strip a_Goer_setup a_run a_runs_of a_L_so a_Strip_init a_Strip_told a_Strip_stride a_by_strides a_L_copied a_L_parted a_law C_NoMachine C_Goer C_Strip : Addr} {od_L_at an_L_at od_L_purse an_L_purse od_L_mixed an_L_mixed od_L_draw an_L_draw od_L_entry an_L_entry od_L_machine an_L_machine od_L_side an_L_side od_L_runs an_L_runs od_is_entry an_is_entry od_is_machine an_is_machine od_must_machine an_must_machine od_Goer_init an_Goer_init od_Goer_entry an_Goer_entry od_Goer_step an_Goer_step od_put_run an_put_run od_taken an_taken od_Strip_step an_Strip_step od_gone an_gone od_told_strip an_told_strip od_Goer_setup an_Goer_setup od_run an_run od_runs_of an_runs_of od_L_so an_L_so od_Strip_init an_Strip_init od_Strip_told an_Strip_told od_Strip_stride an_Strip_stride od_by_strides an_by_strides od_L_copied an_L_copied od_L_parted an_L_parted od_law an_law : Option Addr} {sl_L_at sl_L_purse sl_L_mixed sl_L_draw sl_L_entry sl_L_machine sl_L_side sl_L_runs sl_is_entry sl_is_machine sl_must_machine sl_Goer_init sl_Goer_entry sl_Goer_step sl_put_run sl_taken sl_Strip_step sl_gone sl_told_strip sl_Goer_setup sl_run sl_runs_of sl_L_so sl_Strip_init sl_Strip_told sl_Strip_stride sl_by_strides sl_L_copied sl_L_parted sl_law : Array (Option Value)} {oc_L_at kV_L_at dc_L_at pm_L_at cd_L_at ct_L_at oc_L_purse kV_L_purse dc_L_purse pm_L_purse cd_L_purse ct_L_purse oc_L_mixed kV_L_mixed dc_L_mixed pm_L_mixed cd_L_mixed ct_L_mixed oc_L_draw kV_L_draw dc_L_draw pm_L_draw cd_L_draw ct_L_draw oc_L_entry kV_L_entry dc_L_entry pm_L_entry cd_L_entry ct_L_entry oc_L_machine kV_L_machine dc_L_machine pm_L_machine cd_L_machine ct_L_machine oc_L_side kV_L_side dc_L_side pm_L_side cd_L_side ct_L_side oc_L_runs kV_L_runs dc_L_runs pm_L_runs cd_L_runs ct_L_runs oc_is_entry kV_is_entry dc_is_entry pm_is_entry cd_is_entry ct_is_entry oc_is_machine kV_is_machine dc_is_machine pm_is_machine cd_is_machine ct_is_machine oc_must_machine kV_must_machine dc_must_machine pm_must_machine cd_must_machine ct_must_machine oc_Goer_init kV_Goer_init dc_Goer_init pm_Goer_init cd_Goer_init ct_Goer_init oc_Goer_entry kV_Goer_entry dc_Goer_entry pm_Goer_entry cd_Goer_entry ct_Goer_entry oc_Goer_step kV_Goer_step dc_Goer_step pm_Goer_step cd_Goer_step ct_Goer_step oc_put_run kV_put_run dc_put_run pm_put_run cd_put_run ct_put_run oc_taken kV_taken dc_taken pm_taken cd_taken ct_taken oc_Strip_step kV_Strip_step dc_Strip_step pm_Strip_step cd_Strip_step ct_Strip_step oc_gone kV_gone dc_gone pm_gone cd_gone ct_gone oc_told_strip kV_told_strip dc_told_strip pm_told_strip cd_told_strip ct_told_strip oc_Goer_setup kV_Goer_setup dc_Goer_setup pm_Goer_setup cd_Goer_setup ct_Goer_setup oc_run kV_run dc_run pm_run cd_run ct_run oc_runs_of kV_runs_of dc_runs_of pm_runs_of cd_runs_of ct_runs_of oc_L_so kV_L_so dc_L_so pm_L_so cd_L_so ct_L_so oc_Strip_init kV_Strip_init dc_Strip_init pm_Strip_init cd_Strip_init ct_Strip_init oc_Strip_told kV_Strip_told dc_Strip_told pm_Strip_told cd_Strip_told ct_Strip_told oc_Strip_stride kV_Strip_stride dc_Strip_stride pm_Strip_stride cd_Strip_stride ct_Strip_stride oc_by_strides kV_by_strides dc_by_strides pm_by_strides cd_by_strides ct_by_strides oc_L_copied kV_L_copied dc_L_copied pm_L_copied cd_L_copied ct_L_copied oc_L_parted kV_L_parted dc_L_parted pm_L_parted cd_L_parted ct_L_parted oc_law kV_law dc_law pm_law cd_law ct_law : Value} {tk_MOST_ROWS tk_MOST_SIGNS : Tok} (X : K.In h) (G : h.Ns mainGlobals mg) (hfa : mg "law" = some (.ref fa))
    (n_NoMachine : PySem.W.nsIn K mainGlobals "NoMachine" = some (some (.ref C_NoMachine)))
    (n_Goer : PySem.W.nsIn K mainGlobals "Goer" = some (some (.ref C_Goer)))
    (n_Strip : PySem.W.nsIn K mainGlobals "Strip" = some (some (.ref C_Strip)))
    (n_L_at : PySem.W.nsIn K mainGlobals "_law_at" = some (some (.ref a_L_at)))
    (l_L_at : K.lookup a_L_at = some ⟨oc_L_at, od_L_at, .func (PySem.W.fnOf "_law_at" "_law_at" (defArgs s_L_at) (defBody s_L_at) (defScope s_L_at) .none kV_L_at dc_L_at pm_L_at an_L_at cd_L_at ct_L_at), sl_L_at⟩)
    (c_L_at : PySem.W.codeIn K cd_L_at "_law_at" = true)
    (k_L_at : PySem.W.keepIn K (.ref a_L_at) = true)
    (n_L_purse : PySem.W.nsIn K mainGlobals "_law_purse" = some (some (.ref a_L_purse)))
    (l_L_purse : K.lookup a_L_purse = some ⟨oc_L_purse, od_L_purse, .func (PySem.W.fnOf "_law_purse" "_law_purse" (defArgs s_L_purse) (defBody s_L_purse) (defScope s_L_purse) .none kV_L_purse dc_L_purse pm_L_purse an_L_purse cd_L_purse ct_L_purse), sl_L_purse⟩)
    (c_L_purse : PySem.W.codeIn K cd_L_purse "_law_purse" = true)
    (k_L_purse : PySem.W.keepIn K (.ref a_L_purse) = true)
    (n_L_mixed : PySem.W.nsIn K mainGlobals "_law_mixed" = some (some (.ref a_L_mixed)))
    (l_L_mixed : K.lookup a_L_mixed = some ⟨oc_L_mixed, od_L_mixed, .func (PySem.W.fnOf "_law_mixed" "_law_mixed" (defArgs s_L_mixed) (defBody s_L_mixed) (defScope s_L_mixed) .none kV_L_mixed dc_L_mixed pm_L_mixed an_L_mixed cd_L_mixed ct_L_mixed), sl_L_mixed⟩)
    (c_L_mixed : PySem.W.codeIn K cd_L_mixed "_law_mixed" = true)
    (k_L_mixed : PySem.W.keepIn K (.ref a_L_mixed) = true)
    (n_L_draw : PySem.W.nsIn K mainGlobals "_law_draw" = some (some (.ref a_L_draw)))
    (l_L_draw : K.lookup a_L_draw = some ⟨oc_L_draw, od_L_draw, .func (PySem.W.fnOf "_law_draw" "_law_draw" (defArgs s_L_draw) (defBody s_L_draw) (defScope s_L_draw) .none kV_L_draw dc_L_draw pm_L_draw an_L_draw cd_L_draw ct_L_draw), sl_L_draw⟩)
    (c_L_draw : PySem.W.codeIn K cd_L_draw "_law_draw" = true)
    (k_L_draw : PySem.W.keepIn K (.ref a_L_draw) = true)
    (n_L_entry : PySem.W.nsIn K mainGlobals "_law_entry" = some (some (.ref a_L_entry)))
    (l_L_entry : K.lookup a_L_entry = some ⟨oc_L_entry, od_L_entry, .func (PySem.W.fnOf "_law_entry" "_law_entry" (defArgs s_L_entry) (defBody s_L_entry) (defScope s_L_entry) .none kV_L_entry dc_L_entry pm_L_entry an_L_entry cd_L_entry ct_L_entry), sl_L_entry⟩)
    (c_L_entry : PySem.W.codeIn K cd_L_entry "_law_entry" = true)
    (k_L_entry : PySem.W.keepIn K (.ref a_L_entry) = true)
    (n_L_machine : PySem.W.nsIn K mainGlobals "_law_machine" = some (some (.ref a_L_machine)))
    (l_L_machine : K.lookup a_L_machine = some ⟨oc_L_machine, od_L_machine, .func (PySem.W.fnOf "_law_machine" "_law_machine" (defArgs s_L_machine) (defBody s_L_machine) (defScope s_L_machine) .none kV_L_machine dc_L_machine pm_L_machine an_L_machine cd_L_machine ct_L_machine), sl_L_machine⟩)
    (c_L_machine : PySem.W.codeIn K cd_L_machine "_law_machine" = true)
    (k_L_machine : PySem.W.keepIn K (.ref a_L_machine) = true)
    (n_L_side : PySem.W.nsIn K mainGlobals "_law_side" = some (some (.ref a_L_side)))
    (l_L_side : K.lookup a_L_side = some ⟨oc_L_side, od_L_side, .func (PySem.W.fnOf "_law_side" "_law_side" (defArgs s_L_side) (defBody s_L_side) (defScope s_L_side) .none kV_L_side dc_L_side pm_L_side an_L_side cd_L_side ct_L_side), sl_L_side⟩)
    (c_L_side : PySem.W.codeIn K cd_L_side "_law_side" = true)
    (k_L_side : PySem.W.keepIn K (.ref a_L_side) = true)
    (n_L_runs : PySem.W.nsIn K mainGlobals "_law_runs" = some (some (.ref a_L_runs)))
    (l_L_runs : K.lookup a_L_runs = some ⟨oc_L_runs, od_L_runs, .func (PySem.W.fnOf "_law_runs" "_law_runs" (defArgs s_L_runs) (defBody s_L_runs) (defScope s_L_runs) .none kV_L_runs dc_L_runs pm_L_runs an_L_runs cd_L_runs ct_L_runs), sl_L_runs⟩)
    (c_L_runs : PySem.W.codeIn K cd_L_runs "_law_runs" = true)
    (k_L_runs : PySem.W.keepIn K (.ref a_L_runs) = true)
    (n_is_entry : PySem.W.nsIn K mainGlobals "is_entry" = some (some (.ref a_is_entry)))
    (l_is_entry : K.lookup a_is_entry = some ⟨oc_is_entry, od_is_entry, .func (PySem.W.fnOf "is_entry" "is_entry" (defArgs s_is_entry) (defBody s_is_entry) (defScope s_is_entry) .none kV_is_entry dc_is_entry pm_is_entry an_is_entry cd_is_entry ct_is_entry), sl_is_entry⟩)
    (c_is_entry : PySem.W.codeIn K cd_is_entry "is_entry" = true)
    (k_is_entry : PySem.W.keepIn K (.ref a_is_entry) = true)
    (n_is_machine : PySem.W.nsIn K mainGlobals "is_machine" = some (some (.ref a_is_machine)))
    (l_is_machine : K.lookup a_is_machine = some ⟨oc_is_machine, od_is_machine, .func (PySem.W.fnOf "is_machine" "is_machine" (defArgs s_is_machine) (defBody s_is_machine) (defScope s_is_machine) .none kV_is_machine dc_is_machine pm_is_machine an_is_machine cd_is_machine ct_is_machine), sl_is_machine⟩)
    (c_is_machine : PySem.W.codeIn K cd_is_machine "is_machine" = true)
    (k_is_machine : PySem.W.keepIn K (.ref a_is_machine) = true)
    (n_must_machine : PySem.W.nsIn K mainGlobals "must_machine" = some (some (.ref a_must_machine)))
    (l_must_machine : K.lookup a_must_machine = some ⟨oc_must_machine, od_must_machine, .func (PySem.W.fnOf "must_machine" "must_machine" (defArgs s_must_machine) (defBody s_must_machine) (defScope s_must_machine) .none kV_must_machine dc_must_machine pm_must_machine an_must_machine cd_must_machine ct_must_machine), sl_must_machine⟩)
    (c_must_machine : PySem.W.codeIn K cd_must_machine "must_machine" = true)
    (k_must_machine : PySem.W.keepIn K (.ref a_must_machine) = true)
    (n_Goer_init : PySem.W.findIn K (.ref C_Goer) "__init__" = some (some (.ref a_Goer_init)))
    (i_Goer_init : PySem.W.isFn K (.ref a_Goer_init) = true)
    (l_Goer_init : K.lookup a_Goer_init = some ⟨oc_Goer_init, od_Goer_init, .func (PySem.W.fnOf "__init__" "Goer.__init__" (defArgs s_Goer_init) (defBody s_Goer_init) (defScope s_Goer_init) .none kV_Goer_init dc_Goer_init pm_Goer_init an_Goer_init cd_Goer_init ct_Goer_init), sl_Goer_init⟩)
    (c_Goer_init : PySem.W.codeIn K cd_Goer_init "Goer.__init__" = true)
    (k_Goer_init : PySem.W.keepIn K (.ref a_Goer_init) = true)
    (n_Goer_entry : PySem.W.findIn K (.ref C_Goer) "entry" = some (some (.ref a_Goer_entry)))
    (i_Goer_entry : PySem.W.isFn K (.ref a_Goer_entry) = true)
    (l_Goer_entry : K.lookup a_Goer_entry = some ⟨oc_Goer_entry, od_Goer_entry, .func (PySem.W.fnOf "entry" "Goer.entry" (defArgs s_Goer_entry) (defBody s_Goer_entry) (defScope s_Goer_entry) .none kV_Goer_entry dc_Goer_entry pm_Goer_entry an_Goer_entry cd_Goer_entry ct_Goer_entry), sl_Goer_entry⟩)
    (c_Goer_entry : PySem.W.codeIn K cd_Goer_entry "Goer.entry" = true)
    (k_Goer_entry : PySem.W.keepIn K (.ref a_Goer_entry) = true)
    (n_Goer_step : PySem.W.findIn K (.ref C_Goer) "step" = some (some (.ref a_Goer_step)))
    (i_Goer_step : PySem.W.isFn K (.ref a_Goer_step) = true)
    (l_Goer_step : K.lookup a_Goer_step = some ⟨oc_Goer_step, od_Goer_step, .func (PySem.W.fnOf "step" "Goer.step" (defArgs s_Goer_step) (defBody s_Goer_step) (defScope s_Goer_step) .none kV_Goer_step dc_Goer_step pm_Goer_step an_Goer_step cd_Goer_step ct_Goer_step), sl_Goer_step⟩)
    (c_Goer_step : PySem.W.codeIn K cd_Goer_step "Goer.step" = true)
    (k_Goer_step : PySem.W.keepIn K (.ref a_Goer_step) = true)
    (n_put_run : PySem.W.nsIn K mainGlobals "put_run" = some (some (.ref a_put_run)))
    (l_put_run : K.lookup a_put_run = some ⟨oc_put_run, od_put_run, .func (PySem.W.fnOf "put_run" "put_run" (defArgs s_put_run) (defBody s_put_run) (defScope s_put_run) .none kV_put_run dc_put_run pm_put_run an_put_run cd_put_run ct_put_run), sl_put_run⟩)
    (c_put_run : PySem.W.codeIn K cd_put_run "put_run" = true)
    (k_put_run : PySem.W.keepIn K (.ref a_put_run) = true)
    (n_taken : PySem.W.nsIn K mainGlobals "taken" = some (some (.ref a_taken)))
    (l_taken : K.lookup a_taken = some ⟨oc_taken, od_taken, .func (PySem.W.fnOf "taken" "taken" (defArgs s_taken) (defBody s_taken) (defScope s_taken) .none kV_taken dc_taken pm_taken an_taken cd_taken ct_taken), sl_taken⟩)
    (c_taken : PySem.W.codeIn K cd_taken "taken" = true)
    (k_taken : PySem.W.keepIn K (.ref a_taken) = true)
    (n_Strip_step : PySem.W.findIn K (.ref C_Strip) "step" = some (some (.ref a_Strip_step)))
    (i_Strip_step : PySem.W.isFn K (.ref a_Strip_step) = true)
    (l_Strip_step : K.lookup a_Strip_step = some ⟨oc_Strip_step, od_Strip_step, .func (PySem.W.fnOf "step" "Strip.step" (defArgs s_Strip_step) (defBody s_Strip_step) (defScope s_Strip_step) .none kV_Strip_step dc_Strip_step pm_Strip_step an_Strip_step cd_Strip_step ct_Strip_step), sl_Strip_step⟩)
    (c_Strip_step : PySem.W.codeIn K cd_Strip_step "Strip.step" = true)
    (k_Strip_step : PySem.W.keepIn K (.ref a_Strip_step) = true)
    (n_gone : PySem.W.nsIn K mainGlobals "gone" = some (some (.ref a_gone)))
    (l_gone : K.lookup a_gone = some ⟨oc_gone, od_gone, .func (PySem.W.fnOf "gone" "gone" (defArgs s_gone) (defBody s_gone) (defScope s_gone) .none kV_gone dc_gone pm_gone an_gone cd_gone ct_gone), sl_gone⟩)
    (c_gone : PySem.W.codeIn K cd_gone "gone" = true)
    (k_gone : PySem.W.keepIn K (.ref a_gone) = true)
    (n_told_strip : PySem.W.nsIn K mainGlobals "told_strip" = some (some (.ref a_told_strip)))
    (l_told_strip : K.lookup a_told_strip = some ⟨oc_told_strip, od_told_strip, .func (PySem.W.fnOf "told_strip" "told_strip" (defArgs s_told_strip) (defBody s_told_strip) (defScope s_told_strip) .none kV_told_strip dc_told_strip pm_told_strip an_told_strip cd_told_strip ct_told_strip), sl_told_strip⟩)
    (c_told_strip : PySem.W.codeIn K cd_told_strip "told_strip" = true)
    (k_told_strip : PySem.W.keepIn K (.ref a_told_strip) = true)
    (n_Goer_setup : PySem.W.findIn K (.ref C_Goer) "setup" = some (some (.ref a_Goer_setup)))
    (i_Goer_setup : PySem.W.isFn K (.ref a_Goer_setup) = true)
    (l_Goer_setup : K.lookup a_Goer_setup = some ⟨oc_Goer_setup, od_Goer_setup, .func (PySem.W.fnOf "setup" "Goer.setup" (defArgs s_Goer_setup) (defBody s_Goer_setup) (defScope s_Goer_setup) .none kV_Goer_setup dc_Goer_setup pm_Goer_setup an_Goer_setup cd_Goer_setup ct_Goer_setup), sl_Goer_setup⟩)
    (c_Goer_setup : PySem.W.codeIn K cd_Goer_setup "Goer.setup" = true)
    (k_Goer_setup : PySem.W.keepIn K (.ref a_Goer_setup) = true)
    (n_run : PySem.W.nsIn K mainGlobals "run" = some (some (.ref a_run)))
    (l_run : K.lookup a_run = some ⟨oc_run, od_run, .func (PySem.W.fnOf "run" "run" (defArgs s_run) (defBody s_run) (defScope s_run) .none kV_run dc_run pm_run an_run cd_run ct_run), sl_run⟩)
    (c_run : PySem.W.codeIn K cd_run "run" = true)
    (k_run : PySem.W.keepIn K (.ref a_run) = true)
    (n_runs_of : PySem.W.nsIn K mainGlobals "runs_of" = some (some (.ref a_runs_of)))
    (l_runs_of : K.lookup a_runs_of = some ⟨oc_runs_of, od_runs_of, .func (PySem.W.fnOf "runs_of" "runs_of" (defArgs s_runs_of) (defBody s_runs_of) (defScope s_runs_of) .none kV_runs_of dc_runs_of pm_runs_of an_runs_of cd_runs_of ct_runs_of), sl_runs_of⟩)
    (c_runs_of : PySem.W.codeIn K cd_runs_of "runs_of" = true)
    (k_runs_of : PySem.W.keepIn K (.ref a_runs_of) = true)
    (n_L_so : PySem.W.nsIn K mainGlobals "_law_so" = some (some (.ref a_L_so)))
    (l_L_so : K.lookup a_L_so = some ⟨oc_L_so, od_L_so, .func (PySem.W.fnOf "_law_so" "_law_so" (defArgs s_L_so) (defBody s_L_so) (defScope s_L_so) .none kV_L_so dc_L_so pm_L_so an_L_so cd_L_so ct_L_so), sl_L_so⟩)
    (c_L_so : PySem.W.codeIn K cd_L_so "_law_so" = true)
    (k_L_so : PySem.W.keepIn K (.ref a_L_so) = true)
    (n_Strip_init : PySem.W.findIn K (.ref C_Strip) "__init__" = some (some (.ref a_Strip_init)))
    (i_Strip_init : PySem.W.isFn K (.ref a_Strip_init) = true)
    (l_Strip_init : K.lookup a_Strip_init = some ⟨oc_Strip_init, od_Strip_init, .func (PySem.W.fnOf "__init__" "Strip.__init__" (defArgs s_Strip_init) (defBody s_Strip_init) (defScope s_Strip_init) .none kV_Strip_init dc_Strip_init pm_Strip_init an_Strip_init cd_Strip_init ct_Strip_init), sl_Strip_init⟩)
    (c_Strip_init : PySem.W.codeIn K cd_Strip_init "Strip.__init__" = true)
    (k_Strip_init : PySem.W.keepIn K (.ref a_Strip_init) = true)
    (n_Strip_told : PySem.W.findIn K (.ref C_Strip) "told" = some (some (.ref a_Strip_told)))
    (i_Strip_told : PySem.W.isFn K (.ref a_Strip_told) = true)
    (l_Strip_told : K.lookup a_Strip_told = some ⟨oc_Strip_told, od_Strip_told, .func (PySem.W.fnOf "told" "Strip.told" (defArgs s_Strip_told) (defBody s_Strip_told) (defScope s_Strip_told) .none kV_Strip_told dc_Strip_told pm_Strip_told an_Strip_told cd_Strip_told ct_Strip_told), sl_Strip_told⟩)
    (c_Strip_told : PySem.W.codeIn K cd_Strip_told "Strip.told" = true)
    (k_Strip_told : PySem.W.keepIn K (.ref a_Strip_told) = true)
    (n_Strip_stride : PySem.W.findIn K (.ref C_Strip) "stride" = some (some (.ref a_Strip_stride)))
    (i_Strip_stride : PySem.W.isFn K (.ref a_Strip_stride) = true)
    (l_Strip_stride : K.lookup a_Strip_stride = some ⟨oc_Strip_stride, od_Strip_stride, .func (PySem.W.fnOf "stride" "Strip.stride" (defArgs s_Strip_stride) (defBody s_Strip_stride) (defScope s_Strip_stride) .none kV_Strip_stride dc_Strip_stride pm_Strip_stride an_Strip_stride cd_Strip_stride ct_Strip_stride), sl_Strip_stride⟩)
    (c_Strip_stride : PySem.W.codeIn K cd_Strip_stride "Strip.stride" = true)
    (k_Strip_stride : PySem.W.keepIn K (.ref a_Strip_stride) = true)
    (n_by_strides : PySem.W.nsIn K mainGlobals "by_strides" = some (some (.ref a_by_strides)))
    (l_by_strides : K.lookup a_by_strides = some ⟨oc_by_strides, od_by_strides, .func (PySem.W.fnOf "by_strides" "by_strides" (defArgs s_by_strides) (defBody s_by_strides) (defScope s_by_strides) .none kV_by_strides dc_by_strides pm_by_strides an_by_strides cd_by_strides ct_by_strides), sl_by_strides⟩)
    (c_by_strides : PySem.W.codeIn K cd_by_strides "by_strides" = true)
    (k_by_strides : PySem.W.keepIn K (.ref a_by_strides) = true)
    (n_L_copied : PySem.W.nsIn K mainGlobals "_law_copied" = some (some (.ref a_L_copied)))
    (l_L_copied : K.lookup a_L_copied = some ⟨oc_L_copied, od_L_copied, .func (PySem.W.fnOf "_law_copied" "_law_copied" (defArgs s_L_copied) (defBody s_L_copied) (defScope s_L_copied) .none kV_L_copied dc_L_copied pm_L_copied an_L_copied cd_L_copied ct_L_copied), sl_L_copied⟩)
    (c_L_copied : PySem.W.codeIn K cd_L_copied "_law_copied" = true)
    (k_L_copied : PySem.W.keepIn K (.ref a_L_copied) = true)
    (n_L_parted : PySem.W.nsIn K mainGlobals "_law_parted" = some (some (.ref a_L_parted)))
    (l_L_parted : K.lookup a_L_parted = some ⟨oc_L_parted, od_L_parted, .func (PySem.W.fnOf "_law_parted" "_law_parted" (defArgs s_L_parted) (defBody s_L_parted) (defScope s_L_parted) .none kV_L_parted dc_L_parted pm_L_parted an_L_parted cd_L_parted ct_L_parted), sl_L_parted⟩)
    (c_L_parted : PySem.W.codeIn K cd_L_parted "_law_parted" = true)
    (k_L_parted : PySem.W.keepIn K (.ref a_L_parted) = true)
    (n_law : PySem.W.nsIn K mainGlobals "law" = some (some (.ref a_law)))
    (l_law : K.lookup a_law = some ⟨oc_law, od_law, .func (PySem.W.fnOf "law" "law" (defArgs s_law) (defBody s_law) (defScope s_law) .none kV_law dc_law pm_law an_law cd_law ct_law), sl_law⟩)
    (c_law : PySem.W.codeIn K cd_law "law" = true)
    (k_law : PySem.W.keepIn K (.ref a_law) = true)
    (pg_Goer : PySem.W.plainGet K C_Goer Str.empty = true)
    (hd_Goer : PySem.W.hasDictIn K C_Goer = true)
    (po_Goer : PySem.W.plainOver K C_Goer = true)
    (sa_Goer : PySem.W.findIn K (.ref C_Goer) "__setattr__" = some (some (.builtin "object.__setattr__")))
    (mk_Goer : PySem.W.makesIn K C_Goer = true)
    (kc_Goer : PySem.W.keepIn K (.ref C_Goer) = true)
    (f_Goer_table : PySem.W.findIn K (.ref C_Goer) "table" = some none)
    (f_Goer_row : PySem.W.findIn K (.ref C_Goer) "row" = some none)
    (f_Goer_spot : PySem.W.findIn K (.ref C_Goer) "spot" = some none)
    (f_Goer_signs : PySem.W.findIn K (.ref C_Goer) "signs" = some none)
    (f_Goer_steps : PySem.W.findIn K (.ref C_Goer) "steps" = some none)
    (pg_Strip : PySem.W.plainGet K C_Strip Str.empty = true)
    (hd_Strip : PySem.W.hasDictIn K C_Strip = true)
    (po_Strip : PySem.W.plainOver K C_Strip = true)
    (sa_Strip : PySem.W.findIn K (.ref C_Strip) "__setattr__" = some (some (.builtin "object.__setattr__")))
    (mk_Strip : PySem.W.makesIn K C_Strip = true)
    (kc_Strip : PySem.W.keepIn K (.ref C_Strip) = true)
    (f_Strip_sides : PySem.W.findIn K (.ref C_Strip) "sides" = some none)
    (f_Strip_sign : PySem.W.findIn K (.ref C_Strip) "sign" = some none)
    (f_Strip_row : PySem.W.findIn K (.ref C_Strip) "row" = some none)
    (f_Strip_steps : PySem.W.findIn K (.ref C_Strip) "steps" = some none)
    (n_MOST_ROWS : PySem.W.nsIn K mainGlobals "MOST_ROWS" = some (some (.int 4 tk_MOST_ROWS)))
    (n_MOST_SIGNS : PySem.W.nsIn K mainGlobals "MOST_SIGNS" = some (some (.int 4 tk_MOST_SIGNS)))
    (z_len : PySem.W.nsIn K mainGlobals "len" = some none)
    (z_max : PySem.W.nsIn K mainGlobals "max" = some none)
    (z_int : PySem.W.nsIn K mainGlobals "int" = some none)
    (z_range : PySem.W.nsIn K mainGlobals "range" = some none)
    (z_all : PySem.W.nsIn K mainGlobals "all" = some none)
    (z_dict : PySem.W.nsIn K mainGlobals "dict" = some none)
    (z_sorted : PySem.W.nsIn K mainGlobals "sorted" = some none)
    (z_list : PySem.W.nsIn K mainGlobals "list" = some none) :
    ∃ fd : FuncData, (∀ (s : Shared) (v : Value), BindsTo s fd ⟨[v], []⟩ [("_law_script", v)]) ∧ ∀ base : Heap, K.In base → base.Ns mainGlobals mg → FnOk l.prog w K mg base CX0 6 fa fd ["_law_script"] (sp_law K) :=
  all_mk X G hfa (all_tx X G n_NoMachine n_Goer n_Strip n_L_at l_L_at c_L_at k_L_at n_L_purse l_L_purse c_L_purse k_L_purse n_L_mixed l_L_mixed c_L_mixed k_L_mixed n_L_draw l_L_draw c_L_draw k_L_draw n_L_entry l_L_entry c_L_entry k_L_entry n_L_machine l_L_machine c_L_machine k_L_machine n_L_side l_L_side c_L_side k_L_side n_L_runs l_L_runs c_L_runs k_L_runs n_is_entry l_is_entry c_is_entry k_is_entry n_is_machine l_is_machine c_is_machine k_is_machine n_must_machine l_must_machine c_must_machine k_must_machine n_Goer_init i_Goer_init l_Goer_init c_Goer_init k_Goer_init n_Goer_entry i_Goer_entry l_Goer_entry c_Goer_entry k_Goer_entry n_Goer_step i_Goer_step l_Goer_step c_Goer_step k_Goer_step n_put_run l_put_run c_put_run k_put_run n_taken l_taken c_taken k_taken n_Strip_step i_Strip_step l_Strip_step c_Strip_step k_Strip_step n_gone l_gone c_gone k_gone n_told_strip l_told_strip c_told_strip k_told_strip n_Goer_setup i_Goer_setup l_Goer_setup c_Goer_setup k_Goer_setup n_run l_run c_run k_run n_runs_of l_runs_of c_runs_of k_runs_of n_L_so l_L_so c_L_so k_L_so n_Strip_init i_Strip_init l_Strip_init c_Strip_init k_Strip_init n_Strip_told i_Strip_told l_Strip_told c_Strip_told k_Strip_told n_Strip_stride i_Strip_stride l_Strip_stride c_Strip_stride k_Strip_stride n_by_strides l_by_strides c_by_strides k_by_strides n_L_copied l_L_copied c_L_copied k_L_copied n_L_parted l_L_parted c_L_parted k_L_parted n_law l_law c_law k_law pg_Goer hd_Goer po_Goer sa_Goer mk_Goer kc_Goer f_Goer_table f_Goer_row f_Goer_spot f_Goer_signs f_Goer_steps pg_Strip hd_Strip po_Strip sa_Strip mk_Strip kc_Strip f_Strip_sides f_Strip_sign f_Strip_row f_Strip_steps n_MOST_ROWS n_MOST_SIGNS z_len z_max z_int z_range z_all z_dict z_sorted z_list) ⟨_, _, _, _, _, _, rfl⟩
end E
open PySem PySem.W PyProof.Rows
set_option maxRecDepth 100000 in
set_option maxHeartbeats 0 in
theorem PySem.Challenge.cw_endnever_k75_whole_strides_and_steps_holds : PySem.Challenge.rw_endnever_k75_whole_strides_and_steps.Holds := by
  w_on; o_law; k_head; (case hw => w_witness2)
  k_fill
  refine E.walk (l := PySem.Challenge.rw_endnever_k75_whole_strides_and_steps) rfl rfl (fun w h Y => PySem.W.kIn_of Y) ?F
  case F =>
    intro w mg fa h KX G hmg
    refine' E.all_go KX G hmg ?n_NoMachine ?n_Goer ?n_Strip ?n_L_at ?l_L_at ?c_L_at ?k_L_at ?n_L_purse ?l_L_purse ?c_L_purse ?k_L_purse ?n_L_mixed ?l_L_mixed ?c_L_mixed ?k_L_mixed ?n_L_draw ?l_L_draw ?c_L_draw ?k_L_draw ?n_L_entry ?l_L_entry ?c_L_entry ?k_L_entry ?n_L_machine ?l_L_machine ?c_L_machine ?k_L_machine ?n_L_side ?l_L_side ?c_L_side ?k_L_side ?n_L_runs ?l_L_runs ?c_L_runs ?k_L_runs ?n_is_entry ?l_is_entry ?c_is_entry ?k_is_entry ?n_is_machine ?l_is_machine ?c_is_machine ?k_is_machine ?n_must_machine ?l_must_machine ?c_must_machine ?k_must_machine ?n_Goer_init ?i_Goer_init ?l_Goer_init ?c_Goer_init ?k_Goer_init ?n_Goer_entry ?i_Goer_entry ?l_Goer_entry ?c_Goer_entry ?k_Goer_entry ?n_Goer_step ?i_Goer_step ?l_Goer_step ?c_Goer_step ?k_Goer_step ?n_put_run ?l_put_run ?c_put_run ?k_put_run ?n_taken ?l_taken ?c_taken ?k_taken ?n_Strip_step ?i_Strip_step ?l_Strip_step ?c_Strip_step ?k_Strip_step ?n_gone ?l_gone ?c_gone ?k_gone ?n_told_strip ?l_told_strip ?c_told_strip ?k_told_strip ?n_Goer_setup ?i_Goer_setup ?l_Goer_setup ?c_Goer_setup ?k_Goer_setup ?n_run ?l_run ?c_run ?k_run ?n_runs_of ?l_runs_of ?c_runs_of ?k_runs_of ?n_L_so ?l_L_so ?c_L_so ?k_L_so ?n_Strip_init ?i_Strip_init ?l_Strip_init ?c_Strip_init ?k_Strip_init ?n_Strip_told ?i_Strip_told ?l_Strip_told ?c_Strip_told ?k_Strip_told ?n_Strip_stride ?i_Strip_stride ?l_Strip_stride ?c_Strip_stride ?k_Strip_stride ?n_by_strides ?l_by_strides ?c_by_strides ?k_by_strides ?n_L_copied ?l_L_copied ?c_L_copied ?k_L_copied ?n_L_parted ?l_L_parted ?c_L_parted ?k_L_parted ?n_law ?l_law ?c_law ?k_law ?pg_Goer ?hd_Goer ?po_Goer ?sa_Goer ?mk_Goer ?kc_Goer ?f_Goer_table ?f_Goer_row ?f_Goer_spot ?f_Goer_signs ?f_Goer_steps ?pg_Strip ?hd_Strip ?po_Strip ?sa_Strip ?mk_Strip ?kc_Strip ?f_Strip_sides ?f_Strip_sign ?f_Strip_row ?f_Strip_steps ?n_MOST_ROWS ?n_MOST_SIGNS ?z_len ?z_max ?z_int ?z_range ?z_all ?z_dict ?z_sorted ?z_list
    (case n_NoMachine => k_is); (case n_Goer => k_is); (case n_Strip => k_is); (case n_L_at => k_is); (case l_L_at => k_is); (case c_L_at => k_is); (case k_L_at => k_is); (case n_L_purse => k_is)
    (case l_L_purse => k_is); (case c_L_purse => k_is); (case k_L_purse => k_is); (case n_L_mixed => k_is); (case l_L_mixed => k_is); (case c_L_mixed => k_is); (case k_L_mixed => k_is); (case n_L_draw => k_is)
    (case l_L_draw => k_is); (case c_L_draw => k_is); (case k_L_draw => k_is); (case n_L_entry => k_is); (case l_L_entry => k_is); (case c_L_entry => k_is); (case k_L_entry => k_is); (case n_L_machine => k_is)
    (case l_L_machine => k_is); (case c_L_machine => k_is); (case k_L_machine => k_is); (case n_L_side => k_is); (case l_L_side => k_is); (case c_L_side => k_is); (case k_L_side => k_is); (case n_L_runs => k_is)
    (case l_L_runs => k_is); (case c_L_runs => k_is); (case k_L_runs => k_is); (case n_is_entry => k_is); (case l_is_entry => k_is); (case c_is_entry => k_is); (case k_is_entry => k_is); (case n_is_machine => k_is)
    (case l_is_machine => k_is); (case c_is_machine => k_is); (case k_is_machine => k_is); (case n_must_machine => k_is); (case l_must_machine => k_is); (case c_must_machine => k_is); (case k_must_machine => k_is); (case n_Goer_init => k_is)
    (case i_Goer_init => k_is); (case l_Goer_init => k_is); (case c_Goer_init => k_is); (case k_Goer_init => k_is); (case n_Goer_entry => k_is); (case i_Goer_entry => k_is); (case l_Goer_entry => k_is); (case c_Goer_entry => k_is)
    (case k_Goer_entry => k_is); (case n_Goer_step => k_is); (case i_Goer_step => k_is); (case l_Goer_step => k_is); (case c_Goer_step => k_is); (case k_Goer_step => k_is); (case n_put_run => k_is); (case l_put_run => k_is)
    (case c_put_run => k_is); (case k_put_run => k_is); (case n_taken => k_is); (case l_taken => k_is); (case c_taken => k_is); (case k_taken => k_is); (case n_Strip_step => k_is); (case i_Strip_step => k_is)
    (case l_Strip_step => k_is); (case c_Strip_step => k_is); (case k_Strip_step => k_is); (case n_gone => k_is); (case l_gone => k_is); (case c_gone => k_is); (case k_gone => k_is); (case n_told_strip => k_is)
    (case l_told_strip => k_is); (case c_told_strip => k_is); (case k_told_strip => k_is); (case n_Goer_setup => k_is); (case i_Goer_setup => k_is); (case l_Goer_setup => k_is); (case c_Goer_setup => k_is); (case k_Goer_setup => k_is)
    (case n_run => k_is); (case l_run => k_is); (case c_run => k_is); (case k_run => k_is); (case n_runs_of => k_is); (case l_runs_of => k_is); (case c_runs_of => k_is); (case k_runs_of => k_is)
    (case n_L_so => k_is); (case l_L_so => k_is); (case c_L_so => k_is); (case k_L_so => k_is); (case n_Strip_init => k_is); (case i_Strip_init => k_is); (case l_Strip_init => k_is); (case c_Strip_init => k_is)
    (case k_Strip_init => k_is); (case n_Strip_told => k_is); (case i_Strip_told => k_is); (case l_Strip_told => k_is); (case c_Strip_told => k_is); (case k_Strip_told => k_is); (case n_Strip_stride => k_is); (case i_Strip_stride => k_is)
    (case l_Strip_stride => k_is); (case c_Strip_stride => k_is); (case k_Strip_stride => k_is); (case n_by_strides => k_is); (case l_by_strides => k_is); (case c_by_strides => k_is); (case k_by_strides => k_is); (case n_L_copied => k_is)
    (case l_L_copied => k_is); (case c_L_copied => k_is); (case k_L_copied => k_is); (case n_L_parted => k_is); (case l_L_parted => k_is); (case c_L_parted => k_is); (case k_L_parted => k_is); (case n_law => k_is)
    (case l_law => k_is); (case c_law => k_is); (case k_law => k_is); (case pg_Goer => k_is); (case hd_Goer => k_is); (case po_Goer => k_is); (case sa_Goer => k_is); (case mk_Goer => k_is)
    (case kc_Goer => k_is); (case f_Goer_table => k_is); (case f_Goer_row => k_is); (case f_Goer_spot => k_is); (case f_Goer_signs => k_is); (case f_Goer_steps => k_is); (case pg_Strip => k_is); (case hd_Strip => k_is)
    (case po_Strip => k_is); (case sa_Strip => k_is); (case mk_Strip => k_is); (case kc_Strip => k_is); (case f_Strip_sides => k_is); (case f_Strip_sign => k_is); (case f_Strip_row => k_is); (case f_Strip_steps => k_is)
    (case n_MOST_ROWS => k_is); (case n_MOST_SIGNS => k_is); (case z_len => k_is); (case z_max => k_is); (case z_int => k_is); (case z_range => k_is); (case z_all => k_is); (case z_dict => k_is)
    (case z_sorted => k_is); (case z_list => k_is)
#print axioms PySem.Challenge.cw_endnever_k75_whole_strides_and_steps_holds
