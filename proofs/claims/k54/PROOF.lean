import PyProof.Rows.All
import Wide.All
import OpenK.AllK
import Wide.FinOn
import HandS.ForMost
import HandS.SortRule
import HandS.IsInst
import HandS.TupAny
import HandS.TupMul
import HandS.Walk
import HandS.More
import HandS.ListItems
import HandS.Wide
import KE.KTupSum
import HandS.Style
import HandS.Deep
import HandS.SortInts
import KE.GoesMore
import KE.KDictKeyed
import KE.KeyNested
import KE.SortData
import KE.DataMinMax
import HandS.Conv
import PySem.Challenge.RW_endnever_k54_like_ones_and_groups
set_option Elab.async false
set_option maxRecDepth 100000
set_option maxHeartbeats 4000000
namespace E
open PySem L2
/-! ### small words of our own -/
theorem inr_int {x : V} {ns : List Int} {i : Nat} (h : (ns.map V.int)[i]? = some x) : ∃ z, x = V.int z ∧ ns[i]? = some z := by
  rw [List.getElem?_map] at h
  cases e : ns[i]? with
  | none => rw [e] at h; cases h
  | some z => rw [e] at h; exact ⟨z, (Option.some.inj h).symm, rfl⟩
/-- F stands in H, whatever comes to it -/
theorem sm_new {F H : Hp} {p : Addr} {o : HO} (s : Same F H) (n : H p = Option.none) : Same F (upd H p o) := fun b u e => by
  rw [upd_ne (ne_of_none (s b u e) n)]
  exact s b u e
theorem sm_set {F H : Hp} {p : Addr} {o : HO} (s : Same F H) (n : F p = Option.none) : Same F (upd H p o) := fun b u e => by
  rw [upd_ne (ne_of_none e n)]
  exact s b u e
theorem sm_up {H : Hp} {p : Addr} {o : HO} (n : H p = none) : Same H (upd H p o) := sm_new (Same.refl H) n
theorem cut_63 {ns : List Int} (h : ns.length ≤ 63) : cutV (ns.map V.int) none (some 63) = ns.map V.int := by
  unfold cutV
  have e1 : HT.sIx (ns.map V.int).length 0 none = 0 := rfl
  have e2 : HT.sIx (ns.map V.int).length (ns.map V.int).length (some 63) = (ns.map V.int).length := by
    simp only [HT.sIx, List.length_map]
    rw [if_neg (by decide), show (63 : Int).toNat = 63 from rfl]
    omega
  rw [e1, e2, List.drop_zero, Nat.sub_zero, List.take_length]
theorem ifT {c : Bool} {A B : Prop} (h : c = true) (a : A) : if c = true then A else B := by
  rw [if_pos h]; exact a
theorem ifF {c : Bool} {A B : Prop} (h : c = false) (b : B) : if c = true then A else B := by
  rw [h, if_neg Bool.false_ne_true]; exact b
theorem one_le : 1 ≤ sizeLine := by decide
theorem two_le : 2 ≤ sizeLine := by decide
theorem three_le : 3 ≤ sizeLine := by decide
theorem five_le : 5 ≤ sizeLine := by decide
theorem nil_le : 0 ≤ sizeLine := by decide
theorem lt_size {n : Nat} (h : n ≤ 1000000) : n < sizeLine := Nat.lt_of_le_of_lt h (by decide)
theorem le_size {n : Nat} (h : n ≤ 1000000) : n ≤ sizeLine := Nat.le_of_lt (lt_size h)
theorem pi_listK {X : Cx} {K : PySem.W.Frag} {tg l : Expr} {tl : TE} (e : X.K = K) (h : PE X l tl) : PI X tg l (iList K tl) := by
  subst e; exact pi_list h
theorem pi_tupK {X : Cx} {K : PySem.W.Frag} {tg l : Expr} {tl : TE} (e : X.K = K) (h : PE X l tl) : PI X tg l (iTup K tl) := by
  subst e; exact pi_tup h
theorem crK {X : Cx} {K : PySem.W.Frag} {f : Value} {r : PySem.W.Frag → List V → Hp → VK → Prop} (e : X.K = K) (h : CallR X f (r X.K)) : CallR X f (r K) := by
  subst e; exact h
theorem orK {X : Cx} {K : PySem.W.Frag} {f : Value → Value → Sem Value} {r : PySem.W.Frag → R2} (e : X.K = K) (h : OpR X f (r X.K)) : OpR X f (r K) := by
  subst e; exact h
theorem ixK {X : Cx} {K : PySem.W.Frag} {r : PySem.W.Frag → R2} (e : X.K = K) (h : IxR X (r X.K)) : IxR X (r K) := by
  subst e; exact h
theorem slK {X : Cx} {K : PySem.W.Frag} {r : PySem.W.Frag → V → Option Int → Option Int → Hp → VK → Prop} (e : X.K = K) (h : SlR X (r X.K)) : SlR X (r K) := by
  subst e; exact h
def rLenQ (K : PySem.W.Frag) : List V → Hp → VK → Prop := fun xs H Q => ∃ p ys, xs = [.ref p] ∧ (SqL K H p ys ∨ SqT K H p ys) ∧ Q (.int ys.length) H
def rListQ (K : PySem.W.Frag) : List V → Hp → VK → Prop := fun xs H Q => ∃ p ys, xs = [.ref p] ∧ (SqL K H p ys ∨ SqT K H p ys) ∧ ∀ l, H l = none → Q (.ref l) (upd H l (.lst ys))
def rTupQ (K : PySem.W.Frag) : List V → Hp → VK → Prop := fun xs H Q => ∃ p ys, xs = [.ref p] ∧ ((SqL K H p ys ∧ ∀ l, H l = none → Q (.ref l) (upd H l (.tup ys))) ∨ (SqT K H p ys ∧ Q (.ref p) H))
theorem ne_of_none' {F H : Hp} {q : Addr} (s : Same F H) (n : H q = none) : F q = none := s.free n
/-- a comprehension without a test: its item comes in -/
theorem yes {σ : St} {H : Hp} {A : Hp → Prop} {B : Hp → Prop} (a : A H) : tYes σ H (fun b H3 => if b = true then A H3 else B H3) := by
  show if true = true then A H else B H
  rw [if_pos rfl]; exact a
theorem call_lenQ {X : Cx} : CallR X (.builtin "len") (rLenQ X.K) := call_len_seq
theorem call_listQ {X : Cx} : CallR X (.type "list") (rListQ X.K) := call_list_of
theorem call_tupQ {X : Cx} : CallR X (.type "tuple") (rTupQ X.K) := call_tuple_of
@[irreducible] def rDictP (K : PySem.W.Frag) : List V → Hp → VK → Prop := fun xs H Q => ∃ (a : Addr) (ps : List Addr) (kvs : List (Key × V)), xs = [.ref a] ∧ SqL K H a (ps.map V.ref) ∧ Paired (fun p kv => SqT K H p [kV kv.1, kv.2]) ps kvs ∧ ∀ p, H p = none → Q (.ref p) (upd H p (.dK (mergeK [] kvs)))
theorem call_dictQ {X : Cx} (hc : X.calm = true) : CallR X (.type "dict") (rDictP X.K) := by
  unfold rDictP
  exact call_dictP hc
@[irreducible] def rSortQ (K : PySem.W.Frag) : List V → Hp → VK → Prop := rSortedPO K
theorem call_sortQ {X : Cx} : CallR X (.builtin "sorted") (rSortQ X.K) := by
  unfold rSortQ
  exact cr_sortedPO
theorem pg_tupK {X : Cx} {K : PySem.W.Frag} {es : List Expr} {k n : Nat} {t : TGs} {pos : Pos} (e : X.K = K) (hc : X.calm = true) (h : PGs X es t) (hn : (assignEach es X.env).length = n := by rfl) (hst : (assignEach es X.env).findIdx? (·.1) = none := by rfl) : PG X (.Tuple es k pos) (gTup K n t) := by
  subst e; exact pg_tup hc h hn hst
theorem pe_fldK {X : Cx} {K : PySem.W.Frag} {e : Expr} {f : Str} {pos : Pos} {ta : TE} (ek : X.K = K) (he : PE X e ta) (hb : attributeBase e f X.env (eval e X.env) = eval e X.env) : PE X (.Attribute e f pos) (tFld K ta f) := by
  subst ek; exact pe_fld he hb
/-! ### what stands, what is new: F the frozen part (nobody changes it), H the heap; from F, H to F', H' with changes at mu alone -/
structure Gr (mu : Addr → Prop) (F H F' H' : Hp) : Prop where
  ff : Same F F'
  fh : Same F' H'
  nw : ∀ c o, F' c = some o → F c = some o ∨ H c = none
  fr : ∀ c o, H c = some o → ¬ mu c → H' c = some o
  th : ∀ c, H' c = none → H c = none
/-- nothing but new things -/
abbrev mu0 : Addr → Prop := fun _ => False
/-- the purse alone -/
abbrev muP (p : Addr) : Addr → Prop := fun c => c = p
section
variable {mu : Addr → Prop} {F H F1 H1 F2 H2 : Hp} {q : Addr} {o u : HO}
theorem Gr.refl (s : Same F H) : Gr mu F H F H := ⟨fun _ _ h => h, s, fun _ _ h => .inl h, fun _ _ h _ => h, fun _ h => h⟩
theorem Gr.trans (a : Gr mu F H F1 H1) (b : Gr mu F1 H1 F2 H2) : Gr mu F H F2 H2 where
  ff := fun c o h => b.ff c o (a.ff c o h)
  fh := b.fh
  nw := fun c o h => by
    rcases b.nw c o h with h | h
    · exact a.nw c o h
    · exact .inr (a.th c h)
  fr := fun c o h m => b.fr c o (a.fr c o h m) m
  th := fun c h => a.th c (b.th c h)
/-- a part that changes what is ours, or what mu has -/
theorem Gr.thn {mu' : Addr → Prop} (a : Gr mu F H F1 H1) (b : Gr mu' F1 H1 F2 H2) (k : ∀ c, mu' c → mu c ∨ H c = none) : Gr mu F H F2 H2 where
  ff := fun c o h => b.ff c o (a.ff c o h)
  fh := b.fh
  nw := fun c o h => by
    rcases b.nw c o h with h | h
    · exact a.nw c o h
    · exact .inr (a.th c h)
  fr := fun c o h m => b.fr c o (a.fr c o h m) fun z => (k c z).elim m fun n => by rw [n] at h; cases h
  th := fun c h => a.th c (b.th c h)
theorem Gr.weak {mu' : Addr → Prop} (a : Gr mu F H F1 H1) (m : ∀ c, mu c → mu' c) : Gr mu' F H F1 H1 :=
  ⟨a.ff, a.fh, a.nw, fun c o h n => a.fr c o h fun z => n (m c z), a.th⟩
theorem Gr.of0 (a : Gr mu0 F H F1 H1) : Gr mu F H F1 H1 := a.weak fun _ z => z.elim
/-- a new thing that nobody will change -/
theorem Gr.new (a : Gr mu F H F1 H1) (n : H1 q = none) : Gr mu F H (upd F1 q o) (upd H1 q o) where
  ff := fun c o h => by
    rw [upd_ne (ne_of_none (a.fh c o (a.ff c o h)) n)]
    exact a.ff c o h
  fh := fun c u h => by
    by_cases e : c = q
    · subst e; rw [upd_same] at h ⊢; exact h
    · rw [upd_ne e] at h ⊢; exact a.fh c u h
  nw := fun c u h => by
    by_cases e : c = q
    · subst e; exact .inr (a.th _ n)
    · rw [upd_ne e] at h; exact a.nw c u h
  fr := fun c u h m => by
    rw [upd_ne (ne_of_none (a.fr c u h m) n)]
    exact a.fr c u h m
  th := fun c h => by
    by_cases e : c = q
    · subst e; rw [upd_same] at h; cases h
    · rw [upd_ne e] at h; exact a.th c h
/-- a new thing that may be changed yet -/
theorem Gr.own (a : Gr mu F H F1 H1) (n : H1 q = none) : Gr mu F H F1 (upd H1 q o) where
  ff := a.ff
  fh := fun c u h => by
    rw [upd_ne (ne_of_none (a.fh c u h) n)]
    exact a.fh c u h
  nw := a.nw
  fr := fun c u h m => by
    rw [upd_ne (ne_of_none (a.fr c u h m) n)]
    exact a.fr c u h m
  th := fun c h => by
    by_cases e : c = q
    · subst e; rw [upd_same] at h; cases h
    · rw [upd_ne e] at h; exact a.th c h
/-- a change of what is ours, and not frozen -/
theorem Gr.set (a : Gr mu F H F1 H1) (f : F1 q = none) (m : H q = none ∨ mu q) : Gr mu F H F1 (upd H1 q o) where
  ff := a.ff
  fh := fun c u h => by
    rw [upd_ne (ne_of_none h f)]
    exact a.fh c u h
  nw := a.nw
  fr := fun c u h k => by
    have e : c ≠ q := by
      rintro rfl
      rcases m with m | m
      · rw [m] at h; cases h
      · exact k m
    rw [upd_ne e]
    exact a.fr c u h k
  th := fun c h => by
    by_cases e : c = q
    · subst e; rw [upd_same] at h; cases h
    · rw [upd_ne e] at h; exact a.th c h
/-- what was ours is changed no more -/
theorem Gr.frz (a : Gr mu F H F1 H1) (h : H1 q = some o) (n : H q = none) (f : F1 q = none) : Gr mu F H (upd F1 q o) H1 where
  ff := fun c u e => by
    rw [upd_ne (ne_of_none (a.ff c u e) f)]
    exact a.ff c u e
  fh := fun c u e => by
    by_cases k : c = q
    · subst k; rw [upd_same] at e; cases e; exact h
    · rw [upd_ne k] at e; exact a.fh c u e
  nw := fun c u e => by
    by_cases k : c = q
    · subst k; exact .inr n
    · rw [upd_ne k] at e; exact a.nw c u e
  fr := a.fr
  th := a.th
theorem Gr.free (a : Gr mu F H F1 H1) (n : H1 q = none) : F1 q = none := a.fh.free n
end
/-- an owned thing: new since H, not frozen, it is o now -/
structure Ow (H F H1 : Hp) (q : Addr) (o : HO) : Prop where
  n : H q = none
  f : F q = none
  h : H1 q = some o
section
variable {mu mu' : Addr → Prop} {H0 F H F1 H1 : Hp} {q r : Addr} {o u : HO}
theorem Ow.call (w : Ow H0 F H q o) (a : Gr mu F H F1 H1) (m : ¬ mu q) : Ow H0 F1 H1 q o :=
  ⟨w.n, (by
    cases e : F1 q with
    | none => rfl
    | some z =>
      rcases a.nw q z e with k | k
      · rw [w.f] at k; cases k
      · rw [w.h] at k; cases k), a.fr q o w.h m⟩
theorem Ow.ne (w : Ow H0 F H q o) (n : H r = none) : q ≠ r := ne_of_none w.h n
theorem Ow.new (w : Ow H0 F H q o) (n : H r = none) : Ow H0 (upd F r u) (upd H r u) q o :=
  ⟨w.n, by rw [upd_ne (w.ne n)]; exact w.f, by rw [upd_ne (w.ne n)]; exact w.h⟩
theorem Ow.own (w : Ow H0 F H q o) (n : H r = none) : Ow H0 F (upd H r u) q o :=
  ⟨w.n, w.f, by rw [upd_ne (w.ne n)]; exact w.h⟩
theorem Ow.mk1 (a : Gr mu H0' H0 F H) (n : H q = none) : Ow H0 F (upd H q o) q o := ⟨a.th q n, a.free n, upd_same⟩
theorem Ow.set (w : Ow H0 F H q o) : Ow H0 F (upd H q u) q u := ⟨w.n, w.f, upd_same⟩
theorem Ow.other (w : Ow H0 F H q o) (e : q ≠ r) : Ow H0 F (upd H r u) q o := ⟨w.n, w.f, by rw [upd_ne e]; exact w.h⟩
end
/-! ### what stands for a datum -/
def All2 {α β : Type} (r : α → β → Prop) (xs : List α) (ys : List β) : Prop := xs.length = ys.length ∧ ∀ (i : Nat) (x : α) (y : β), xs[i]? = some x → ys[i]? = some y → r x y
section
variable {α β : Type} {r s : α → β → Prop} {xs xs' : List α} {ys ys' : List β}
theorem All2.nil : All2 r [] [] := ⟨rfl, fun i x y h => by simp at h⟩
theorem All2.get (a : All2 r xs ys) {i : Nat} {y : β} (h : ys[i]? = some y) : ∃ x, xs[i]? = some x ∧ r x y := by
  have l := (List.getElem?_eq_some_iff.mp h).1
  have l' : i < xs.length := by rw [a.1]; exact l
  exact ⟨xs[i], List.getElem?_eq_getElem l', a.2 i _ y (List.getElem?_eq_getElem l') h⟩
theorem All2.get' (a : All2 r xs ys) {i : Nat} {x : α} (h : xs[i]? = some x) : ∃ y, ys[i]? = some y ∧ r x y := by
  have l := (List.getElem?_eq_some_iff.mp h).1
  have l' : i < ys.length := by rw [← a.1]; exact l
  exact ⟨ys[i], List.getElem?_eq_getElem l', a.2 i x _ h (List.getElem?_eq_getElem l')⟩
theorem All2.imp (a : All2 r xs ys) (f : ∀ x y, r x y → s x y) : All2 s xs ys := ⟨a.1, fun i x y h k => f x y (a.2 i x y h k)⟩
theorem All2.app (a : All2 r xs ys) (b : All2 r xs' ys') : All2 r (xs ++ xs') (ys ++ ys') := by
  refine ⟨by rw [List.length_append, List.length_append, a.1, b.1], fun i x y h k => ?_⟩
  by_cases l : i < xs.length
  · rw [List.getElem?_append_left l] at h
    rw [List.getElem?_append_left (by rw [← a.1]; exact l)] at k
    exact a.2 i x y h k
  · rw [List.getElem?_append_right (by omega)] at h
    rw [List.getElem?_append_right (by rw [← a.1]; omega), ← a.1] at k
    exact b.2 _ x y h k
theorem All2.one {x : α} {y : β} (h : r x y) : All2 r [x] [y] := ⟨rfl, fun i a b p q => by
  cases i with
  | zero => simp at p q; subst p; subst q; exact h
  | succ n => simp at p⟩
theorem All2.cons {x : α} {y : β} (h : r x y) (a : All2 r xs ys) : All2 r (x :: xs) (y :: ys) := (All2.one h).app a
theorem All2.set (a : All2 r xs ys) {x : α} {y : β} (h : r x y) (j : Nat) : All2 r (xs.set j x) (ys.set j y) := by
  refine ⟨by rw [List.length_set, List.length_set]; exact a.1, fun i u v p q => ?_⟩
  by_cases e : j = i
  · subst e
    rw [List.getElem?_set_self'] at p q
    cases e1 : xs[j]? with
    | none => rw [e1] at p; cases p
    | some z =>
      cases e2 : ys[j]? with
      | none => rw [e2] at q; cases q
      | some z2 =>
        rw [e1] at p; rw [e2] at q
        cases p; cases q
        exact h
  · rw [List.getElem?_set_ne e] at p q
    exact a.2 i u v p q
theorem All2.take (a : All2 r xs ys) (n : Nat) : All2 r (xs.take n) (ys.take n) := by
  refine ⟨by rw [List.length_take, List.length_take, a.1], fun i u v p q => ?_⟩
  rw [List.getElem?_take] at p q
  split at p
  · rw [if_pos (by assumption)] at q; exact a.2 i u v p q
  · cases p
theorem All2.drop (a : All2 r xs ys) (n : Nat) : All2 r (xs.drop n) (ys.drop n) := by
  refine ⟨by rw [List.length_drop, List.length_drop, a.1], fun i u v p q => ?_⟩
  rw [List.getElem?_drop] at p q
  exact a.2 _ u v p q
end
class Dat (α : Type) where
  rep : Hp → V → α → Prop
  mono : ∀ {H H' : Hp} {v : V} {d : α}, Same H H' → rep H v d → rep H' v d
  py : α → PyData
  dp : ∀ {K : PySem.W.Frag} {H : Hp} {v : V} {d : α}, rep H v d → Dp K H v (py d)
  can : ∀ d, (py d).canLay0 = true
  dep : Nat
  depth : ∀ d, (py d).depth ≤ dep
  eqv : ∀ a b, PyData.eqv (py a) (py b) = true ↔ a = b
section
variable {α β γ : Type}
/-- v stands for d in H -/
abbrev Is [Dat α] (H : Hp) (v : V) (d : α) : Prop := Dat.rep H v d
theorem Is.up [Dat α] {H H' : Hp} {v : V} {d : α} (h : Is H v d) (s : Same H H') : Is H' v d := Dat.mono s h
abbrev IsAll [Dat α] (H : Hp) (xs : List V) (ds : List α) : Prop := All2 (fun v d => Is H v d) xs ds
theorem IsAll.up [Dat α] {H H' : Hp} {xs : List V} {ds : List α} (h : IsAll H xs ds) (s : Same H H') : IsAll H' xs ds := h.imp fun _ _ z => Is.up z s
theorem dp_all [Dat α] {K : PySem.W.Frag} {H : Hp} : ∀ {xs : List V} {ds : List α}, IsAll H xs ds → DpAll K H xs (ds.map Dat.py)
  | [], [], _ => .nil
  | [], d :: ds, h => by have := h.1; simp at this
  | x :: xs, [], h => by have := h.1; simp at this
  | x :: xs, d :: ds, h => .cons (Dat.dp (h.2 0 x d rfl rfl)) (dp_all ⟨by have := h.1; simpa using this, fun i a b p q => h.2 (i + 1) a b (by simpa using p) (by simpa using q)⟩)
theorem can_all [Dat α] : ∀ ds : List α, PyData.canLayAll0 (ds.map Dat.py) = true
  | [] => rfl
  | d :: ds => by
    show (PyData.canLay0 (Dat.py d) && PyData.canLayAll0 (ds.map Dat.py)) = true
    rw [Dat.can, can_all ds]; rfl
theorem depth_all [Dat α] : ∀ ds : List α, PyData.depthAll (ds.map Dat.py) ≤ Dat.dep α
  | [] => Nat.zero_le _
  | d :: ds => by
    show max (PyData.depth (Dat.py d)) (PyData.depthAll (ds.map Dat.py)) ≤ _
    exact Nat.max_le.mpr ⟨Dat.depth d, depth_all ds⟩
theorem eqv_all [Dat α] : ∀ a b : List α, PyData.eqvAll (a.map Dat.py) (b.map Dat.py) = true ↔ a = b
  | [], [] => by simp [PyData.eqvAll]
  | [], _ :: _ => by simp [PyData.eqvAll]
  | _ :: _, [] => by simp [PyData.eqvAll]
  | x :: xs, y :: ys => by
    rw [List.map_cons, List.map_cons, PyData.eqvAll, Bool.and_eq_true, Dat.eqv, eqv_all xs ys, List.cons.injEq]
instance : Dat Int where
  rep := fun _ v i => v = .int i
  mono := fun _ h => h
  py := .int
  dp := fun h => h ▸ .int _
  can := fun _ => rfl
  dep := 0
  depth := fun _ => Nat.le_refl _
  eqv := fun a b => by simp [PyData.eqv]
instance : Dat Bool where
  rep := fun _ v i => v = .bl i
  mono := fun _ h => h
  py := .bool
  dp := fun h => h ▸ .bl _
  can := fun _ => rfl
  dep := 0
  depth := fun _ => Nat.le_refl _
  eqv := fun a b => by simp [PyData.eqv]
/-- a list of data -/
instance [Dat α] : Dat (List α) where
  rep := fun H v l => ∃ a xs, v = .ref a ∧ H a = some (.lst xs) ∧ IsAll H xs l
  mono := fun s h => by
    obtain ⟨a, xs, e, h, i⟩ := h
    exact ⟨a, xs, e, s _ _ h, IsAll.up i s⟩
  py := fun l => .list (l.map Dat.py)
  dp := fun h => by
    obtain ⟨a, xs, rfl, h, i⟩ := h
    exact .lst (SqL.of h) (dp_all i)
  can := fun d => can_all d
  dep := Dat.dep α + 1
  depth := fun d => Nat.succ_le_succ (depth_all d)
  eqv := fun a b => by rw [PyData.eqv]; exact eqv_all a b
/-- a tuple of data of one kind -/
structure Tup (α : Type) where
  l : List α
  deriving DecidableEq
instance [Dat α] : Dat (Tup α) where
  rep := fun H v l => ∃ a xs, v = .ref a ∧ H a = some (.tup xs) ∧ IsAll H xs l.l
  mono := fun s h => by
    obtain ⟨a, xs, e, h, i⟩ := h
    exact ⟨a, xs, e, s _ _ h, IsAll.up i s⟩
  py := fun l => .tuple (l.l.map Dat.py)
  dp := fun h => by
    obtain ⟨a, xs, rfl, h, i⟩ := h
    exact .tup (SqT.of h) (dp_all i)
  can := fun d => can_all d.l
  dep := Dat.dep α + 1
  depth := fun d => Nat.succ_le_succ (depth_all d.l)
  eqv := fun a b => by
    rw [PyData.eqv, eqv_all]
    obtain ⟨a⟩ := a; obtain ⟨b⟩ := b
    simp
/-- a pair; a triple -/
structure T2 (α β : Type) where
  a : α
  b : β
  deriving DecidableEq
structure T3 (α β γ : Type) where
  a : α
  b : β
  c : γ
  deriving DecidableEq
instance [Dat α] [Dat β] : Dat (T2 α β) where
  rep := fun H v d => ∃ p x y, v = .ref p ∧ H p = some (.tup [x, y]) ∧ Is H x d.a ∧ Is H y d.b
  mono := fun s h => by
    obtain ⟨p, x, y, e, h, i, j⟩ := h
    exact ⟨p, x, y, e, s _ _ h, Is.up i s, Is.up j s⟩
  py := fun d => .tuple [Dat.py d.a, Dat.py d.b]
  dp := fun h => by
    obtain ⟨p, x, y, rfl, h, i, j⟩ := h
    exact .tup (SqT.of h) (.cons (Dat.dp i) (.cons (Dat.dp j) .nil))
  can := fun d => by
    show (PyData.canLay0 (Dat.py d.a) && (PyData.canLay0 (Dat.py d.b) && true)) = true
    rw [Dat.can, Dat.can]; rfl
  dep := max (Dat.dep α) (Dat.dep β) + 1
  depth := fun d => by
    have h1 := Dat.depth d.a
    have h2 := Dat.depth d.b
    show max (PyData.depth (Dat.py d.a)) (max (PyData.depth (Dat.py d.b)) 0) + 1 ≤ _
    omega
  eqv := fun a b => by
    obtain ⟨a, a'⟩ := a; obtain ⟨b, b'⟩ := b
    simp [PyData.eqv, PyData.eqvAll, Dat.eqv]
instance [Dat α] [Dat β] [Dat γ] : Dat (T3 α β γ) where
  rep := fun H v d => ∃ p x y z, v = .ref p ∧ H p = some (.tup [x, y, z]) ∧ Is H x d.a ∧ Is H y d.b ∧ Is H z d.c
  mono := fun s h => by
    obtain ⟨p, x, y, z, e, h, i, j, k⟩ := h
    exact ⟨p, x, y, z, e, s _ _ h, Is.up i s, Is.up j s, Is.up k s⟩
  py := fun d => .tuple [Dat.py d.a, Dat.py d.b, Dat.py d.c]
  dp := fun h => by
    obtain ⟨p, x, y, z, rfl, h, i, j, k⟩ := h
    exact .tup (SqT.of h) (.cons (Dat.dp i) (.cons (Dat.dp j) (.cons (Dat.dp k) .nil)))
  can := fun d => by
    show (PyData.canLay0 (Dat.py d.a) && (PyData.canLay0 (Dat.py d.b) && (PyData.canLay0 (Dat.py d.c) && true))) = true
    rw [Dat.can, Dat.can, Dat.can]; rfl
  dep := max (Dat.dep α) (max (Dat.dep β) (Dat.dep γ)) + 1
  depth := fun d => by
    have h1 := Dat.depth d.a
    have h2 := Dat.depth d.b
    have h3 := Dat.depth d.c
    show max (PyData.depth (Dat.py d.a)) (max (PyData.depth (Dat.py d.b)) (max (PyData.depth (Dat.py d.c)) 0)) + 1 ≤ _
    omega
  eqv := fun a b => by
    obtain ⟨a, a', a''⟩ := a; obtain ⟨b, b', b''⟩ := b
    simp [PyData.eqv, PyData.eqvAll, Dat.eqv]
/-- None, or a datum that is a tuple or a list -/
class Big (α : Type) [Dat α] : Prop where
  big : ∀ d : α, (∃ l, Dat.py d = .tuple l) ∨ ∃ l, Dat.py d = .list l
instance [Dat α] : Big (List α) := ⟨fun d => .inr ⟨_, rfl⟩⟩
instance [Dat α] : Big (Tup α) := ⟨fun d => .inl ⟨_, rfl⟩⟩
instance [Dat α] [Dat β] : Big (T2 α β) := ⟨fun d => .inl ⟨_, rfl⟩⟩
instance [Dat α] [Dat β] [Dat γ] : Big (T3 α β γ) := ⟨fun d => .inl ⟨_, rfl⟩⟩
instance [Dat α] [Big α] : Dat (Option α) where
  rep := fun H v d => match d with
    | none => v = .non
    | some d => Is H v d
  mono := fun {H H' v d} s h => by
    cases d with
    | none => exact h
    | some d => exact Is.up (show Is H v d from h) s
  py := fun d => match d with
    | none => .none
    | some d => Dat.py d
  dp := fun {K H v d} h => by
    cases d with
    | none => cases h; exact .non
    | some d => exact Dat.dp (show Is H v d from h)
  can := fun d => by
    cases d with
    | none => rfl
    | some d => exact Dat.can d
  dep := Dat.dep α
  depth := fun d => by
    cases d with
    | none => exact Nat.zero_le _
    | some d => exact Dat.depth d
  eqv := fun a b => by
    cases a with
    | none =>
      cases b with
      | none => exact ⟨fun _ => rfl, fun _ => rfl⟩
      | some b =>
        refine ⟨fun h => ?_, fun h => nomatch h⟩
        have h : PyData.eqv .none (Dat.py b) = true := h
        rcases Big.big b with ⟨l, e⟩ | ⟨l, e⟩ <;> (rw [e] at h; simp only [PyData.eqv] at h; cases h)
    | some a =>
      cases b with
      | none =>
        refine ⟨fun h => ?_, fun h => nomatch h⟩
        have h : PyData.eqv (Dat.py a) .none = true := h
        rcases Big.big a with ⟨l, e⟩ | ⟨l, e⟩ <;> (rw [e] at h; simp only [PyData.eqv] at h; cases h)
      | some b =>
        show PyData.eqv (Dat.py a) (Dat.py b) = true ↔ _
        rw [Dat.eqv, Option.some.injEq]
end
/-- == and != of data -/
theorem eq_dat0 {α : Type} [Dat α] [DecidableEq α] {a b : α} (hd : Dat.dep α ≤ 64) : SeqAt.shaped (Dat.py a) = true ∧ SeqAt.shaped (Dat.py b) = true ∧ PyData.eqv (Dat.py a) (Dat.py b) = decide (a = b) := by
  refine ⟨?_, ?_, ?_⟩
  · show (PyData.canLay0 _ && decide _) = true
    rw [Dat.can, decide_eq_true (Nat.le_trans (Dat.depth a) hd)]; rfl
  · show (PyData.canLay0 _ && decide _) = true
    rw [Dat.can, decide_eq_true (Nat.le_trans (Dat.depth b) hd)]; rfl
  · rw [Bool.eq_iff_iff, Dat.eqv, decide_eq_true_iff]
theorem eq_dat {α : Type} [Dat α] [DecidableEq α] {K : PySem.W.Frag} {H : Hp} {x y : V} {a b : α} {Q : VK} (ha : Is H x a) (hb : Is H y b) (q : Q (.bl (decide (a = b))) H) (hd : Dat.dep α ≤ 64 := by decide) : rEqD K x y H Q := by
  obtain ⟨h1, h2, h3⟩ := eq_dat0 (a := a) (b := b) hd
  exact ⟨Dat.py a, Dat.py b, Dat.dp ha, Dat.dp hb, h1, h2, by rw [h3]; exact q⟩
theorem ne_dat {α : Type} [Dat α] [DecidableEq α] {K : PySem.W.Frag} {H : Hp} {x y : V} {a b : α} {Q : VK} (ha : Is H x a) (hb : Is H y b) (q : Q (.bl (!decide (a = b))) H) (hd : Dat.dep α ≤ 64 := by decide) : rNeD K x y H Q := by
  obtain ⟨h1, h2, h3⟩ := eq_dat0 (a := a) (b := b) hd
  exact ⟨Dat.py a, Dat.py b, Dat.dp ha, Dat.dp hb, h1, h2, by rw [h3]; exact q⟩
/-! ### machines -/
/-- an entry -/
inductive Ent where
  | emp
  | go (put way row : Int)
  deriving DecidableEq
def entO : Ent → HO
  | .emp => .tup []
  | .go p w r => .tup [.int p, .int w, .int r]
def entP : Ent → PyData
  | .emp => .tuple []
  | .go p w r => .tuple [.int p, .int w, .int r]
instance : Dat Ent where
  rep := fun H v e => ∃ a, v = .ref a ∧ H a = some (entO e)
  mono := fun s h => by obtain ⟨a, e, h⟩ := h; exact ⟨a, e, s _ _ h⟩
  py := entP
  dp := fun {K H v d} h => by
    obtain ⟨a, rfl, h⟩ := h
    cases d with
    | emp => exact .tup (SqT.of h) .nil
    | go p w r => exact .tup (SqT.of h) (.cons (.int _) (.cons (.int _) (.cons (.int _) .nil)))
  can := fun d => by cases d <;> rfl
  dep := 1
  depth := fun d => by cases d <;> simp [entP, PyData.depth, PyData.depthAll]
  eqv := fun a b => by cases a <;> cases b <;> simp [entP, PyData.eqv, PyData.eqvAll]
instance : Big Ent := ⟨fun d => by cases d <;> exact .inl ⟨_, rfl⟩⟩
abbrev Mach := List (List Ent)
/-! ### pairs of ints: a dict's items, sorted ones -/
abbrev PI := T2 Int Int
def dI (l : List PI) : List (Key × V) := l.map fun p => (Sum.inl p.a, V.int p.b)
def look (l : List PI) (x : Int) : Option Int := (l.find? fun p => decide (p.a = x)).map (·.b)
def put (l : List PI) (x v : Int) : List PI := if (l.any fun p => decide (p.a = x)) = true then l.map (fun p => if p.a = x then ⟨p.a, v⟩ else p) else l ++ [⟨x, v⟩]
def merge (l m : List PI) : List PI := m.foldl (fun acc p => put acc p.a p.b) l
theorem key_inl (a b : Int) : ((Sum.inl a : Key) = Sum.inl b) = (a = b) := propext ⟨Sum.inl.inj, fun h => by rw [h]⟩
theorem dI_val (x : Int) : ∀ l : List PI, valV (dI l) (Sum.inl x) = (look l x).map V.int
  | [] => rfl
  | p :: l => by
    have ih := dI_val x l
    show valV ((Sum.inl p.a, V.int p.b) :: dI l) (Sum.inl x) = _
    by_cases e : p.a = x
    · rw [valV_pos (by rw [key_inl]; exact e)]
      simp [look, e]
    · rw [valV_neg (by rw [key_inl]; exact e), ih]
      simp [look, e]
theorem dI_put (l : List PI) (x v : Int) : putK (dI l) (Sum.inl x) (.int v) = dI (put l x v) := by
  have e : ((dI l).any fun kv => decide (kv.1 = Sum.inl x)) = (l.any fun p => decide (p.a = x)) := by
    unfold dI
    rw [List.any_map]
    congr 1
    funext p
    simp only [Function.comp, key_inl]
  unfold putK put
  rw [e]
  by_cases a : (l.any fun p => decide (p.a = x)) = true
  · rw [if_pos a, if_pos a]
    unfold dI
    rw [List.map_map, List.map_map]
    congr 1
    funext p
    simp only [Function.comp, key_inl]
    by_cases h : p.a = x
    · rw [if_pos h, if_pos h]
    · rw [if_neg h, if_neg h]
  · rw [if_neg a, if_neg a]
    unfold dI
    rw [List.map_append]
    rfl
theorem dI_merge (m : List PI) : ∀ l : List PI, mergeK (dI l) (dI m) = dI (merge l m) := by
  induction m with
  | nil => intro l; rfl
  | cons p m ih =>
    intro l
    show mergeK (putK (dI l) (Sum.inl p.a) (.int p.b)) (dI m) = dI (merge (put l p.a p.b) m)
    rw [dI_put]
    exact ih _
theorem look_nil (x : Int) : look [] x = none := rfl
theorem look_cons (p : PI) (l : List PI) (x : Int) : look (p :: l) x = if p.a = x then some p.b else look l x := by
  unfold look
  rw [List.find?_cons]
  by_cases e : p.a = x
  · simp [e]
  · simp [e]
theorem look_any (x : Int) : ∀ l : List PI, (l.any fun p => decide (p.a = x)) = (look l x).isSome
  | [] => rfl
  | p :: l => by
    rw [List.any_cons, look_any x l, look_cons]
    by_cases e : p.a = x
    · simp [e]
    · simp [e]
theorem look_map (x y v : Int) : ∀ l : List PI, look (l.map fun p => if p.a = x then ⟨p.a, v⟩ else p) y = (look l y).map fun z => if y = x then v else z
  | [] => rfl
  | p :: l => by
    rw [List.map_cons, look_cons, look_cons, look_map x y v l]
    by_cases e : p.a = x
    · rw [if_pos e]
      by_cases f : p.a = y
      · rw [if_pos f, if_pos f]
        rw [← f, Option.map_some, if_pos e]
      · rw [if_neg f, if_neg f]
    · rw [if_neg e]
      by_cases f : p.a = y
      · rw [if_pos f, if_pos f, Option.map_some, if_neg (by rw [← f]; exact e)]
      · rw [if_neg f, if_neg f]
theorem look_app (l m : List PI) (x : Int) : look (l ++ m) x = (look l x).or (look m x) := by
  induction l with
  | nil => rfl
  | cons p l ih =>
    rw [List.cons_append, look_cons, look_cons, ih]
    by_cases e : p.a = x
    · rw [if_pos e, if_pos e]; rfl
    · rw [if_neg e, if_neg e]
theorem look_put (l : List PI) (x v y : Int) : look (put l x v) y = if y = x then some v else look l y := by
  unfold put
  by_cases a : (l.any fun p => decide (p.a = x)) = true
  · rw [if_pos a, look_map]
    by_cases e : y = x
    · rw [if_pos e, e]
      rw [look_any] at a
      obtain ⟨z, hz⟩ := Option.isSome_iff_exists.mp a
      rw [hz, Option.map_some, if_pos rfl]
    · rw [if_neg e]
      cases look l y with
      | none => rfl
      | some z => rw [Option.map_some, if_neg e]
  · rw [if_neg a, look_app]
    rw [look_any] at a
    by_cases e : y = x
    · rw [if_pos e, e]
      cases h : look l x with
      | none => rw [look_cons, if_pos rfl]; rfl
      | some z => rw [h] at a; exact absurd rfl a
    · rw [if_neg e, look_cons, if_neg (fun z => e z.symm), look_nil]
      cases look l y <;> rfl
/-- no place twice -/
def Nd (l : List PI) : Prop := (l.map (·.a)).Nodup
theorem look_none {l : List PI} {x : Int} : look l x = none ↔ x ∉ l.map (·.a) := by
  induction l with
  | nil => simp [look_nil]
  | cons p l ih =>
    rw [look_cons, List.map_cons, List.mem_cons]
    by_cases e : p.a = x
    · rw [if_pos e]; simp [e]
    · rw [if_neg e, ih]
      constructor
      · intro h z
        rcases z with z | z
        · exact e z.symm
        · exact h z
      · intro h z
        exact h (.inr z)
theorem look_mem {l : List PI} (h : Nd l) {p : PI} (m : p ∈ l) : look l p.a = some p.b := by
  induction l with
  | nil => cases m
  | cons q l ih =>
    have h' := List.nodup_cons.mp h
    rw [look_cons]
    rcases List.mem_cons.mp m with rfl | m
    · rw [if_pos rfl]
    · rw [if_neg (fun e => h'.1 (by show q.a ∈ _; rw [e]; exact List.mem_map.mpr ⟨p, m, rfl⟩))]
      exact ih h'.2 m
theorem mem_look {l : List PI} {x v : Int} (h : look l x = some v) : (⟨x, v⟩ : PI) ∈ l := by
  induction l with
  | nil => cases h
  | cons q l ih =>
    rw [look_cons] at h
    by_cases e : q.a = x
    · rw [if_pos e] at h
      cases h
      subst e
      exact List.mem_cons_self
    · rw [if_neg e] at h
      exact List.mem_cons_of_mem _ (ih h)
theorem nd_put {l : List PI} (h : Nd l) (x v : Int) : Nd (put l x v) := by
  unfold put
  by_cases a : (l.any fun p => decide (p.a = x)) = true
  · rw [if_pos a]
    unfold Nd
    rw [List.map_map]
    have e : ((fun p : PI => p.a) ∘ fun p : PI => if p.a = x then (⟨p.a, v⟩ : PI) else p) = fun p : PI => p.a := by
      funext p
      simp only [Function.comp]
      split <;> rfl
    rw [e]; exact h
  · rw [if_neg a]
    unfold Nd
    rw [List.map_append]
    refine nd_snoc h ?_
    rw [look_any] at a
    refine look_none.mp ?_
    cases q : look l x with
    | none => rfl
    | some z => rw [q] at a; exact absurd rfl a
theorem put_new {l : List PI} {x : Int} (v : Int) (h : look l x = none) : put l x v = l ++ [⟨x, v⟩] := by
  unfold put
  rw [look_any, h]
  rfl
theorem merge_nd {m : List PI} : ∀ {l : List PI}, Nd (l ++ m) → merge l m = l ++ m := by
  induction m with
  | nil => intro l _; simp [merge]
  | cons p m ih =>
    intro l h
    have e : l ++ p :: m = (l ++ [p]) ++ m := by simp
    have hn : look l p.a = none := by
      refine look_none.mpr fun z => ?_
      unfold Nd at h
      rw [List.map_append] at h
      exact (List.nodup_append.mp h).2.2 _ z _ (by rw [List.map_cons]; exact List.mem_cons_self) rfl
    show merge (put l p.a p.b) m = _
    rw [put_new _ hn, e]
    exact ih (by rw [← e]; exact h)
theorem nd_nil : Nd [] := List.nodup_nil
theorem put_len (l : List PI) (x v : Int) : (put l x v).length ≤ l.length + 1 := by
  unfold put
  split
  · rw [List.length_map]; omega
  · rw [List.length_append]; exact Nat.le_refl _
/-- Python's order of pairs -/
def leP (p q : PI) : Bool := decide (p.a < q.a) || (decide (p.a = q.a) && decide (p.b ≤ q.b))
theorem leP_iff {p q : PI} : leP p q = true ↔ p.a < q.a ∨ (p.a = q.a ∧ p.b ≤ q.b) := by simp [leP]
def ins (p : PI) : List PI → List PI
  | [] => [p]
  | q :: l => if leP p q = true then p :: q :: l else q :: ins p l
def srt (l : List PI) : List PI := l.foldr ins []
theorem ins_perm (p : PI) : ∀ l : List PI, (ins p l).Perm (p :: l)
  | [] => List.Perm.refl _
  | q :: l => by
    unfold ins
    split
    · exact List.Perm.refl _
    · exact (List.Perm.cons q (ins_perm p l)).trans (List.Perm.swap p q l)
theorem srt_perm : ∀ l : List PI, (srt l).Perm l
  | [] => List.Perm.refl _
  | p :: l => (ins_perm p (srt l)).trans ((srt_perm l).cons p)
abbrev LeP (p q : PI) : Prop := leP p q = true
theorem leP_trans {p q r : PI} (h1 : LeP p q) (h2 : LeP q r) : LeP p r := by
  have a := leP_iff.mp h1
  have b := leP_iff.mp h2
  exact leP_iff.mpr (by omega)
theorem leP_total (p q : PI) : LeP p q ∨ LeP q p := by
  show leP p q = true ∨ leP q p = true
  rw [leP_iff, leP_iff]
  omega
theorem ins_srt (p : PI) : ∀ {l : List PI}, l.Pairwise LeP → (ins p l).Pairwise LeP
  | [], _ => List.pairwise_singleton _ _
  | q :: l, h => by
    have h' := List.pairwise_cons.mp h
    unfold ins
    split
    · rename_i e
      refine List.pairwise_cons.mpr ⟨fun x m => ?_, h⟩
      rcases List.mem_cons.mp m with rfl | m
      · exact e
      · exact leP_trans e (h'.1 x m)
    · rename_i e
      refine List.pairwise_cons.mpr ⟨fun x m => ?_, ins_srt p h'.2⟩
      rcases List.mem_cons.mp ((ins_perm p l).mem_iff.mp m) with rfl | m
      · rcases leP_total q x with z | z
        · exact z
        · exact absurd z e
      · exact h'.1 x m
theorem srt_srt : ∀ l : List PI, (srt l).Pairwise LeP
  | [] => List.Pairwise.nil
  | p :: l => ins_srt p (srt_srt l)
theorem leP_anti {p q : PI} (h1 : LeP p q) (h2 : LeP q p) : p = q := by
  have a := leP_iff.mp h1
  have b := leP_iff.mp h2
  obtain ⟨x, y⟩ := p
  obtain ⟨x', y'⟩ := q
  have e1 : x = x' := by show x = x'; simp only at a b; omega
  have e2 : y = y' := by simp only at a b; omega
  rw [e1, e2]
/-- there is one sorted list of them -/
theorem srt_uniq : ∀ {l m : List PI}, l.Pairwise LeP → m.Pairwise LeP → l.Perm m → l = m
  | [], m, _, _, h => (List.Perm.eq_nil h.symm).symm
  | x :: l, [], _, _, h => absurd h.length_eq (by simp)
  | x :: l, y :: m, hl, hm, h => by
    have l' := List.pairwise_cons.mp hl
    have m' := List.pairwise_cons.mp hm
    have h1 : LeP y x := by
      rcases List.mem_cons.mp (h.mem_iff.mp (List.mem_cons_self (a := x) (l := l))) with e | z
      · rw [e]; rcases leP_total y y with z | z <;> exact z
      · exact m'.1 x z
    have h2 : LeP x y := by
      rcases List.mem_cons.mp (h.mem_iff.mpr (List.mem_cons_self (a := y) (l := m))) with e | z
      · rw [e]; rcases leP_total x x with z | z <;> exact z
      · exact l'.1 y z
    have e := leP_anti h2 h1
    subst e
    rw [srt_uniq l'.2 m'.2 h.cons_inv]
theorem srt_of {l m : List PI} (h : m.Pairwise LeP) (p : m.Perm l) : m = srt l := srt_uniq h (srt_srt l) (p.trans (srt_perm l).symm)
/-- what a value says as a pair, read off the heap -/
def pOf (H : Hp) : V → Int × Int
  | .ref t => match H t with
    | some (.tup [.int i, .int j]) => (i, j)
    | _ => (0, 0)
  | _ => (0, 0)
theorem pOf_is {H : Hp} {v : V} {d : PI} (h : Is H v d) : ∃ t, v = .ref t ∧ H t = some (.tup [.int (pOf H v).1, .int (pOf H v).2]) ∧ d = ⟨(pOf H v).1, (pOf H v).2⟩ := by
  obtain ⟨t, x, y, rfl, h1, h2, h3⟩ := h
  have h2 : x = .int d.a := h2
  have h3 : y = .int d.b := h3
  subst h2
  subst h3
  have e : pOf H (.ref t) = (d.a, d.b) := by simp only [pOf, h1]
  exact ⟨t, rfl, by rw [e]; exact h1, by rw [e]⟩
theorem all_of {H : Hp} : ∀ {xs : List V} {l : List PI}, IsAll H xs l → l = xs.map fun v => (⟨(pOf H v).1, (pOf H v).2⟩ : PI) := fun {xs l} h => by
  refine List.ext_getElem? fun i => ?_
  rw [List.getElem?_map]
  cases e : xs[i]? with
  | none =>
    have := List.getElem?_eq_none_iff.mp e
    exact List.getElem?_eq_none_iff.mpr (by rw [← h.1]; exact this)
  | some x =>
    obtain ⟨d, hd, hx⟩ := h.get' e
    obtain ⟨t, _, _, q⟩ := pOf_is hx
    rw [hd, q]
    rfl
/-- sorted of a list of pairs -/
theorem sort_pairs {K : PySem.W.Frag} {F H : Hp} {a : Addr} {xs : List V} {l : List PI} {Q : VK} (sF : Same F H) (hx : IsAll F xs l) (ha : SqL K H a xs) (q : ∀ ys p, H p = none → IsAll F ys (srt l) → Q (.ref p) (upd H p (.lst ys))) : rSortQ K [.ref a] H Q := by
  unfold rSortQ
  refine ⟨a, xs, pOf F, rfl, ha, fun x m => ?_, fun ys p hs hb np => q ys p np ?_⟩
  · obtain ⟨i, hi⟩ := List.getElem?_of_mem m
    obtain ⟨d, _, hd⟩ := hx.get' hi
    obtain ⟨t, e, h, _⟩ := pOf_is hd
    exact ⟨t, e, sF _ _ h⟩
  · have el := all_of hx
    have hys : IsAll F ys (ys.map fun v => (⟨(pOf F v).1, (pOf F v).2⟩ : PI)) := by
      refine ⟨by rw [List.length_map], fun i x y h1 h2 => ?_⟩
      rw [List.getElem?_map, h1] at h2
      cases h2
      have m : x ∈ xs := hb.perm.mem_iff.mp (List.mem_of_getElem? h1)
      obtain ⟨j, hj⟩ := List.getElem?_of_mem m
      obtain ⟨d, _, hd⟩ := hx.get' hj
      obtain ⟨t, e, h, e2⟩ := pOf_is hd
      exact ⟨t, _, _, e, h, rfl, rfl⟩
    have es : (ys.map fun v => (⟨(pOf F v).1, (pOf F v).2⟩ : PI)) = srt l := by
      refine srt_of ?_ ?_
      · refine List.pairwise_map.mpr (List.Pairwise.imp (fun {x y} h => ?_) hs)
        have h := SrtO.lexB_no.mp h
        exact leP_iff.mpr (by simp only; omega)
      · rw [el]
        exact hb.perm.map _
    rw [es] at hys
    exact hys
theorem pairs_of {K : PySem.W.Frag} {H : Hp} : ∀ {xs : List V} {l : List PI}, IsAll H xs l → ∃ ps : List Addr, xs = ps.map V.ref ∧ Paired (fun p kv => SqT K H p [kV kv.1, kv.2]) ps (dI l)
  | [], [], _ => ⟨[], rfl, .nil⟩
  | [], d :: l, h => by have := h.1; simp at this
  | x :: xs, [], h => by have := h.1; simp at this
  | x :: xs, d :: l, h => by
    obtain ⟨t, x1, x2, e, h1, h2, h3⟩ := h.2 0 x d rfl rfl
    have h2 : x1 = .int d.a := h2
    have h3 : x2 = .int d.b := h3
    subst h2
    subst h3
    obtain ⟨ps, e2, p⟩ := pairs_of (K := K) (xs := xs) (l := l) ⟨by have := h.1; simpa using this, fun i a b p q => h.2 (i + 1) a b (by simpa using p) (by simpa using q)⟩
    exact ⟨t :: ps, by rw [e, e2]; rfl, .cons (SqT.of h1) p⟩
/-- dict(pairs) -/
theorem dict_pairs {K : PySem.W.Frag} {H : Hp} {a : Addr} {xs : List V} {l : List PI} {Q : VK} (hx : IsAll H xs l) (ha : SqL K H a xs) (q : ∀ p, H p = none → Q (.ref p) (upd H p (.dK (dI (merge [] l))))) : rDictP K [.ref a] H Q := by
  unfold rDictP
  obtain ⟨ps, e, p⟩ := pairs_of (K := K) hx
  refine ⟨a, ps, dI l, rfl, by rw [← e]; exact ha, p, fun d nd => ?_⟩
  have e2 : mergeK [] (dI l) = dI (merge [] l) := dI_merge l []
  rw [e2]
  exact q d nd
/-! ### a dict under its lock -/
theorem lock_in {F H : Hp} {d : Addr} {o : HO} (s : Same F H) : Same (fun c => if c = d then none else F c) (upd H d o) := fun c u h => by
  by_cases e : c = d
  · simp only [e, if_true] at h; cases h
  · simp only [e, if_false] at h
    rw [upd_ne e]; exact s c u h
theorem lock_out {F H F2 H2 : Hp} {d : Addr} {o u : HO} (s : Same F H) (h : H d = some u) (g : Gr mu0 (fun c => if c = d then none else F c) (upd H d o) F2 H2) :
    H2 d = some o ∧ Same F2 (fun c => if c = d then F d else F2 c) ∧ Gr mu0 F H (fun c => if c = d then F d else F2 c) (upd H2 d u) := by
  have n2 : F2 d = none := by
    cases e : F2 d with
    | none => rfl
    | some z =>
      rcases g.nw d z e with k | k
      · simp only [if_true] at k; cases k
      · rw [upd_same] at k; cases k
  refine ⟨g.fr d o upd_same (fun z => z), fun c z e => ?_, ⟨fun c z e => ?_, fun c z e => ?_, fun c z e => ?_, fun c z e m => ?_, fun c e => ?_⟩⟩
  · by_cases k : c = d
    · rw [k, n2] at e; cases e
    · simp only [k, if_false]; exact e
  · by_cases k : c = d
    · simp only [k, if_true]; rw [← k]; exact e
    · simp only [k, if_false]
      exact g.ff c z (by simp only [k, if_false]; exact e)
  · by_cases k : c = d
    · simp only [k, if_true] at e
      rw [k, upd_same, ← h]
      exact s d z e
    · simp only [k, if_false] at e
      rw [upd_ne k]; exact g.fh c z e
  · by_cases k : c = d
    · simp only [k, if_true] at e
      exact .inl (by rw [k]; exact e)
    · simp only [k, if_false] at e
      rcases g.nw c z e with q | q
      · simp only [k, if_false] at q; exact .inl q
      · rw [upd_ne k] at q; exact .inr q
  · by_cases k : c = d
    · rw [k, upd_same]; rw [k, h] at e; exact e
    · rw [upd_ne k]
      exact g.fr c z (by rw [upd_ne k]; exact e) (fun z => z)
  · by_cases k : c = d
    · rw [k, upd_same] at e; cases e
    · rw [upd_ne k] at e
      have q := g.th c e
      rw [upd_ne k] at q; exact q
/-- the signs that aren't 0, in order -/
def nz (p : PI) : Bool := decide (p.b ≠ 0)
def told (l : List PI) : List PI := srt (l.filter nz)
theorem dI_get {l : List PI} {i : Nat} (h : i < l.length) : (dI l)[i]? = some (Sum.inl l[i].a, V.int l[i].b) := by
  unfold dI
  rw [List.getElem?_map, List.getElem?_eq_getElem h]
  rfl
theorem filter_take_succ {l : List PI} {f : PI → Bool} {i : Nat} (h : i < l.length) : (l.take (i + 1)).filter f = (l.take i).filter f ++ (if f l[i] = true then [l[i]] else []) := by
  rw [List.take_add_one, List.getElem?_eq_getElem h, List.filter_append]
  show _ ++ List.filter f [l[i]] = _
  rw [List.filter_cons]
  split <;> rfl
theorem nd_srt {l : List PI} (h : Nd l) : Nd (srt l) := ((srt_perm l).map (fun p : PI => p.a)).nodup_iff.mpr h
theorem mem_srt {l : List PI} {q : PI} : q ∈ srt l ↔ q ∈ l := (srt_perm l).mem_iff
theorem mem_put {l : List PI} {x v : Int} {q : PI} (m : q ∈ put l x v) : q ∈ l ∨ q = ⟨x, v⟩ := by
  unfold put at m
  split at m
  · obtain ⟨z, hz, e⟩ := List.mem_map.mp m
    split at e
    · rename_i h1 h2
      exact .inr (by rw [← e, h2])
    · exact .inl (by rw [← e]; exact hz)
  · rcases List.mem_append.mp m with m | m
    · exact .inl m
    · exact .inr (List.mem_singleton.mp m)
/-! ### sorted(d.items()), d a dict of ints to ints -/
section
open PySem.Spec PyProof.Rows
variable {X : Cx}
/-- many new things are tracked at once -/
theorem inv_many {pins : List (Addr × Obj)} {σ : L2.St} {H H' : Hp} {s : Shared} {h' : Heap} {tk : Nat} {as : List Addr} (I : Inv X pins σ H s) (k : ∀ b o, s.heap.get? b = some o → h'.get? b = some o) (hp : ∀ a ∈ as, s.heap.objs.size ≤ a)
    (p1 : ∀ b, b ∉ as → H' b = H b) (p2 : ∀ b ∈ as, ∀ o, H' b = some o → ObjOk X.prog X.w H' h' b o) : Inv X pins σ H' { s with heap := h', toks := tk } := by
  have old : ∀ b o, s.heap.get? b = some o → b ∉ as := fun b o e z => Nat.lt_irrefl _ (Nat.lt_of_lt_of_le (Heap.lt_size e) (hp b z))
  have trc : ∀ b o, H b = some o → b ∉ as := fun b o e z => by
    have := I.hok.lt e
    exact Nat.lt_irrefl _ (Nat.lt_of_lt_of_le this (hp b z))
  have kp : ∀ b o, H b = some o → H' b = some o := fun b o e => by rw [p1 b (trc b o e)]; exact e
  refine I.un ⟨fun b o q _ _ _ => k b o q, fun b o q _ _ _ => ⟨o.slots, k b o q⟩, fun b o q n _ => by rw [p1 b (old b o q)]; exact n, fun b o q _ => ⟨o, k b o q⟩, fun b xs e => kp b _ e, fun b o u e => kp b _ e, fun b ps e => ⟨#[], by rw [kp b _ e]; simp⟩⟩ fun b o e => ?_
  by_cases m : b ∈ as
  · exact p2 b m o e
  · rw [p1 b m] at e
    exact (I.hok b o e).stay (fun c u _ q => k c u q) (fun c q => kp c _ q) fun c xs q => kp c _ q
/-- the pair that stands at a -/
def pzAt (zs : List (Addr × PI)) (a : Addr) : Option PI := (zs.find? fun z => decide (z.1 = a)).map (·.2)
theorem pzAt_ix : ∀ {zs : List (Addr × PI)}, (zs.map (·.1)).Nodup → ∀ {j : Nat} {z : Addr × PI}, zs[j]? = some z → pzAt zs z.1 = some z.2
  | [], _, j, z, h => by cases h
  | y :: ys, nd, 0, z, h => by
    have e := Option.some.inj h
    subst e
    simp [pzAt]
  | y :: ys, nd, j + 1, z, h => by
    have nd' := List.nodup_cons.mp nd
    have m : z.1 ∈ ys.map (·.1) := List.mem_map.mpr ⟨z, List.mem_of_getElem? (show ys[j]? = some z from h), rfl⟩
    have ih := pzAt_ix nd'.2 (show ys[j]? = some z from h)
    have ne : ¬ y.1 = z.1 := fun e => nd'.1 (by show y.1 ∈ _; rw [e]; exact m)
    unfold pzAt at ih ⊢
    rw [List.find?_cons, decide_eq_false ne]
    exact ih
theorem pzAt_no {zs : List (Addr × PI)} {a : Addr} (h : a ∉ zs.map (·.1)) : pzAt zs a = none := by
  unfold pzAt
  rw [List.find?_eq_none.mpr fun z m e => h (List.mem_map.mpr ⟨z, m, of_decide_eq_true e⟩)]
  rfl
def trk (H : Hp) (B : Addr) (L : HO) (zs : List (Addr × PI)) : Hp := fun b => if b = B then some L else match pzAt zs b with
  | some q => some (.tup [.int q.a, .int q.b])
  | none => H b
def adOf : Value → Addr
  | .ref a => a
  | _ => 0
@[irreducible] def rSortIt : V → Hp → VK → Prop := fun x H Q => ∃ (d : Addr) (l : List PI), x = .ref d ∧ H d = some (.dK (dI l)) ∧
  ∀ (H' : Hp) (p : Addr) (ys : List Addr), Same H H' → H p = none → (∀ t ∈ ys, H t = none) → p ∉ ys → (∀ b, b ≠ p → b ∉ ys → H' b = H b) → H' p = some (.lst (ys.map V.ref)) → All2 (fun t (q : PI) => H' t = some (.tup [.int q.a, .int q.b])) ys (srt l) → Q (.ref p) H'
def tSortIt (te : TE) : TE := fun σ H Q => te σ H fun x H1 => rSortIt x H1 Q
theorem pe_sortedItems {e : Expr} {te : TE} {p apos cpos pos : Pos} (hc : X.calm = true) (he : PE X e te) (hg : Gl X "sorted") (hm : X.mg "sorted" = none) (hv : bootBuiltins "sorted" = some (.builtin "sorted")) (hbase : attributeBase e "items" X.env (eval e X.env) = eval e X.env := by rfl) (hline : (apos.endLine == cpos.line) = true := by rfl)
    (hs : starEach [.Call (.Attribute e "items" apos) [] [] cpos] X.env = (false, eval (.Call (.Attribute e "items" apos) [] [] cpos) X.env) :: starEach [] X.env := by rfl) :
    PE X (.Call (.Name "sorted" p) [.Call (.Attribute e "items" apos) [] [] cpos] [] pos) (tSortIt te) := by
  refine ⟨fun pins s σ H Q I hq => ?_⟩
  refine wpAny_Call_Name_kw (ld_blt I hg hm hv ?_)
  refine PyProof.Rows.callWith_builtin1 ?_ hs rfl
  rw [hs]
  show wpAny _ _ (spliced ((false, eval (.Call (.Attribute e "items" apos) [] [] cpos) X.env) :: backTo pos (starEach [] X.env))) _ _ s
  refine Calls.spliced_cons ?_
  refine wpAny_Call_method (T := "dict") (id := "dict.items") hbase rfl hline F.plainAttrs_dict F.slot_dict_items F.type_dict_items (thn (he.run pins s σ H _ I hq) fun u s1 ⟨x, H1, I1, rx, q⟩ => ?_)
  unfold rSortIt at q
  obtain ⟨d, l, rfl, hd, q⟩ := q
  obtain rfl : u = Value.ref d := rx
  obtain ⟨hz, hs0, vs, kv, hdo⟩ := I1.hok d _ hd
  obtain ⟨ep, hat⟩ := hdo.dictAt
  have lk : (dI l).length = vs.length := Paired.length kv
  have ll : (dI l).length = l.length := by unfold dI; rw [List.length_map]
  refine ⟨hdo.typeIs, hdo.mapOf.noDict, ?_⟩
  show wpAny _ _ (callWith cpos (.builtin "dict.items") [.ref d] [] []) _ X.xe s1
  refine method_meetsIn F.slot_dict_items F.entry_dict_items rfl (PySem.evalArgs_none ⟨rfl, hdo.typeIs, F.args_dict_items_1 _, _, meets_dict_items (mixKind X.prog X.w) d hs0, ⟨vs, hdo⟩, ?_⟩)
  refine Calls.spliced_nil ?_
  have I2 : Inv X pins σ H1 { s1 with heap := s1.heap.push { cls := .type "dict_items", data := .fields #[.ref d] } } := I1.kept (t' := s1.toks) fun b ob q => Heap.get?_push_of_some _ q
  have hB : ((H1 d).isSome) = true := by rw [hd]; rfl
  refine Calls.call_function_entry kind_sorted plain_sorted entry_sorted (args_sorted1 _) (by
    unfold Builtin.«sorted»
    refine wpAny_bind (m := checkCount "sorted" 1 1 _) (wpAny_pure (wpAny_bind (PySem.W.kdx_collect (knd := mixKind X.prog X.w) (kvs := vs) (ep := ep) (I1.ok.hd hc) ⟨_, Heap.get?_push_size _ rfl, rfl, rfl⟩ (hat.push _) (by omega) fun h1 tk as hk hl hG => ?_)))
    refine wpAny_bind (wpAny_newList ?_ (by rw [List.length_map, hl]; omega))
    -- the pairs' tuples: at as
    have nd : as.Nodup := hG.rise.imp fun {a b} h => Nat.ne_of_lt h
    have lz : (as.zip l).map (·.1) = as := List.map_fst_zip (by omega)
    have zx : ∀ (j : Nat) (a : Addr), as[j]? = some a → ∃ (q : PI) (t u : Tok), l[j]? = some q ∧ pzAt (as.zip l) a = some q ∧ h1.get? a = some { cls := .type "tuple", data := .seq #[.int q.a t, .int q.b u] } := fun j a h => by
      obtain ⟨key, k, x, e1, e2, e3⟩ := hG.pairs j a h
      have jl : j < l.length := by have := (List.getElem?_eq_some_iff.mp h).1; omega
      have lj : l[j]? = some l[j] := List.getElem?_eq_getElem jl
      obtain ⟨y, e4, e5, e6⟩ := LiI.paired_get kv (dI_get jl)
      rw [e1] at e4
      have e4 := Option.some.inj e4
      subst e4
      obtain ⟨i, tk1, e7, rfl⟩ | ⟨z, tk1, e7, _⟩ := keyIs_shape (show keyIs k key = true from e2)
      · have e5 : Sum.inl l[j].a = k := e5
        rw [e7] at e5
        have e5 := Sum.inl.inj e5
        subst e5
        obtain ⟨tk2, e6⟩ := (show RelV (.int l[j].b) x from e6)
        subst e6
        exact ⟨l[j], tk1, tk2, lj, pzAt_ix (zs := as.zip l) (by rw [lz]; exact nd) (j := j) (z := (a, l[j])) (List.getElem?_zip_eq_some.mpr ⟨h, lj⟩), e3⟩
      · have e5 : Sum.inl l[j].a = k := e5
        rw [e7] at e5
        cases e5
    have zm : ∀ a ∈ as, ∃ (q : PI) (t u : Tok), pzAt (as.zip l) a = some q ∧ h1.get? a = some { cls := .type "tuple", data := .seq #[.int q.a t, .int q.b u] } := fun a m => by
      obtain ⟨j, hj⟩ := List.getElem?_of_mem m
      obtain ⟨q, t, u, _, h2, h3⟩ := zx j a hj
      exact ⟨q, t, u, h2, h3⟩
    have lm : as.map (fun a => (pzAt (as.zip l) a).getD ⟨0, 0⟩) = l := by
      refine List.ext_getElem? fun j => ?_
      rw [List.getElem?_map]
      cases hj : as[j]? with
      | none =>
        have := List.getElem?_eq_none_iff.mp hj
        exact (List.getElem?_eq_none_iff.mpr (by omega)).symm
      | some a =>
        obtain ⟨q, t, u, h1, h2, _⟩ := zx j a hj
        rw [h1, Option.map_some, h2]; rfl
    generalize ezs : as.zip l = zs at zx zm lm lz
    have s12 : (s1.heap.push { cls := .type "dict_items", data := .fields #[.ref d] }).objs.size ≤ h1.objs.size := by
      have := Heap.lt_size (hk _ _ (Heap.get?_push_size s1.heap rfl))
      rw [Heap.size_push]; exact this
    have Bn : h1.objs.size ∉ as := fun z => Nat.lt_irrefl _ (hG.there z)
    let kk : Value → Int × Int := fun v => (((pzAt zs (adOf v)).getD ⟨0, 0⟩).a, ((pzAt zs (adOf v)).getD ⟨0, 0⟩).b)
    have ho : (h1.push { cls := .type "list", data := .seq (as.map Value.ref).toArray }).get? h1.objs.size = some (seqObj "list" (as.map Value.ref).toArray 0) := Heap.get?_push_size _ rfl
    refine wpAny_bind (wpAny_holding (wpAny_call_entry slot_list_sort ⟨_, ho, rfl⟩ entry_list_sort (SrtO.list_sort_ord (ltv := fun v u => SrtO.lexB (kk v) (kk u)) (SrtO.swo_lex kk) ho (by rw [List.length_map, hl]; omega) (fun h2 => ?_) fun out hso hbo => ⟨_, rfl, wpAny_pure ⟨_, rfl, ?_⟩⟩) (args_list_sort _)))
    · refine SrtO.pairs_sortableO (k := kk) (by omega) (fun v m => ?_) fun o e => ?_
      · obtain ⟨a, ma, rfl⟩ := List.mem_map.mp m
        obtain ⟨q, t, u, h1', h2'⟩ := zm a ma
        refine ⟨a, _, t, u, 0, rfl, Heap.get?_push_of_some _ h2', rfl, ?_⟩
        show _ = Data.seq #[.int ((pzAt zs a).getD ⟨0, 0⟩).a t, .int ((pzAt zs a).getD ⟨0, 0⟩).b u] 0
        rw [h1']
        rfl
      · rw [ho] at e
        cases e
        intro c
        exact absurd (Value.type.inj c) (by decide)
    · have outp : out.Perm (as.map Value.ref) := hbo.perm
      have oe : out = (out.map adOf).map Value.ref := by
        rw [List.map_map]
        refine (List.map_id out).symm.trans (List.map_congr_left fun v m => ?_)
        obtain ⟨a, _, rfl⟩ := List.mem_map.mp (outp.mem_iff.mp m)
        rfl
      have yp : (out.map adOf).Perm as := by
        have := outp.map adOf
        rw [List.map_map] at this
        have e : as.map (adOf ∘ Value.ref) = as := (List.map_congr_left fun a _ => rfl).trans (List.map_id as)
        rw [e] at this; exact this
      generalize out.map adOf = ys at oe yp
      have lo : out.length ≤ sizeLine := by rw [oe, List.length_map, yp.length_eq, hl]; omega
      obtain ⟨ep3, h3B⟩ := sortedHeap_at (vs := as.map Value.ref) (out := out.toArray) ho
      have h3o : ∀ b o, h1.get? b = some o → (sortedHeap (h1.push { cls := .type "list", data := .seq (as.map Value.ref).toArray }) h1.objs.size (as.map Value.ref) out.toArray).get? b = some o := fun b o e => by
        have bl := Heap.lt_size e
        rw [sortedHeap_old (Nat.ne_of_lt bl) (by rw [Heap.size_push]; exact Nat.lt_succ_of_lt bl)]
        exact Heap.get?_push_of_some _ e
      have tB : trk H1 h1.objs.size (.lst (ys.map V.ref)) zs h1.objs.size = some (.lst (ys.map V.ref)) := by unfold trk; rw [if_pos rfl]
      have tT : ∀ a ∈ as, ∀ q, pzAt zs a = some q → trk H1 h1.objs.size (.lst (ys.map V.ref)) zs a = some (.tup [.int q.a, .int q.b]) := fun a m q e => by
        unfold trk
        rw [if_neg (fun z => Bn (by rw [← z]; exact m)), e]
      have tO : ∀ b, b ≠ h1.objs.size → b ∉ as → trk H1 h1.objs.size (.lst (ys.map V.ref)) zs b = H1 b := fun b n m => by
        unfold trk
        rw [if_neg n, pzAt_no (by rw [lz]; exact m)]
      have big : ∀ a ∈ h1.objs.size :: as, (s1.heap.push { cls := .type "dict_items", data := .fields #[.ref d] }).objs.size ≤ a := fun a m => by
        rcases List.mem_cons.mp m with rfl | m
        · exact s12
        · exact Nat.le_of_lt (hG.above a m)
      have J := inv_many (tk := tk) (H' := trk H1 h1.objs.size (.lst (ys.map V.ref)) zs) (h' := sortedHeap (h1.push { cls := .type "list", data := .seq (as.map Value.ref).toArray }) h1.objs.size (as.map Value.ref) out.toArray) (as := h1.objs.size :: as) I2 (fun b o e => h3o b o (hk b o e)) big
          (fun b m => tO b (fun z => m (by rw [z]; exact List.mem_cons_self)) (fun z => m (List.mem_cons_of_mem _ z))) (fun b m o e => by
        by_cases hb : b = h1.objs.size
        · subst hb
          rw [tB] at e
          cases e
          refine ⟨by rw [List.length_map, yp.length_eq, hl]; omega, out, ep3, ?_, h3B⟩
          rw [oe]
          exact LiI.vals_refs ys
        · have m := (List.mem_cons.mp m).resolve_left hb
          obtain ⟨q, t, u, e1, e2⟩ := zm b m
          rw [tT b m q e1] at e
          cases e
          exact ⟨two_le, [.int q.a t, .int q.b u], .cons ⟨_, rfl⟩ (.cons ⟨_, rfl⟩ .nil), ⟨_, h3o b _ e2, rfl, _, rfl⟩⟩)
      have fr1 : ∀ a ∈ h1.objs.size :: as, H1 a = none := fun a m => I2.hok.fresh (big a m)
      have ym : ∀ a, a ∈ ys ↔ a ∈ as := fun a => yp.mem_iff
      refine ⟨.ref h1.objs.size, _, J, rfl, q _ _ ys (fun b o e => ?_) (fr1 _ List.mem_cons_self) (fun t m => fr1 t (List.mem_cons_of_mem _ ((ym t).mp m))) (fun z => Bn ((ym _).mp z)) (fun b n m => tO b n fun z => m ((ym b).mpr z)) tB ?_⟩
      · rw [tO b (fun z => by rw [z, fr1 _ List.mem_cons_self] at e; cases e) (fun z => by rw [fr1 b (List.mem_cons_of_mem _ z)] at e; cases e)]
        exact e
      · have es : ys.map (fun a => (pzAt zs a).getD ⟨0, 0⟩) = srt l := by
          refine srt_of ?_ (by rw [← lm]; exact yp.map _)
          rw [oe] at hso
          have hso := List.pairwise_map.mp hso
          refine List.pairwise_map.mpr (hso.imp fun {x y} h => ?_)
          have h := SrtO.lexB_no.mp h
          exact leP_iff.mpr (by simp only [kk, adOf] at h; omega)
        rw [← es]
        refine ⟨by rw [List.length_map], fun i x y h1 h2 => ?_⟩
        rw [List.getElem?_map, h1] at h2
        cases h2
        have m := (ym x).mp (List.mem_of_getElem? h1)
        obtain ⟨q, t, u, e1, e2⟩ := zm x m
        rw [tT x m q e1]
        show _ = some (HO.tup [V.int ((pzAt zs x).getD ⟨0, 0⟩).a, V.int ((pzAt zs x).getD ⟨0, 0⟩).b])
        rw [e1]
        rfl)
theorem sitems {F H : Hp} {d : Addr} {l : List PI} {Q : VK} (sF : Same F H) (hd : H d = some (.dK (dI l))) (q : ∀ (F' H' : Hp) (p : Addr) (xs : List V), Gr mu0 F H F' H' → Ow H F' H' p (.lst xs) → IsAll F' xs (srt l) → Q (.ref p) H') : rSortIt (.ref d) H Q := by
  unfold rSortIt
  refine ⟨d, l, rfl, hd, fun H' p ys s n nt pn off hp al => ?_⟩
  have fy : ∀ b ∈ ys, F b = none := fun b m => sF.free (nt b m)
  have s' : Same F (fun b => if b ∈ ys then H' b else F b) := fun b o e => by
    by_cases m : b ∈ ys
    · rw [fy b m] at e; cases e
    · simp only [m, if_false]; exact e
  have e2 : ∀ b, b ∈ ys → (if b ∈ ys then H' b else F b) = H' b := fun b m => if_pos m
  refine q (fun b => if b ∈ ys then H' b else F b) H' p (ys.map V.ref) ⟨s', fun b o e => ?_, fun b o e => ?_, fun b o e _ => s b o e, fun b e => s.free e⟩ ⟨n, ?_, hp⟩ ⟨by rw [List.length_map]; exact al.1, fun i x y h1 h2 => ?_⟩
  · by_cases m : b ∈ ys
    · simp only [m, if_true] at e; exact e
    · simp only [m, if_false] at e; exact s b o (sF b o e)
  · by_cases m : b ∈ ys
    · exact .inr (nt b m)
    · simp only [m, if_false] at e; exact .inl e
  · show (if p ∈ ys then H' p else F p) = none
    rw [if_neg pn]; exact sF.free n
  · rw [List.getElem?_map] at h1
    cases e : ys[i]? with
    | none => rw [e] at h1; cases h1
    | some t =>
      rw [e] at h1
      cases h1
      refine ⟨t, _, _, rfl, ?_, rfl, rfl⟩
      show (if t ∈ ys then H' t else F t) = _
      rw [if_pos (List.mem_of_getElem? e)]
      exact al.2 i t y e h2
end
/-! ### sum of a tuple; a tuple not at all or once -/
section
open PySem.Spec PyProof.Rows
variable {X : Cx}
def rSumT (K : PySem.W.Frag) : List V → Hp → VK → Prop := fun vs H Q => ∃ (a : Addr) (ns : List Int), vs = [V.ref a] ∧ SqT K H a (ns.map V.int) ∧ Q (.int ns.sum) H
theorem cr_sumT (hc : X.calm = true) : CallR X (.builtin "sum") (rSumT X.K) := by
  intro pins s σ H vs us Q I r h
  obtain ⟨a, ns, rfl, ht, q⟩ := h
  obtain ⟨its, rv, ⟨o, ho, hcl, n, hd⟩, _⟩ := I.tuple ht
  have hi := rv.ints
  obtain ⟨xs, e⟩ := hi.allInts.items
  have hn : numsOf (intItems xs).toList = ns := by rw [← e]; exact hi.numsOf
  rw [nums_intItems] at hn
  rw [e] at hd
  rw [Vals.ref1 r]
  refine PySem.W.ktm_sumG (I.ok.hd hc) ⟨o, ho, hcl, n, hd⟩ fun h' tk t' hk => ?_
  rw [preSum_eq, List.take_of_length_le (by simp), hn]
  exact ⟨.int _, H, I.kept hk, ⟨_, rfl⟩, q⟩
theorem tup_mul1 (l : Addr) (items : Array Value) (n : Nat) (dd : Option Addr) (sl : Array (Option Value)) (u : Tok) (hne : items.isEmpty = false) :
    Meets (Builtin.«tuple.__mul__» ⟨[.ref l, .int 1 u], []⟩) (fun _ R s => s.heap.get? l = some { cls := .type "tuple", dict := dd, data := .seq items n, slots := sl } ∧ R (.ok (.ret (Value.ref l))) s) :=
  .of_wp fun prog w A R s h => by
    obtain ⟨hp, g, d, tk, os⟩ := s
    obtain ⟨hl, h⟩ := h
    have f1 := AutoSeq1.idx_int
    wp_walk using wpAny_loadPart' hl
    exact ⟨_, rfl, h⟩
theorem tup_mul0 (l : Addr) (items : Array Value) (n : Nat) (dd : Option Addr) (sl : Array (Option Value)) (u : Tok) (hne : items.isEmpty = false) :
    Meets (Builtin.«tuple.__mul__» ⟨[.ref l, .int 0 u], []⟩) (fun _ R s => s.heap.get? l = some { cls := .type "tuple", dict := dd, data := .seq items n, slots := sl } ∧
      R (.ok (.ret (Value.ref s.heap.objs.size))) { s with heap := s.heap.push { cls := Value.type "tuple", data := Data.seq #[] }, toks := s.toks }) :=
  .of_wp fun prog w A R s h => by
    obtain ⟨hp, g, d, tk, os⟩ := s
    obtain ⟨hl, h⟩ := h
    have f1 := AutoSeq1.idx_int
    wp_walk using wpAny_loadPart' hl
    exact ⟨_, rfl, h⟩
def rRep01 (K : PySem.W.Frag) : R2 := fun x y H Q => ∃ l k xs, x = .ref l ∧ y = .int k ∧ SqT K H l xs ∧ xs ≠ [] ∧ ((k = 1 ∧ Q (.ref l) H) ∨ (k = 0 ∧ ∀ p, H p = none → Q (.ref p) (upd H p (.tup []))))
theorem op_rep01 : OpR X (binaryOp .Mult) (rRep01 X.K) := by
  intro pins s σ H x y v u Q I rx ry h
  obtain ⟨l, k, xs, rfl, rfl, hT, hne, h⟩ := h
  cases rx
  obtain ⟨tk, rfl⟩ := ry
  obtain ⟨its, r, ⟨⟨cls, dd, data, sl⟩, ho, hc, n, hd⟩, hs⟩ := I.tuple hT
  simp only at hc hd
  subst hc hd
  have hi : its.toArray.isEmpty = false := by
    cases its with
    | nil => have := r.length; exact absurd (List.eq_nil_of_length_eq_zero this) hne
    | cons a b => rfl
  rcases h with ⟨rfl, q⟩ | ⟨rfl, q⟩
  · refine wpAny_binaryOp_repeat_ref (T := "tuple") (U := "int") (by decide) ⟨_, ho, rfl⟩ (fun s' => typeIs_int s' 1 tk) noFill_tuple_mul F.fills_int_mul F.slot_int_rmul repeat_tuple F.slot_int_index.lookup
      (call_meets F.slot_int_rmul (typeIs_int s 1 tk) F.entry_int_rmul (F.args_int_rmul_2 _ _) (int_rmul_tuple 1 tk l its.toArray n dd sl)
        ⟨ho, rfl, ⟨_, ho, rfl⟩, call_meets F.slot_tuple_mul ⟨_, ho, rfl⟩ F.entry_tuple_mul (F.args_tuple_mul_2 _ _) (tup_mul1 l its.toArray n dd sl tk hi) ⟨ho, ?_⟩⟩)
    exact ⟨.ref l, H, I, rfl, q⟩
  · refine wpAny_binaryOp_repeat_ref (T := "tuple") (U := "int") (by decide) ⟨_, ho, rfl⟩ (fun s' => typeIs_int s' 0 tk) noFill_tuple_mul F.fills_int_mul F.slot_int_rmul repeat_tuple F.slot_int_index.lookup
      (call_meets F.slot_int_rmul (typeIs_int s 0 tk) F.entry_int_rmul (F.args_int_rmul_2 _ _) (int_rmul_tuple 0 tk l its.toArray n dd sl)
        ⟨ho, rfl, ⟨_, ho, rfl⟩, call_meets F.slot_tuple_mul ⟨_, ho, rfl⟩ F.entry_tuple_mul (F.args_tuple_mul_2 _ _) (tup_mul0 l its.toArray n dd sl tk hi) ⟨ho, ?_⟩⟩)
    refine ⟨.ref s.heap.objs.size, _, I.laid (t' := s.toks) (o := .tup []) (fun b ob q => Heap.get?_push_of_some _ q) (Nat.le_refl _) ?_, rfl, q _ (I.hok.fresh (Nat.le_refl _))⟩
    exact ⟨nil_le, _, .nil, IsTup.new _ _⟩
end
/-! slices of tuples, +: the ways -/
@[irreducible] def rSlQ (K : PySem.W.Frag) : V → Option Int → Option Int → Hp → VK → Prop := rSlA K
theorem sl_tupQ {X : Cx} : SlR X (rSlQ X.K) := by
  unfold rSlQ
  exact sl_tupA
@[irreducible] def rCatQ (K : PySem.W.Frag) : R2 := rCatA K
theorem op_catQ {X : Cx} : OpR X (binaryOp .Add) (rCatQ X.K) := by
  unfold rCatQ
  exact op_catA
theorem slA_all {K : PySem.W.Frag} {H : Hp} {a : Addr} {xs : List V} {lo hi : Option Int} {Q : VK} (h : SqT K H a xs) (w : HT.sIx xs.length 0 lo = 0 ∧ HT.sIx xs.length xs.length hi = xs.length) (q : Q (.ref a) H) : rSlQ K (.ref a) lo hi H Q := by
  unfold rSlQ
  exact ⟨a, xs, rfl, h, fun _ => q, fun n => absurd w n⟩
theorem slA_cut {K : PySem.W.Frag} {H : Hp} {a : Addr} {xs : List V} {lo hi : Option Int} {Q : VK} (h : SqT K H a xs) (w : ¬ (HT.sIx xs.length 0 lo = 0 ∧ HT.sIx xs.length xs.length hi = xs.length)) (q : ∀ p, H p = none → Q (.ref p) (upd H p (.tup (cutV xs lo hi)))) : rSlQ K (.ref a) lo hi H Q := by
  unfold rSlQ
  exact ⟨a, xs, rfl, h, fun n => absurd n w, fun _ => q⟩
theorem catA_nil {K : PySem.W.Frag} {H : Hp} {a b : Addr} {ys : List V} {Q : VK} (h : SqT K H a []) (h2 : SqT K H b ys) (l : ys.length ≤ sizeLine) (q : Q (.ref b) H) : rCatQ K (.ref a) (.ref b) H Q := by
  unfold rCatQ
  exact ⟨a, b, [], ys, rfl, rfl, h, h2, by simpa using l, fun _ => q, fun n => absurd rfl n, fun n => absurd rfl n⟩
theorem catA_new {K : PySem.W.Frag} {H : Hp} {a b : Addr} {xs ys : List V} {Q : VK} (h : SqT K H a xs) (h2 : SqT K H b ys) (l : xs.length + ys.length ≤ sizeLine) (n1 : xs ≠ []) (n2 : ys ≠ []) (q : ∀ p, H p = none → Q (.ref p) (upd H p (.tup (xs ++ ys)))) : rCatQ K (.ref a) (.ref b) H Q := by
  unfold rCatQ
  exact ⟨a, b, xs, ys, rfl, rfl, h, h2, l, fun e => absurd e n1, fun _ e => absurd e n2, fun _ _ => q⟩
/-! ### enumerate(tuple); sorted(dict) of int keys, of any length -/
section
open PySem.Spec PyProof.Rows
set_option maxHeartbeats 8000000 in
theorem enT_new (t : Addr) (zs : Array Value) : Meets (Builtin.«enumerate.__new__» ⟨[.type "enumerate", .ref t], []⟩) (fun _ R s => s.heap.IsTuple t zs ∧
    R (.ok (.ret (.ref (s.heap.push { cls := .type "tuple_iterator", data := .fields #[.ref t, .int 0 0] }).objs.size)))
      { s with heap := (s.heap.push { cls := .type "tuple_iterator", data := .fields #[.ref t, .int 0 0] }).push { cls := .type "enumerate", data := .fields #[.none, .bool false, .ref s.heap.objs.size, rawInt 0, .none, .none] } }) :=
  .of_wp fun prog w A R s z => by
    obtain ⟨hp, gs, dr, tk, os⟩ := s
    obtain ⟨hz, z⟩ := z
    have sub := sub_enumerate
    have step : ∀ {A' : Around} {E : Value → Shared → Prop} {Q : Value → Shared → Prop}, Q (.ref hp.objs.size) ⟨hp.push { cls := .type "tuple_iterator", data := .fields #[.ref t, .int 0 0] }, gs, dr, tk, os⟩ → wpAny (model prog w) A' (pyIter (.ref t)) Q E ⟨hp, gs, dr, tk, os⟩ :=
      fun q => (begins_tuple t zs).iter prog w _ _ ⟨hp, gs, dr, tk, os⟩ _ hz q
    wp_walk using step
    refine wpAny_stack_any fun st => wpAny_pure ?_
    split
    · rename_i c _ _ _ _ _
      cases (c == Value.type "enumerate")
      · wp_walk using step
        exact ⟨_, rfl, z⟩
      · wp_walk using step
        exact ⟨_, rfl, z⟩
    · wp_walk using step
      exact ⟨_, rfl, z⟩
section
variable {prog : Program} {w : World} {A : Around} {E : Value → Shared → Prop} {s : Shared}
theorem enT_call {t : Addr} {zs : Array Value} {Q : Value → Shared → Prop} (ht : s.heap.IsTuple t zs)
    (k : ∀ h', IsEnum h' (s.heap.objs.size + 1) s.heap.objs.size 0 .none → h'.IsTupleIter s.heap.objs.size t 0 → h'.objs.size = s.heap.objs.size + 2 →
      (∀ b o, s.heap.get? b = some o → h'.get? b = some o) → Q (.ref (s.heap.objs.size + 1)) { s with heap := h' }) :
    wpAny (model prog w) A (call (.type "enumerate") [.ref t]) Q E s := by
  refine callType_new F.called_enumerate (by decide) (F.typeCall_enumerate_1 _) (F.newCall_enumerate_1 _) (fun obj => F.args_object_init_2 obj _) F.entry_enumerate_new (enT_new t zs) ⟨ht, ?_⟩
  have ez : (s.heap.push { cls := .type "tuple_iterator", data := .fields #[.ref t, .int 0 0] }).objs.size = s.heap.objs.size + 1 := Heap.size_push ..
  show _ ∧ _
  rw [ez]
  have en : IsEnum ((s.heap.push { cls := .type "tuple_iterator", data := .fields #[.ref t, .int 0 0] }).push { cls := .type "enumerate", data := .fields #[.none, .bool false, .ref s.heap.objs.size, rawInt 0, .none, .none] })
      (s.heap.objs.size + 1) s.heap.objs.size 0 .none := by
    have y := Heap.get?_push_size (s.heap.push { cls := .type "tuple_iterator", data := .fields #[.ref t, .int 0 0] }) (o := { cls := .type "enumerate", data := .fields #[.none, .bool false, .ref s.heap.objs.size, rawInt 0, .none, .none] }) rfl
    rw [ez] at y; exact y
  exact ⟨⟨_, en, rfl⟩, k _ en ⟨_, Heap.get?_push_of_some _ (Heap.get?_push_size _ rfl), rfl, rfl⟩ (by rw [Heap.size_push, ez]) fun b o x => Heap.get?_push_of_some _ (Heap.get?_push_of_some _ x)⟩
theorem enT_end {e it t : Addr} {i : Nat} {zs : Array Value} {old : Value} {Q : Option Value → Shared → Prop} (hh : A.handled = none) (he : IsEnum s.heap e it i old) (hit : s.heap.IsTupleIter it t i) (ht : s.heap.IsTuple t zs) (hx : zs.size ≤ i)
    (k : ∀ h', Heap.ExtBut it s.heap h' → Q none { s with heap := h' }) : wpAny (model prog w) A (pyNext (.ref e)) Q E s := by
  have hT : s.TypeIs (.ref e) "enumerate" := ⟨_, he, rfl⟩
  unfold pyNext
  refine wpAny_bind (wpAny_attempt (wpAny_callSpecial?_slot (name := Str.ofString "__next__") hT F.slot_enumerate_next (wpAny_call_entry F.slot_enumerate_next hT F.entry_enumerate_next ?_ (F.args_enumerate_next_1 _))))
  show wpAny _ _ (field (.ref e) 2 >>= _) _ _ _
  refine wpAny_bind (wpAny_field he rfl (x := .ref it) rfl (wpAny_bind (wpAny_nextOf_tuple_end (show A.in1.handled = none from hh) hit ht (Array.getElem?_eq_none hx) fun h' x eb hx' => ?_)))
  obtain ⟨o, ho, hc⟩ := hx'
  exact wpAny_bind (wpAny_isInstance (T := "StopIteration") (b := true) ⟨o, ho, hc⟩ isSubtype_stop (wpAny_pure (k _ eb)))
end
/-- the tuple at a, each item in a new pair with its place -/
def Iet (K : PySem.W.Frag) (a : Addr) : It :=
  ⟨fun i H => ∃ (xs : List V) (x : V), SqT K H a xs ∧ xs[i]? = some x, fun i H v H' => ∃ T x, v = .ref T ∧ H T = none ∧ H' = upd H T (.tup [.int (i : Nat), x]) ∧ ∀ xs, SqT K H a xs → xs[i]? = some x, fun i H => ∃ xs : List V, SqT K H a xs ∧ xs.length ≤ i⟩
theorem turn_enT {P : Program} {w : World} {K : PySem.W.Frag} {elts : List PySem.Expr} {kk : Nat} {tpos : Pos} (a e it : Addr) (ae : a ≠ e) (ai : a ≠ it) :
    Turn P w K (.Tuple elts kk tpos) (Iet K a) [e, it] e (fun i h => (∃ old, IsEnum h e it ((i : Nat) : Int) old) ∧ h.IsTupleIter it a i ∧ e ≠ it) where
  mem := List.mem_cons_self ..
  obj := fun i h st b hb => by
    obtain ⟨⟨old, he⟩, ⟨o, ho, hc, hd⟩, _⟩ := st
    rcases List.mem_cons.mp hb with z | z
    · rw [z]; exact ⟨_, he, fun v q => nomatch q⟩
    · rw [List.mem_singleton.mp z]; exact ⟨o, ho, fun v q => by rw [hd] at q; cases q⟩
  keep := fun i h h' st k => by
    obtain ⟨⟨old, he⟩, hi, hne⟩ := st
    exact ⟨⟨old, k e (List.mem_cons_self ..) _ he⟩, hi.at fun o q => k it (List.mem_cons_of_mem _ (List.mem_singleton.mpr rfl)) o q, hne⟩
  item := by
    intro X hP hw hK hc i pins s σ H E I hf st hg
    subst hP hw hK
    obtain ⟨⟨old, he⟩, hit, hne⟩ := st
    obtain ⟨xs, x, hq, hx⟩ := hg
    obtain ⟨its, rv, p, hz⟩ := I.tuple hq
    obtain ⟨u, hu, ru⟩ := rv.get hx
    have il : i < its.toArray.size := by
      have := (List.getElem?_eq_some_iff.mp hu).1
      rw [List.size_toArray]; exact this
    have hel : e < s.heap.objs.size := Heap.lt_size he
    have hil : it < s.heap.objs.size := by obtain ⟨_, q, _⟩ := hit; exact Heap.lt_size q
    have D := Draws.tuple (prog := X.prog) (w := X.w) (A := X.A.in1) (show X.A.in1.handled = none from I.ok.hd hc) it a ai its.toArray
    refine wpAny_pyNext_enum_itemD D he ⟨hit, p⟩ il hne (fun m => by
      rcases List.mem_cons.mp m with m | m
      · exact hne m
      · exact ae (List.mem_singleton.mp m).symm) fun x' h' tk px ho hst' hT hsz hk => ?_
    have eu : x' = u := by
      have y : its.toArray[i]? = some u := by rw [List.getElem?_toArray]; exact hu
      rw [px] at y
      exact Option.some.inj y
    subst eu
    refine ⟨_, rfl, wpAny_letOwnedTupleGo_enum (s := { s with heap := h', toks := tk + 1 }) ho fun h'' he' sb => ?_⟩
    have hT2 : h''.get? s.heap.objs.size = some { cls := .type "tuple", data := .seq #[.int i tk, x'] } := (sb.2 _ (Nat.ne_of_gt hel)).trans hT
    have new : ObjOk X.prog X.w (upd H s.heap.objs.size (.tup [.int (i : Nat), x])) h'' s.heap.objs.size (.tup [.int (i : Nat), x]) :=
      ⟨two_le, [.int i tk, x'], .cons ⟨_, rfl⟩ (.cons ru .nil), ⟨_, hT2, rfl, _, rfl⟩⟩
    have J : Inv X pins σ (upd H s.heap.objs.size (.tup [.int (i : Nat), x])) { s with heap := h'', toks := tk + 1 } :=
      I.turnedNew (ch := [e, it]) (fun b ob hb q => (sb.2 b (fun z => hb (z ▸ List.mem_cons_self ..))).trans (hk b ob (fun z => hb (z ▸ List.mem_cons_self ..)) (fun z => hb (z ▸ List.mem_cons_of_mem _ (List.mem_singleton.mpr rfl))) q)) hf (Nat.le_refl _) new
    refine ⟨.ref s.heap.objs.size, _, J, rfl, ⟨_, x, rfl, I.hok.fresh (Nat.le_refl _), rfl, fun ys hy => by rw [I.tuple_inj hy hq]; exact hx⟩, ⟨⟨x', ?_⟩, hst'.1.at fun o q => (sb.2 it (Ne.symm hne)).trans q, hne⟩, fun b hb => ?_⟩
    · rw [show ((i + 1 : Nat) : Int) = (i : Int) + 1 by omega]; exact he'
    · have lb : b < s.heap.objs.size := by
        rcases List.mem_cons.mp hb with z | z
        · rw [z]; exact hel
        · rw [List.mem_singleton.mp z]; exact hil
      rw [upd_ne (Nat.ne_of_lt lb)]
      exact (hf b hb).1
  done := by
    intro X hP hw hK hc i pins s σ H E I hf st hg
    subst hP hw hK
    obtain ⟨⟨old, he⟩, hit, hne⟩ := st
    obtain ⟨xs, hq, hx⟩ := hg
    obtain ⟨its, rv, p, hz⟩ := I.tuple hq
    obtain ⟨f0, f1, f2, f3, f4, f5⟩ := hf it (List.mem_cons_of_mem _ (List.mem_singleton.mpr rfl))
    have hl := rv.length
    exact enT_end (I.ok.hd hc) he hit p (by rw [List.size_toArray]; omega) fun h' eb => ⟨rfl, I.turned (t' := s.toks) (fun b o hb q => eb b o hb q) f0 f1 f3 f4 f5⟩
  self := fun A i s Q E st h => by
    obtain ⟨⟨_, he⟩, _⟩ := st
    exact wpAny_pyIter_enum he h
def iEnT (K : PySem.W.Frag) (ta : TA) : TI := fun σ H R => ta σ H fun vs H1 => ∃ a xs, vs = [.ref a] ∧ SqT K H1 a xs ∧ R (Iet K a) H1
theorem pi_enT {X : Cx} {e : PySem.Expr} {ta : TA} {p pos tpos : Pos} {elts : List PySem.Expr} {kk : Nat} (hg : Gl X "enumerate") (hm : X.mg "enumerate" = none) (ha : PA X [e] ta) (hs : starEach [e] X.env = [(false, eval e X.env)] := by rfl) :
    L2.PI X (.Tuple elts kk tpos) (.Call (.Name "enumerate" p) [e] [] pos) (iEnT X.K ta) := by
  refine ⟨fun pins s σ H R I h => Call_ (ld_blt I hg hm boot_enumerate (PyProof.Rows.callWith_type1 (thn (ha.run pos pins s σ H _ I h) fun us s1 ⟨vs, H1, J, r1, q1⟩ => ?_) hs rfl))⟩
  obtain ⟨a, xs, ex, hq, q⟩ := q1
  subst ex
  cases r1 with
  | cons r rr =>
    cases rr
    cases r
    obtain ⟨its, rv, p', hz⟩ := J.tuple hq
    have la : a < s1.heap.objs.size := p'.lt
    refine enT_call p' fun h' he hit hsz hk => wpAny_pyIter_enum he ?_
    have J2 : Inv X pins σ H1 { s1 with heap := h' } := J.kept (t' := s1.toks) hk
    refine ⟨s1.heap.objs.size + 1, [s1.heap.objs.size + 1, s1.heap.objs.size], _, _, H1, rfl, J2, turn_enT a (s1.heap.objs.size + 1) s1.heap.objs.size (Nat.ne_of_lt (Nat.lt_succ_of_lt la)) (Nat.ne_of_lt la), ⟨⟨.none, he⟩, hit, Nat.succ_ne_self _⟩, fun b hb => ?_, q⟩
    have lb : s1.heap.objs.size ≤ b := by
      rcases List.mem_cons.mp hb with z | z
      · rw [z]; exact Nat.le_add_right _ _
      · rw [List.mem_singleton.mp z]; exact Nat.le_refl _
    exact J.fpOk lb (J.hok.fresh lb)
theorem walk_enT {K : PySem.W.Frag} {a : Addr} {xs : List V} : Walk (Iet K a) xs.length (fun H => SqT K H a xs) (YPair (fun i => some (.int (i : Nat))) (fun i => xs[i]?)) := by
  refine ⟨fun i _ hi q => ⟨xs, xs[i], q, List.getElem?_eq_getElem hi⟩, fun _ q => ⟨xs, q, Nat.le_refl _⟩, fun i H v H' _ q y => ?_⟩
  obtain ⟨T, x, h1, h2, h3, h4⟩ := y
  exact ⟨T, .int (i : Nat), x, h1, h2, h3, rfl, h4 xs q⟩
/-- sorted(d) of a dict whose keys are ints -/
@[irreducible] def rSortDI : List V → Hp → VK → Prop := fun xs H Q => ∃ (a : Addr) (kvs : List (Key × V)) (ks : List Int), xs = [.ref a] ∧ Rd H a (.dK kvs) ∧ kvs.map (·.1) = ks.map Sum.inl ∧
  ∀ (ys : List Int) (p : Addr), ys.Perm ks → ys.Pairwise (· ≤ ·) → H p = none → Q (.ref p) (upd H p (.lst (ys.map V.int)))
theorem ints_at : ∀ {vs : List Value} {ns : List Int}, vs.length = ns.length → (∀ (j : Nat) (v : Value), vs[j]? = some v → ∃ i t, ns[j]? = some i ∧ v = Value.int i t) → IntsAre vs ns
  | [], [], _, _ => .nil
  | v :: vs, n :: ns, l, h => by
    obtain ⟨i, t, e, rfl⟩ := h 0 v rfl
    cases (show some n = some i from e)
    exact .cons n t (ints_at (by simpa using l) fun j u z => h (j + 1) u z)
  | [], _ :: _, l, _ => by simp at l
  | _ :: _, [], l, _ => by simp at l
theorem call_sortDI {X : Cx} (hc : X.calm = true) : CallR X (.builtin "sorted") rSortDI := by
  intro pins s σ H xs us Q I r q
  unfold rSortDI at q
  obtain ⟨a, kvs, ks, rfl, hd, hks, q⟩ := q
  rw [Vals.ref1 r]
  obtain ⟨z, lo, vs, rel, dd⟩ := dk_rd I.hok hd
  obtain ⟨ep, hat⟩ := dd.dictAt
  have hkeys : vs.map (·.1) = ks.map Sum.inl := rel.keys.symm.trans hks
  have hl : vs.length = ks.length := by
    have e := congrArg List.length hkeys
    rw [List.length_map, List.length_map] at e; exact e
  have hz : vs.length ≤ sizeLine := by rw [← rel.length]; exact z
  refine Calls.call_function_entry PyProof.Rows.kind_sorted PyProof.Rows.plain_sorted PyProof.Rows.entry_sorted (PyProof.Rows.args_sorted1 _) ?_
  unfold Builtin.«sorted»
  refine wpAny_bind (m := checkCount "sorted" 1 1 _) (wpAny_pure (wpAny_bind (PySem.W.kdu_collect (A := X.A.in1) (PySem.W.kdl_dict (knd := mixKind X.prog X.w) (kvs := vs) (ep := ep) lo) (I.ok.hd hc) hat hz fun h' tk acc hk hacc => ?_)))
  have hal : acc.toList.length = ks.length := by rw [Array.length_toList, hacc.1, hl]
  have hS : IntsAre acc.toList ks := ints_at hal fun j v e => by
    obtain ⟨k, x, e1, e2⟩ := hacc.2 j v (by rw [← Array.getElem?_toList]; exact e)
    have e3 : (vs.map (·.1))[j]? = some k := by rw [List.getElem?_map, e1]; rfl
    rw [hkeys, List.getElem?_map] at e3
    cases e4 : ks[j]? with
    | none => rw [e4] at e3; cases e3
    | some y =>
      rw [e4] at e3
      have e5 : Sum.inl y = k := Option.some.inj e3
      subst e5
      rcases keyIs_shape (show keyIs (Sum.inl y) v = true from e2) with ⟨i, t, ek, ev⟩ | ⟨w', t, ek, ev⟩
      · cases ek; exact ⟨y, t, rfl, ev⟩
      · cases ek
  have J : Inv X pins σ H { s with heap := h', toks := tk } := I.kept hk
  refine wpAny_bind (wpAny_newList ?_ (by rw [hal, ← hl]; exact hz))
  have hoL : (h'.push (seqObj "list" acc.toList.toArray 0)).get? h'.objs.size = some (seqObj "list" acc.toList.toArray 0) := Heap.get?_push_size _ rfl
  show wpAny _ _ _ _ _ { s with heap := h'.push (seqObj "list" acc.toList.toArray 0), toks := tk }
  refine wpAny_bind (wpAny_holding (wpAny_call_entry PyProof.Rows.slot_list_sort ⟨_, hoL, rfl⟩ PyProof.Rows.entry_list_sort
    (SrtO.list_sort_ord (s := { s with heap := h'.push (seqObj "list" acc.toList.toArray 0), toks := tk }) SrtO.swo_int hoL (by rw [hal, ← hl]; exact hz) (fun h2 => SrtO.ints_sortable hS h2) fun out k1 k2 => ⟨_, rfl, ?_⟩) (PyProof.Rows.args_list_sort _)))
  obtain ⟨g1, g2, g3⟩ := SrtO.ints_out hS k1 k2
  obtain ⟨e', he'⟩ := PyProof.Rows.sortedHeap_at (vs := acc.toList) (out := out.toArray) hoL
  have hlen : ((out.map SrtO.iv).map V.int).length ≤ sizeLine := by rw [List.length_map, g2.length_eq, ← hl]; exact hz
  refine wpAny_pure ⟨_, rfl, .ref h'.objs.size, upd H h'.objs.size (.lst ((out.map SrtO.iv).map V.int)), J.laid (t' := tk) (fun b u e => ?_) (Nat.le_refl _)
    (show ObjOk X.prog X.w _ _ _ (.lst ((out.map SrtO.iv).map V.int)) from ⟨hlen, out, e', vals_of_ints g1, he'⟩), rfl, q _ _ g2 g3 (J.hok.fresh (Nat.le_refl _))⟩
  have hb : b < h'.objs.size := Heap.lt_size e
  rw [PyProof.Rows.sortedHeap_old (Nat.ne_of_lt hb) (by rw [Heap.size_push]; exact Nat.lt_succ_of_lt hb)]
  exact Heap.get?_push_of_some _ e
end
/-! ### dicts keyed by data: tuples in tuples -/
section
open PySem.Spec PyProof.Rows
mutual
def keyD : PyData → NestedKey
  | .int i => .num i
  | .str x => .text x
  | .tuple xs => .tup (keyDs xs)
  | _ => .none
def keyDs : List PyData → List NestedKey
  | [] => []
  | d :: ds => keyD d :: keyDs ds
end
mutual
def kable : PyData → Bool
  | .none => true
  | .int _ => true
  | .str _ => true
  | .tuple xs => kables xs
  | _ => false
def kables : List PyData → Bool
  | [] => true
  | d :: ds => kable d && kables ds
end
mutual
theorem keyD_eqv : ∀ a b : PyData, kable a = true → kable b = true → (keyD a = keyD b ↔ PyData.eqv a b = true)
  | .none, b, _, hb => by cases b <;> simp_all [keyD, PyData.eqv, kable]
  | .int i, b, _, hb => by cases b <;> simp_all [keyD, PyData.eqv, kable]
  | .str x, b, _, hb => by cases b <;> simp_all [keyD, PyData.eqv, kable]
  | .tuple xs, .tuple ys, ha, hb => by
    rw [keyD, keyD, PyData.eqv, NestedKey.tup.injEq]
    exact keyDs_eqv xs ys (by rw [kable] at ha; exact ha) (by rw [kable] at hb; exact hb)
  | .tuple xs, .none, _, _ => by simp [keyD, PyData.eqv]
  | .tuple xs, .int _, _, _ => by simp [keyD, PyData.eqv]
  | .tuple xs, .str _, _, _ => by simp [keyD, PyData.eqv]
  | .tuple xs, .bool _, _, hb => by simp [kable] at hb
  | .tuple xs, .list _, _, hb => by simp [kable] at hb
  | .tuple xs, .dict _, _, hb => by simp [kable] at hb
  | .bool _, _, ha, _ => by simp [kable] at ha
  | .list _, _, ha, _ => by simp [kable] at ha
  | .dict _, _, ha, _ => by simp [kable] at ha
theorem keyDs_eqv : ∀ a b : List PyData, kables a = true → kables b = true → (keyDs a = keyDs b ↔ PyData.eqvAll a b = true)
  | [], [], _, _ => by simp [keyDs, PyData.eqvAll]
  | [], _ :: _, _, _ => by simp [keyDs, PyData.eqvAll]
  | _ :: _, [], _, _ => by simp [keyDs, PyData.eqvAll]
  | a :: as, b :: bs, ha, hb => by
    rw [kables, Bool.and_eq_true] at ha hb
    rw [keyDs, keyDs, PyData.eqvAll, Bool.and_eq_true, List.cons.injEq, keyD_eqv a b ha.1 hb.1, keyDs_eqv as bs ha.2 hb.2]
end
mutual
theorem keyD_depth : ∀ d : PyData, (keyD d).depth ≤ d.depth
  | .none => by simp [keyD, NestedKey.depth]
  | .int _ => by simp [keyD, NestedKey.depth]
  | .str _ => by simp [keyD, NestedKey.depth]
  | .bool _ => by simp [keyD, NestedKey.depth]
  | .list _ => by simp [keyD, NestedKey.depth]
  | .dict _ => by simp [keyD, NestedKey.depth]
  | .tuple xs => by
    rw [keyD, NestedKey.depth, PyData.depth]
    exact Nat.succ_le_succ (keyDs_depth xs)
theorem keyDs_depth : ∀ ds : List PyData, NestedKey.depthAll (keyDs ds) ≤ PyData.depthAll ds
  | [] => by simp [keyDs, NestedKey.depthAll]
  | d :: ds => by
    have h1 := keyD_depth d
    have h2 := keyDs_depth ds
    rw [keyDs, NestedKey.depthAll, PyData.depthAll]
    omega
end
section
variable {X : Cx} {pins : List (Addr × Obj)} {σ : L2.St} {H : Hp} {s : Shared}
mutual
theorem key_at (I : Inv X pins σ H s) : ∀ (d : PyData) (v : V) (u : Value), kable d = true → Dp X.K H v d → RelV v u → NestedIs s.heap (keyD d) u
  | .none, _, _, _, hd, r => by cases hd; cases r; exact .none
  | .int i, _, _, _, hd, r => by cases hd; obtain ⟨t, rfl⟩ := r; exact .int _ _
  | .str x, _, _, _, hd, r => by cases hd; obtain ⟨t, rfl⟩ := r; exact .text _ _
  | .tuple ds, _, _, hk, hd, r => by
    cases hd with
    | tup hs ha =>
      cases r
      obtain ⟨its, rv, ⟨o, ho, hc, n, hdt⟩, _⟩ := I.tuple hs
      exact .tup ho hc hdt (by simpa using keys_at I ds _ its (by rw [kable] at hk; exact hk) ha rv)
  | .bool _, _, _, hk, _, _ => by simp [kable] at hk
  | .list _, _, _, hk, _, _ => by simp [kable] at hk
  | .dict _, _, _, hk, _, _ => by simp [kable] at hk
theorem keys_at (I : Inv X pins σ H s) : ∀ (ds : List PyData) (vs : List V) (us : List Value), kables ds = true → DpAll X.K H vs ds → Vals vs us → NestedAll s.heap (keyDs ds) us
  | [], _, _, _, hd, r => by cases hd; cases r; exact .nil
  | d :: ds, _, _, hk, hd, r => by
    rw [kables, Bool.and_eq_true] at hk
    cases hd with
    | cons h1 h2 =>
      cases r with
      | cons r1 r2 => exact .cons (key_at I d _ _ hk.1 h1 r1) (keys_at I ds _ _ hk.2 h2 r2)
end
end
/-- a key, the place of its tuple, the value -/
abbrev Ne := NestedKey × Addr × V
def RelN : List Ne → List (NestedKey × Addr × Value) → Prop := Paired fun p q => p.1 = q.1 ∧ p.2.1 = q.2.1 ∧ RelV p.2.2 q.2.2
def NOk (P : Program) (w : World) (a : Addr) (xs : List Ne) (h : Heap) : Prop := xs.length ≤ sizeLine ∧ (a == sysModules) = false ∧ ∃ ys, RelN xs ys ∧
  ∃ o es ep, h.get? a = some o ∧ o.ExactDict ∧ o.data = .dict es ep ∧ es.toList = ys.map (entryOfKey (nestedKind P w)) ∧ (ys.map (·.1)).Nodup
/-- a dict of such keys -/
def DictN (P : Program) (w : World) (a : Addr) (xs : List Ne) : HO := .ext (NOk P w a xs)
theorem NOk.obj {P : Program} {w : World} {a : Addr} {xs : List Ne} {h : Heap} {H : Hp} (x : NOk P w a xs h) : ObjOk P w H h a (DictN P w a xs) := by
  refine ⟨x, ?_, fun h1 h2 y k => ?_⟩
  · obtain ⟨_, _, _, _, o, _, _, e, _⟩ := x
    exact ⟨o, e⟩
  · obtain ⟨z1, z2, ys, r, o, es, ep, e, c⟩ := y
    exact ⟨z1, z2, ys, r, o, es, ep, k _ e, c⟩
def valN (xs : List Ne) (k : NestedKey) : Option V := (xs.find? fun x => decide (x.1 = k)).map (·.2.2)
def putN (xs : List Ne) (k : NestedKey) (b : Addr) (v : V) : List Ne := if (valN xs k).isSome then xs.map (fun x => if x.1 = k then (x.1, x.2.1, v) else x) else xs ++ [(k, b, v)]
theorem RelN.val {xs : List Ne} {ys : List (NestedKey × Addr × Value)} (r : RelN xs ys) (k : NestedKey) : RelO (valN xs k) ((atKey ys k).map (·.2)) := by
  induction r with
  | nil => exact True.intro
  | @cons p q ps qs h t ih =>
    obtain ⟨h1, h2, h3⟩ := h
    unfold valN atKey at ih ⊢
    rw [List.find?_cons, List.find?_cons]
    by_cases e : p.1 = k
    · rw [decide_eq_true e, decide_eq_true (h1 ▸ e)]
      exact h3
    · rw [decide_eq_false e, decide_eq_false (h1 ▸ e)]
      exact ih
theorem RelN.put {xs : List Ne} {ys : List (NestedKey × Addr × Value)} (r : RelN xs ys) (k : NestedKey) (b : Addr) {v : V} {u : Value} (rv : RelV v u) : RelN (putN xs k b v) (storedH ys k b u) := by
  have e : (valN xs k).isSome = (atKey ys k).isSome := by
    rw [(r.val k).isSome_eq, Option.isSome_map]
  unfold putN storedH
  rw [e]
  by_cases h : (atKey ys k).isSome = true
  · rw [if_pos h, if_pos h]
    clear e h
    induction r with
    | nil => exact .nil
    | @cons p q ps qs hpq t ih =>
      obtain ⟨h1, h2, h3⟩ := hpq
      refine .cons ?_ ih
      unfold putAt
      dsimp only
      by_cases e : p.1 = k
      · rw [if_pos e, if_pos (h1 ▸ e)]; exact ⟨h1, h2, rv⟩
      · rw [if_neg e, if_neg (h1 ▸ e)]; exact ⟨h1, h2, h3⟩
  · rw [if_neg h, if_neg h]
    clear e h
    induction r with
    | nil => exact .cons ⟨rfl, rfl, rv⟩ .nil
    | cons hpq t ih => exact .cons hpq ih
/-- the keys stand yet -/
def KeysN (K : PySem.W.Frag) (H : Hp) (xs : List Ne) : Prop := ∀ t ∈ xs, ∃ d, keyD d = t.1 ∧ kable d = true ∧ d.depth ≤ 8 ∧ Dp K H (.ref t.2.1) d
section
variable {X : Cx} {pins : List (Addr × Obj)} {σ : L2.St} {H : Hp} {s : Shared} {a : Addr} {xs : List Ne}
theorem n_of (I : Inv X pins σ H s) (e : H a = some (DictN X.prog X.w a xs)) (hk : KeysN X.K H xs) : xs.length ≤ sizeLine ∧ (a == sysModules) = false ∧ ∃ ys, RelN xs ys ∧ s.heap.DictOfH (nestedKind X.prog X.w) a ys := by
  obtain ⟨⟨z1, z2, ys, r, o, es, ep, e1, e2, e3, e4, e5⟩, _⟩ := (show ObjOk X.prog X.w H s.heap a (DictN X.prog X.w a xs) from I.hok a _ e)
  refine ⟨z1, z2, ys, r, o, es, ep, e1, e2, e3, e4, ?_, e5⟩
  have all : ∀ {xs : List Ne} {ys : List (NestedKey × Addr × Value)}, RelN xs ys → KeysN X.K H xs → ∀ x ∈ ys, (nestedKind X.prog X.w).is s.heap x.1 x.2.1 := by
    intro xs ys r
    induction r with
    | nil => intro _ x hx; exact nomatch hx
    | @cons p q ps qs h t ih =>
      intro hk x hx
      obtain ⟨h1, h2, h3⟩ := h
      rcases List.mem_cons.mp hx with e | hx
      · subst e
        obtain ⟨d, k1, k2, k3, k4⟩ := hk p (List.mem_cons_self ..)
        rw [← h1, ← h2, ← k1]
        exact ⟨key_at I d _ _ k2 k4 rfl, Nat.le_trans (keyD_depth d) k3⟩
      · exact ih (fun t m => hk t (List.mem_cons_of_mem _ m)) x hx
  exact all r hk
end
/-- what the dict at a holds at the key y -/
def NGet (X : Cx) (H : Hp) (a : Addr) (y : V) (o : Option V) : Prop := ∃ xs b d, H a = some (DictN X.prog X.w a xs) ∧ KeysN X.K H xs ∧ y = .ref b ∧ Dp X.K H y d ∧ kable d = true ∧ d.depth ≤ 8 ∧ o = valN xs (keyD d)
def NPut (X : Cx) (H : Hp) (a : Addr) (y v : V) (H' : Hp) : Prop := ∃ xs b d, H a = some (DictN X.prog X.w a xs) ∧ KeysN X.K H xs ∧ y = .ref b ∧ Dp X.K H y d ∧ kable d = true ∧ d.depth ≤ 8 ∧ xs.length < sizeLine ∧ H' = upd H a (DictN X.prog X.w a (putN xs (keyD d) b v))
theorem putN_len (xs : List Ne) (k : NestedKey) (b : Addr) (v : V) : (putN xs k b v).length ≤ xs.length + 1 := by
  unfold putN
  split
  · rw [List.length_map]; omega
  · rw [List.length_append]; exact Nat.le_refl _
section
variable {X : Cx} {pins : List (Addr × Obj)} {σ : L2.St} {H : Hp} {s : Shared} {a : Addr} {y v : V} {u r : Value} {o : Option V} {A : Around} {E : Value → Shared → Prop}
theorem n_in {Q : Value → Shared → Prop} (hu : A.units + 9 < cLine) (I : Inv X pins σ H s) (g : NGet X H a y o) (ry : RelV y u) (h : ∀ s', Inv X pins σ H s' → Q (.bool o.isSome) s') : wpAny (model X.prog X.w) A (compareOp .In u (.ref a)) Q E s := by
  obtain ⟨xs, b, d, e, hk, rfl, hd, kd, dd, l⟩ := g
  cases (show u = Value.ref b from ry)
  obtain ⟨z, zd, ys, rel, D⟩ := n_of I e hk
  refine wpAny_in_heap (knd := nestedKind X.prog X.w) (show A.units + 1 + 8 < cLine by omega) ⟨key_at I d _ _ kd hd rfl, Nat.le_trans (keyD_depth d) dd⟩ zd D ?_
  have q := (rel.val (keyD d)).isSome_eq
  rw [Option.isSome_map] at q
  rw [← q, ← l]
  exact h _ (I.tok _)
theorem n_notIn {Q : Value → Shared → Prop} (hu : A.units + 9 < cLine) (I : Inv X pins σ H s) (g : NGet X H a y o) (ry : RelV y u) (h : ∀ s', Inv X pins σ H s' → Q (.bool (!o.isSome)) s') : wpAny (model X.prog X.w) A (compareOp .NotIn u (.ref a)) Q E s := by
  obtain ⟨xs, b, d, e, hk, rfl, hd, kd, dd, l⟩ := g
  cases (show u = Value.ref b from ry)
  obtain ⟨z, zd, ys, rel, D⟩ := n_of I e hk
  refine wpAny_notIn_heap (knd := nestedKind X.prog X.w) (show A.units + 1 + 8 < cLine by omega) ⟨key_at I d _ _ kd hd rfl, Nat.le_trans (keyD_depth d) dd⟩ zd D ?_
  have q := (rel.val (keyD d)).isSome_eq
  rw [Option.isSome_map] at q
  rw [← q, ← l]
  exact h _ (I.tok _)
theorem n_item {Q : Value → Shared → Prop} (hu : A.units + 9 < cLine) (I : Inv X pins σ H s) (g : NGet X H a y (some v)) (ry : RelV y u) (h : ∀ w' s', Inv X pins σ H s' → RelV v w' → Q w' s') : wpAny (model X.prog X.w) A (getItem (.ref a) u) Q E s := by
  obtain ⟨xs, b, d, e, hk, rfl, hd, kd, dd, l⟩ := g
  cases (show u = Value.ref b from ry)
  obtain ⟨z, zd, ys, rel, D⟩ := n_of I e hk
  obtain ⟨w', hw, rw'⟩ := RelO.some_of (v := v) (o := (atKey ys (keyD d)).map (·.2)) (by rw [l]; exact rel.val _)
  obtain ⟨p, hp, hp2⟩ := Option.map_eq_some_iff.mp hw
  refine wpAny_getItem_heap (knd := nestedKind X.prog X.w) (show A.units + 1 + 8 < cLine by omega) ⟨key_at I d _ _ kd hd rfl, Nat.le_trans (keyD_depth d) dd⟩ D hp ?_
  rw [hp2]
  exact h w' _ (I.tok _) rw'
theorem n_set {H' : Hp} {Q : Unit → Shared → Prop} (hu : A.units + 9 < cLine) (I : Inv X pins σ H s) (g : NPut X H a y v H') (ry : RelV y u) (rv : RelV v r) (h : ∀ s', Inv X pins σ H' s' → Q () s') : wpAny (model X.prog X.w) A (setItem (.ref a) u r) Q E s := by
  obtain ⟨xs, b, d, e, hk, rfl, hd, kd, dd, l, rfl⟩ := g
  cases (show u = Value.ref b from ry)
  obtain ⟨z, zd, ys, rel, D⟩ := n_of I e hk
  have hz : ys.length ≤ sizeLine := by rw [← Paired.length rel]; exact z
  have hl : (putN xs (keyD d) b v).length ≤ sizeLine := by have := putN_len xs (keyD d) b v; omega
  refine wpAny_setItem_heap (hsz := hz) (knd := nestedKind X.prog X.w) (show A.units + 1 + 8 < cLine by omega) ⟨key_at I d _ _ kd hd rfl, Nat.le_trans (keyD_depth d) dd⟩ D fun h' D' hs => h _ ?_
  obtain ⟨q, es, ep, hq, h2, h3, h4, _, h5⟩ := D'
  exact d_write I (by rw [e]; exact True.intro) hs ⟨q, hq⟩ (NOk.obj ⟨hl, zd, _, rel.put _ b rv, q, es, ep, hq, h2, h3, h4, h5⟩)
end
/-! the rules -/
def tNNew (P : Program) (w : World) : TE := fun _ H Q => ∀ p, H p = none → Q (.ref p) (upd H p (DictN P w p []))
def tNIn (X : Cx) (n : Bool) (ty td : TE) : TE := fun σ H Q => ty σ H fun y H1 => td σ H1 fun x H2 => ∃ a o, x = .ref a ∧ NGet X H2 a y o ∧ Q (.bl (if n then !o.isSome else o.isSome)) H2
def tNGet (X : Cx) (td ty : TE) : TE := fun σ H Q => td σ H fun x H1 => ty σ H1 fun y H2 => ∃ a v, x = .ref a ∧ NGet X H2 a y (some v) ∧ Q v H2
def sNPut (X : Cx) (td ty tv : TE) : TS := fun D σ H => tv σ H fun v H1 => td σ H1 fun x H2 => ty σ H2 fun y H3 => ∃ a H4, x = .ref a ∧ NPut X H3 a y v H4 ∧ D.nx σ H4
section
variable {X : Cx} {o i value : PySem.Expr} {pos pos' : Pos} {td ty tv : TE}
theorem pe_nnew : PE X (.Dict [] [] pos) (tNNew X.prog X.w) := ⟨fun pins s σ H Q I h => by
  refine wpAny_Dict_empty ⟨.ref s.heap.objs.size, _, I.laid (a := s.heap.objs.size) (o := DictN X.prog X.w s.heap.objs.size []) (t' := s.toks) (fun _ _ q => Heap.get?_push_of_some _ q) (Nat.le_refl _) ?_, rfl, h _ (I.hok.fresh (Nat.le_refl _))⟩
  exact NOk.obj ⟨Nat.zero_le _, beq_eq_false_iff_ne.mpr (Ne.symm (Nat.ne_of_lt I.big)), [], .nil, _, #[], 0, Heap.get?_push_size _ rfl, ⟨rfl, rfl, rfl⟩, rfl, rfl, List.nodup_nil⟩⟩
theorem pc_nin (hu : X.A.units + 9 < cLine) (hi : PE X i ty) (ho : PE X o td) : PC X .In i o (tNIn X false ty td) := by
  refine ⟨fun pins s σ H Q I h => thn (hi.run pins s σ H _ I h) fun iv s1 ⟨y, H1, J1, ry, q1⟩ => thn (ho.run pins s1 σ H1 _ J1 q1) fun u s2 ⟨x, H2, J2, rx, a, ov, ex, g, q2⟩ => ?_⟩
  subst ex
  obtain rfl : u = Value.ref a := rx
  exact n_in hu J2 g ry fun s3 J3 => ⟨.bl ov.isSome, H2, J3, rfl, q2⟩
theorem pc_nnotin (hu : X.A.units + 9 < cLine) (hi : PE X i ty) (ho : PE X o td) : PC X .NotIn i o (tNIn X true ty td) := by
  refine ⟨fun pins s σ H Q I h => thn (hi.run pins s σ H _ I h) fun iv s1 ⟨y, H1, J1, ry, q1⟩ => thn (ho.run pins s1 σ H1 _ J1 q1) fun u s2 ⟨x, H2, J2, rx, a, ov, ex, g, q2⟩ => ?_⟩
  subst ex
  obtain rfl : u = Value.ref a := rx
  exact n_notIn hu J2 g ry fun s3 J3 => ⟨.bl (!ov.isSome), H2, J3, rfl, q2⟩
theorem ps_nput (hu : X.A.units + 9 < cLine) (ho : PE X o td) (hi : PE X i ty) (hv : PE X value tv) (hs : swapsWith value (some (.Subscript o i pos')) pos.line X.env = pure false) : PS X (.Assign [.Subscript o i pos'] value pos) (sNPut X td ty tv) := by
  refine ⟨fun pins s σ H D I h => wpAny_Assign_Subscript (thn (hv.run pins s σ H _ I h) fun r s1 ⟨v, H1, J1, rv, q1⟩ => thn (ho.run pins s1 σ H1 _ J1 q1) fun u s2 ⟨x, H2, J2, rx, q2⟩ => thn (hi.run pins s2 σ H2 _ J2 q2) fun iv s3 ⟨y, H3, J3, ry, a, H4, ex, g, q3⟩ => ?_) hs⟩
  subst ex
  obtain rfl : u = Value.ref a := rx
  exact n_set hu J3 g ry rv fun s4 J4 => ⟨σ, H4, J4, q3⟩
end
/-! the same, of typed data -/
abbrev DL (α : Type) := List (Addr × α × V)
def neL {α : Type} [Dat α] (l : DL α) : List Ne := l.map fun t => (keyD (Dat.py t.2.1), t.1, t.2.2)
def DictD (P : Program) (w : World) {α : Type} [Dat α] (a : Addr) (l : DL α) : HO := DictN P w a (neL l)
def hasD {α : Type} [DecidableEq α] (l : DL α) (x : α) : Bool := l.any fun t => decide (t.2.1 = x)
def putD {α : Type} [DecidableEq α] (l : DL α) (b : Addr) (x : α) (v : V) : DL α := if hasD l x = true then l.map (fun t => if t.2.1 = x then (t.1, t.2.1, v) else t) else l ++ [(b, x, v)]
def KeysD {α : Type} [Dat α] (H : Hp) (l : DL α) : Prop := ∀ t ∈ l, Is H (.ref t.1) t.2.1
class Kd (α : Type) [Dat α] : Prop where
  k : ∀ d : α, kable (Dat.py d) = true
instance : Kd Int := ⟨fun _ => by show kable (.int _) = true; rw [kable]⟩
theorem kd_all {α : Type} [Dat α] [Kd α] : ∀ l : List α, kables (l.map Dat.py) = true
  | [] => by rw [List.map_nil, kables]
  | d :: l => by rw [List.map_cons, kables, Kd.k, kd_all l]; rfl
instance {α : Type} [Dat α] [Kd α] : Kd (Tup α) := ⟨fun d => by show kable (.tuple (d.l.map Dat.py)) = true; rw [kable]; exact kd_all d.l⟩
instance {α β : Type} [Dat α] [Dat β] [Kd α] [Kd β] : Kd (T2 α β) := ⟨fun d => by
  show kable (.tuple [Dat.py d.a, Dat.py d.b]) = true
  rw [kable, kables, kables, kables, Kd.k, Kd.k]; rfl⟩
instance {α β γ : Type} [Dat α] [Dat β] [Dat γ] [Kd α] [Kd β] [Kd γ] : Kd (T3 α β γ) := ⟨fun d => by
  show kable (.tuple [Dat.py d.a, Dat.py d.b, Dat.py d.c]) = true
  rw [kable, kables, kables, kables, kables, Kd.k, Kd.k, Kd.k]; rfl⟩
section
variable {α : Type} [Dat α] [DecidableEq α] [Kd α]
theorem keyD_inj (a b : α) : (keyD (Dat.py a) = keyD (Dat.py b)) = (a = b) := propext ((keyD_eqv _ _ (Kd.k a) (Kd.k b)).trans (Dat.eqv a b))
theorem KeysD.n {K : PySem.W.Frag} {H : Hp} {l : DL α} (h : KeysD H l) (hl : Dat.dep α ≤ 8) : KeysN K H (neL l) := fun t m => by
  obtain ⟨x, mx, rfl⟩ := List.mem_map.mp m
  exact ⟨Dat.py x.2.1, rfl, Kd.k _, Nat.le_trans (Dat.depth _) hl, Dat.dp (h x mx)⟩
theorem KeysD.up {H H' : Hp} {l : DL α} (h : KeysD H l) (s : Same H H') : KeysD H' l := fun t m => Is.up (h t m) s
theorem valN_neL (x : α) : ∀ l : DL α, (valN (neL l) (keyD (Dat.py x))).isSome = hasD l x
  | [] => rfl
  | t :: l => by
    have ih := valN_neL x l
    unfold valN neL hasD at ih ⊢
    rw [List.map_cons, List.find?_cons, List.any_cons]
    simp only [keyD_inj] at ih ⊢
    by_cases e : t.2.1 = x
    · rw [decide_eq_true e]; rfl
    · rw [decide_eq_false e, Bool.false_or]; exact ih
theorem putN_neL (l : DL α) (b : Addr) (x : α) (v : V) : putN (neL l) (keyD (Dat.py x)) b v = neL (putD l b x v) := by
  unfold putN putD
  rw [valN_neL]
  by_cases h : hasD l x = true
  · rw [if_pos h, if_pos h]
    unfold neL
    rw [List.map_map, List.map_map]
    congr 1
    funext t
    simp only [Function.comp, keyD_inj]
    by_cases e : t.2.1 = x
    · rw [if_pos e, if_pos e]
    · rw [if_neg e, if_neg e]
  · rw [if_neg h, if_neg h]
    unfold neL
    rw [List.map_append]; rfl
theorem NGet.d {X : Cx} {P : Program} {w : World} {H : Hp} {a b : Addr} {l : DL α} {x : α} (h : H a = some (DictD P w a l)) (k : KeysD H l) (hx : Is H (.ref b) x) (hP : X.prog = P := by rfl) (hw : X.w = w := by rfl) (hl : Dat.dep α ≤ 8 := by decide) : NGet X H a (.ref b) (valN (neL l) (keyD (Dat.py x))) := by
  subst hP hw
  exact ⟨neL l, b, Dat.py x, h, k.n hl, rfl, Dat.dp hx, Kd.k x, Nat.le_trans (Dat.depth x) hl, rfl⟩
theorem NPut.d {X : Cx} {P : Program} {w : World} {H : Hp} {a b : Addr} {l : DL α} {x : α} {v : V} (h : H a = some (DictD P w a l)) (k : KeysD H l) (hx : Is H (.ref b) x) (z : l.length < sizeLine) (hP : X.prog = P := by rfl) (hw : X.w = w := by rfl) (hl : Dat.dep α ≤ 8 := by decide) : NPut X H a (.ref b) v (upd H a (DictD P w a (putD l b x v))) := by
  subst hP hw
  exact ⟨neL l, b, Dat.py x, h, k.n hl, rfl, Dat.dp hx, Kd.k x, Nat.le_trans (Dat.depth x) hl, by unfold neL; rw [List.length_map]; exact z, by rw [putN_neL]; rfl⟩
theorem hasD_put (l : DL α) (b : Addr) (x y : α) (v : V) : hasD (putD l b x v) y = (decide (x = y) || hasD l y) := by
  unfold putD
  by_cases h : hasD l x = true
  · rw [if_pos h]
    have e : hasD (l.map fun t => if t.2.1 = x then (t.1, t.2.1, v) else t) y = hasD l y := by
      unfold hasD
      rw [List.any_map]
      congr 1
      funext t
      show decide ((if t.2.1 = x then (t.1, t.2.1, v) else t).2.1 = y) = _
      split <;> rfl
    rw [e]
    by_cases c : x = y
    · subst c; rw [h, Bool.or_true]
    · rw [decide_eq_false c, Bool.false_or]
  · rw [if_neg h]
    unfold hasD
    rw [List.any_append, List.any_cons, List.any_nil, Bool.or_false, Bool.or_comm]
theorem KeysD.put {H : Hp} {l : DL α} {b : Addr} {x : α} {v : V} (h : KeysD H l) (hx : Is H (.ref b) x) : KeysD H (putD l b x v) := fun t m => by
  unfold putD at m
  by_cases c : hasD l x = true
  · rw [if_pos c] at m
    obtain ⟨t0, m0, rfl⟩ := List.mem_map.mp m
    have z := h t0 m0
    show Is H (.ref (if t0.2.1 = x then (t0.1, t0.2.1, v) else t0).1) (if t0.2.1 = x then (t0.1, t0.2.1, v) else t0).2.1
    split <;> exact z
  · rw [if_neg c] at m
    rcases List.mem_append.mp m with m | m
    · exact h t m
    · rw [List.mem_singleton.mp m]; exact hx
theorem putD_len (l : DL α) (b : Addr) (x : α) (v : V) : (putD l b x v).length ≤ l.length + 1 := by
  unfold putD
  split
  · rw [List.length_map]; omega
  · rw [List.length_append]; exact Nat.le_refl _
end
theorem units9 {k : Nat} {A : Around} (r : Room k A) : A.units + 9 < cLine := by have := r.un; omega
end
/-! ### sorted(..) of data; of a dict keyed by data -/
section
open PySem.Spec PyProof.Rows PySem.W
/-- any two compare -/
class Lk (α : Type) [Dat α] : Prop where
  k : ∀ a b : α, alike (Dat.py a) (Dat.py b) = true
instance : Lk Int := ⟨fun a b => by show alike (.int a) (.int b) = true; rw [alike]⟩
theorem lk_all {α : Type} [Dat α] [Lk α] : ∀ xs ys : List α, alikeAll (xs.map Dat.py) (ys.map Dat.py) = true
  | [], _ => by rw [List.map_nil, alikeAll]
  | _ :: _, [] => by rw [List.map_nil, List.map_cons, alikeAll]
  | x :: xs, y :: ys => by rw [List.map_cons, List.map_cons, alikeAll, Lk.k x y, lk_all xs ys]; rfl
instance {α : Type} [Dat α] [Lk α] : Lk (Tup α) := ⟨fun a b => by show alike (.tuple (a.l.map Dat.py)) (.tuple (b.l.map Dat.py)) = true; rw [alike]; exact lk_all a.l b.l⟩
instance {α : Type} [Dat α] [Lk α] : Lk (List α) := ⟨fun a b => by show alike (.list (a.map Dat.py)) (.list (b.map Dat.py)) = true; rw [alike]; exact lk_all a b⟩
instance {α β : Type} [Dat α] [Dat β] [Lk α] [Lk β] : Lk (T2 α β) := ⟨fun a b => by
  show alike (.tuple [Dat.py a.a, Dat.py a.b]) (.tuple [Dat.py b.a, Dat.py b.b]) = true
  rw [alike, alikeAll, alikeAll, alikeAll, Lk.k, Lk.k]; rfl⟩
instance {α β γ : Type} [Dat α] [Dat β] [Dat γ] [Lk α] [Lk β] [Lk γ] : Lk (T3 α β γ) := ⟨fun a b => by
  show alike (.tuple [Dat.py a.a, Dat.py a.b, Dat.py a.c]) (.tuple [Dat.py b.a, Dat.py b.b, Dat.py b.c]) = true
  rw [alike, alikeAll, alikeAll, alikeAll, alikeAll, Lk.k, Lk.k, Lk.k]; rfl⟩
/-- all tuples that hold something, or none a tuple -/
class So (α : Type) [Dat α] : Prop where
  k : (∀ a : α, ∃ x r, Dat.py a = .tuple (x :: r)) ∨ ∀ a : α, Dat.py a ≠ .none ∧ ∀ xs, Dat.py a ≠ .tuple xs
instance : So Int := ⟨.inr fun _ => ⟨(fun e => nomatch e), fun _ e => nomatch e⟩⟩
instance {α : Type} [Dat α] : So (List α) := ⟨.inr fun _ => ⟨(fun e => nomatch e), fun _ e => nomatch e⟩⟩
instance {α β : Type} [Dat α] [Dat β] : So (T2 α β) := ⟨.inl fun _ => ⟨_, _, rfl⟩⟩
instance {α β γ : Type} [Dat α] [Dat β] [Dat γ] : So (T3 α β γ) := ⟨.inl fun _ => ⟨_, _, rfl⟩⟩
/-- Python's sorted -/
def sortD {α : Type} [Dat α] (l : List α) : List α := l.mergeSort (dataLe false Dat.py)
theorem sortD_perm {α : Type} [Dat α] (l : List α) : (sortD l).Perm l := List.mergeSort_perm _ _
theorem each_of {α : Type} [Dat α] {H : Hp} : ∀ {xs : List V} {its : List Value} {ds : List α}, Vals xs its → IsAll H xs ds → EachIs (fun u d => ∃ v, RelV v u ∧ Is H v d) its ds
  | _, _, [], .nil, _ => .nil
  | _, _, d :: ds, .nil, h => by have := h.1; simp at this
  | _, _, [], .cons _ _, h => by have := h.1; simp at this
  | x :: xs, u :: us, d :: ds, .cons r rs, h => .cons ⟨x, r, h.2 0 x d rfl rfl⟩ (each_of rs ⟨by have := h.1; simpa using this, fun i a b p q => h.2 (i + 1) a b (by simpa using p) (by simpa using q)⟩)
theorem each_back {α : Type} [Dat α] {H : Hp} : ∀ {its : List Value} {ds : List α}, EachIs (fun u d => ∃ v, RelV v u ∧ Is H v d) its ds → ∃ xs, Vals xs its ∧ IsAll H xs ds
  | _, _, .nil => ⟨[], .nil, All2.nil⟩
  | _, _, .cons ⟨v, r, i⟩ t => by
    obtain ⟨xs, rs, al⟩ := each_back t
    exact ⟨v :: xs, .cons r rs, All2.cons i al⟩
/-- sorted(xs), xs a list of data -/
@[irreducible] def rSortN (K : PySem.W.Frag) : List V → Hp → VK → Prop := fun vs H Q => ∃ (α : Type) (_ : Dat α) (_ : Lk α) (_ : So α) (F : Hp) (a : Addr) (xs : List V) (ds : List α), vs = [.ref a] ∧ Same F H ∧ SqL K H a xs ∧ IsAll F xs ds ∧ Dat.dep α ≤ 64 ∧
  ∀ (ys : List V) (p : Addr), IsAll F ys (sortD ds) → H p = none → Q (.ref p) (upd H p (.lst ys))
theorem rSortN.mk {α : Type} [Dat α] [Lk α] [So α] {K : PySem.W.Frag} {F H : Hp} {Q : VK} {a : Addr} {xs : List V} {ds : List α} (sF : Same F H) (h : SqL K H a xs) (al : IsAll F xs ds) (q : ∀ (ys : List V) (p : Addr), IsAll F ys (sortD ds) → H p = none → Q (.ref p) (upd H p (.lst ys))) (hd : Dat.dep α ≤ 64 := by decide) : rSortN K [.ref a] H Q := by
  unfold rSortN
  exact ⟨α, inferInstance, inferInstance, inferInstance, F, a, xs, ds, rfl, sF, h, al, hd, q⟩
/-- sorted(d), d a dict keyed by data -/
@[irreducible] def rSortDN (X : Cx) : List V → Hp → VK → Prop := fun vs H Q => ∃ (α : Type) (_ : Dat α) (_ : Lk α) (_ : So α) (F : Hp) (a : Addr) (l : DL α), vs = [.ref a] ∧ Same F H ∧ H a = some (DictD X.prog X.w a l) ∧ KeysD F l ∧ Dat.dep α ≤ 64 ∧
  ∀ (ys : List V) (p : Addr), IsAll F ys (sortD (l.map (·.2.1))) → H p = none → Q (.ref p) (upd H p (.lst ys))
theorem rSortDN.mk {α : Type} [Dat α] [Lk α] [So α] {X : Cx} {P : Program} {w : World} {F H : Hp} {Q : VK} {a : Addr} {l : DL α} (sF : Same F H) (h : H a = some (DictD P w a l)) (k : KeysD F l) (q : ∀ (ys : List V) (p : Addr), IsAll F ys (sortD (l.map (·.2.1))) → H p = none → Q (.ref p) (upd H p (.lst ys))) (hd : Dat.dep α ≤ 64 := by decide) (hP : X.prog = P := by rfl) (hw : X.w = w := by rfl) : rSortDN X [.ref a] H Q := by
  have h' : H a = some (DictD X.prog X.w a l) := by rw [hP, hw]; exact h
  unfold rSortDN
  exact ⟨α, inferInstance, inferInstance, inferInstance, F, a, l, rfl, sF, h', k, hd, q⟩
theorem rel_at : ∀ {xs : List Ne} {ys : List (NestedKey × Addr × Value)}, RelN xs ys → ∀ {j : Nat} {x : Ne}, xs[j]? = some x → ∃ y, ys[j]? = some y ∧ (x.1 = y.1 ∧ x.2.1 = y.2.1 ∧ RelV x.2.2 y.2.2)
  | _, _, .nil, j, x, e => by cases e
  | _, _, .cons h t, 0, x, e => by cases e; exact ⟨_, rfl, h⟩
  | _, _, .cons h t, j + 1, x, e => rel_at t (show _ = some x from e)
theorem vals_refs {α : Type} : ∀ l : DL α, Vals (l.map fun t => V.ref t.1) (l.map fun t => Value.ref t.1)
  | [] => .nil
  | t :: l => .cons rfl (vals_refs l)
theorem acc_eq {P : Program} {w : World} {α : Type} [Dat α] {l : DL α} {ys0 : List (NestedKey × Addr × Value)} {es : Array DictEntry} {acc : Array Value} (rel : RelN (neL l) ys0) (hes : es.toList = ys0.map (entryOfKey (nestedKind P w))) (hn : acc.size = es.size)
    (h : ∀ (i : Nat) (v : Value), acc[i]? = some v → ∃ hi : i < es.size, v = es[i].key) : acc.toList = l.map fun t => Value.ref t.1 := by
  have l0 : ys0.length = l.length := by
    have := Paired.length rel
    unfold neL at this
    rw [List.length_map] at this
    exact this.symm
  have l1 : es.size = l.length := by rw [← Array.length_toList, hes, List.length_map, l0]
  refine List.ext_getElem (by rw [Array.length_toList, hn, l1, List.length_map]) fun j h1 h2 => ?_
  have h1' : j < acc.size := by rw [Array.length_toList] at h1; exact h1
  have h2' : j < l.length := by rw [List.length_map] at h2; exact h2
  have hy : j < ys0.length := by omega
  have z := h j acc[j] (Array.getElem?_eq_getElem h1')
  have jn : (neL l)[j]? = some (keyD (Dat.py l[j].2.1), l[j].1, l[j].2.2) := by
    unfold neL
    rw [List.getElem?_map, List.getElem?_eq_getElem h2']; rfl
  have y := rel_at rel jn
  rw [List.getElem?_eq_getElem hy] at y
  have ry := y.choose_spec
  have ey : ys0[j] = y.choose := Option.some.inj ry.1
  have he : es.toList[j]? = some (entryOfKey (nestedKind P w) ys0[j]) := by rw [hes, List.getElem?_map, List.getElem?_eq_getElem hy]; rfl
  rw [Array.getElem?_toList, Array.getElem?_eq_getElem (by omega)] at he
  rw [Array.getElem_toList, List.getElem_map, z.choose_spec, Option.some.inj he]
  show Value.ref ys0[j].2.1 = Value.ref l[j].1
  rw [ey, ← ry.2.2.1]
theorem sort_new {prog : Program} {w : World} {A : Around} {E : Value → Shared → Prop} {s : Shared} {β : Type} {vs : List Value} {bs : List β} {enc : β → PyData} {R : Value → β → Prop} {a : Addr} {n : Nat} {P : PySem.Fin → Shared → Prop}
    (ho : s.heap.get? a = some (seqObj "list" vs.toArray n)) (e : EachIs R vs bs) (er' : EachIs (fun v b => ∃ as, Reads (sortingHeap s.heap a vs) v (enc b) as) vs bs) (hal : AllAlike (bs.map enc)) (hk : Sortable (bs.map enc)) (hL : vs.length ≤ sizeLine) (hu : ∀ b, b ∈ bs → A.units + (enc b).depth < cLine)
    (h : ∀ out : List Value, out.length = bs.length → EachIs R out (bs.mergeSort (dataLe false enc)) → P (.done (.ret .none)) { s with heap := sortedHeap s.heap a vs out.toArray }) : wpAny (model prog w) A (Builtin.«list.sort» ⟨[.ref a], []⟩) P E s :=
  list_sort_vals (κ := dataKind (sortingHeap s.heap a vs) (bs.map enc)) ho (SortsAt.data (s := { s with heap := sortingHeap s.heap a vs }) (each_map (R := fun v d => ∃ as, Reads (sortingHeap s.heap a vs) v d as) enc er') hal hk (bound_map hu)) hL
    (h _ (by rw [sortVals_length false rfl]; exact e.length) (sortVals_data false e er' hal))
section
variable {X : Cx}
theorem call_sortN (hu : X.A.units + 66 < cLine) : CallR X (.builtin "sorted") (rSortN X.K) := by
  intro pins s σ H vs us Q I r h
  unfold rSortN at h
  obtain ⟨α, i1, i2, i3, F, a, xs, ds, rfl, sF, hs, al, hd, q⟩ := h
  obtain ⟨its, rv, hl, hz⟩ := I.list hs
  rw [Vals.ref1 r]
  have e := each_of rv al
  have er : EachIs (fun u d => ∃ as, Reads s.heap u (Dat.py d) as) its ds := e.mono fun u d ⟨v, r1, i⟩ => Dp.reads I _ v u (Dat.dp (Is.up i sF)) r1
  refine sorted_data (enc := Dat.py) hl.isList e er (AllAlike.of Lk.k) ?_ (by rw [← al.1]; exact hz) (fun d _ => by have := Dat.depth d; omega) fun out ol eo => ?_
  · rcases So.k (α := α) with h | h
    · exact Sortable.tuples h
    · exact Sortable.others h
  · obtain ⟨ys, r2, al2⟩ := each_back eo
    obtain ⟨n, hn⟩ := sortedAll_at s.heap its (List.toArray out)
    have ly : ys.length ≤ sizeLine := by rw [r2.length, ol, ← al.1]; exact hz
    exact ⟨.ref (s.heap.objs.size + 1), upd H (s.heap.objs.size + 1) (.lst ys), I.laid (t' := s.toks) (fun b o e => sortedAll_old e) (Nat.le_succ _) ⟨ly, out, n, r2, hn⟩, rfl, q ys _ al2 (I.hok.fresh (Nat.le_succ _))⟩
theorem call_sortDN (hc : X.calm = true) (hu : X.A.units + 66 < cLine) : CallR X (.builtin "sorted") (rSortDN X) := by
  intro pins s σ H vs us Q I r h
  unfold rSortDN at h
  obtain ⟨α, i1, i2, i3, F, a, l, rfl, sF, hH, hk, hd, q⟩ := h
  rw [Vals.ref1 r]
  obtain ⟨⟨hz, lo, ys0, rel, o, es, ep, ho, hx, hdat, hes, hnd⟩, _, _⟩ := I.hok a _ hH
  have esz : es.size = (neL l).length := by rw [← Array.length_toList, hes, List.length_map, ← Paired.length rel]
  have raw : s.heap.DictRaw a es ep := ⟨o, ho, hx, hdat⟩
  refine Calls.call_function_entry PyProof.Rows.kind_sorted PyProof.Rows.plain_sorted PyProof.Rows.entry_sorted (PyProof.Rows.args_sorted1 _) ?_
  unfold Builtin.«sorted»
  refine wpAny_bind (m := checkCount "sorted" 1 1 _) (wpAny_pure (wpAny_bind (kdu_collect (A := X.A.in1) (KdlSrc.rawDict lo) (I.ok.hd hc) raw (by rw [esz]; exact hz) fun h' tk acc hk' hacc => ?_)))
  have J : Inv X pins σ H { s with heap := h', toks := tk } := I.kept hk'
  have eacc : acc.toList = l.map fun t => Value.ref t.1 := acc_eq rel hes hacc.1 hacc.2
  have rv : Vals (l.map fun t => V.ref t.1) acc.toList := by rw [eacc]; exact vals_refs l
  have al : IsAll F (l.map fun t => V.ref t.1) (l.map fun t => t.2.1) := ⟨by rw [List.length_map, List.length_map], fun i x y hx hy => by
    rw [List.getElem?_map] at hx hy
    obtain ⟨t, ht, rfl⟩ := Option.map_eq_some_iff.mp hx
    obtain ⟨t', ht', rfl⟩ := Option.map_eq_some_iff.mp hy
    cases ht.symm.trans ht'
    exact hk t (List.mem_of_getElem? ht)⟩
  have hlen : acc.toList.length ≤ sizeLine := by rw [eacc, List.length_map]; unfold neL at hz; rw [List.length_map] at hz; exact hz
  have e := each_of rv al
  have er : EachIs (fun u d => ∃ as, Reads h' u (Dat.py d) as) acc.toList (l.map fun t => t.2.1) := e.mono fun u d ⟨v, r1, i⟩ => Dp.reads J _ v u (Dat.dp (Is.up i sF)) r1
  refine wpAny_bind (wpAny_newList ?_ hlen)
  have hoL : (h'.push (seqObj "list" acc.toList.toArray 0)).get? h'.objs.size = some (seqObj "list" acc.toList.toArray 0) := Heap.get?_push_size _ rfl
  show wpAny _ _ _ _ _ { s with heap := h'.push (seqObj "list" acc.toList.toArray 0), toks := tk }
  have er' : EachIs (fun u d => ∃ as, Reads (sortingHeap (h'.push (seqObj "list" acc.toList.toArray 0)) h'.objs.size acc.toList) u (Dat.py d) as) acc.toList (l.map fun t => t.2.1) := er.mono fun _ _ ⟨as, r⟩ => ⟨as, Reads.keeps (fun b o e => sortingHeap_old (Nat.ne_of_lt (Heap.lt_size e)) (Heap.get?_push_of_some _ e)) r⟩
  refine wpAny_bind (wpAny_holding (wpAny_call_entry PyProof.Rows.slot_list_sort ⟨_, hoL, rfl⟩ PyProof.Rows.entry_list_sort
    (sort_new (s := { s with heap := h'.push (seqObj "list" acc.toList.toArray 0), toks := tk }) (enc := Dat.py) hoL e er' (AllAlike.of Lk.k) ?_ hlen (fun d _ => ?_) fun out ol so => ⟨_, rfl, ?_⟩) (PyProof.Rows.args_list_sort _)))
  · rcases So.k (α := α) with h | h
    · exact Sortable.tuples h
    · exact Sortable.others h
  · have := Dat.depth d
    show X.A.units + 2 + _ < cLine
    omega
  · obtain ⟨ys, r2, al2⟩ := each_back so
    obtain ⟨e', he'⟩ := PyProof.Rows.sortedHeap_at (vs := acc.toList) (out := out.toArray) hoL
    have ly : ys.length ≤ sizeLine := by rw [r2.length, ol, ← e.length]; exact hlen
    refine wpAny_pure ⟨_, rfl, .ref h'.objs.size, upd H h'.objs.size (.lst ys), J.laid (t' := tk) (fun b u e => ?_) (Nat.le_refl _) (show ObjOk X.prog X.w _ _ _ (.lst ys) from ⟨ly, out, e', r2, he'⟩), rfl, q ys _ al2 (J.hok.fresh (Nat.le_refl _))⟩
    have hb : b < h'.objs.size := Heap.lt_size e
    rw [PyProof.Rows.sortedHeap_old (Nat.ne_of_lt hb) (by rw [Heap.size_push]; exact Nat.lt_succ_of_lt hb)]
    exact Heap.get?_push_of_some _ e
end
end
theorem units66 {k : Nat} {A : Around} (r : Room k A) : A.units + 66 < cLine := by have := r.un; omega
def top (i : Nat) : Stmt := PySem.Challenge.pw_endnever_k54_like_ones_and_groups.main.body.getD i (.Pass ⟨0, 0, 0, 0⟩)
abbrev s_L_mixed : Stmt := top 17
abbrev N_L_mixed : List Str := ["_law_cell", "_law_k", "_law_rest", "_law_number"]
theorem sc_L_mixed : FnScope ["_law_cell", "_law_k", "_law_rest", "_law_number"] ["_law_cell", "_law_k"] (defScope s_L_mixed) := ⟨rfl, rfl, rfl, by decide +kernel, rfl, by decide +kernel, by decide +kernel⟩
abbrev s_L_purse : Stmt := top 18
abbrev N_L_purse : List Str := ["_law_script", "_law_cells", "_law_number", "_law_k"]
theorem sc_L_purse : FnScope ["_law_script", "_law_cells", "_law_number", "_law_k"] ["_law_script"] (defScope s_L_purse) := ⟨rfl, rfl, rfl, by decide +kernel, rfl, by decide +kernel, by decide +kernel⟩
abbrev s_L_draw : Stmt := top 19
abbrev N_L_draw : List Str := ["_law_purse_here", "_law_out_of", "_law_drawn"]
theorem sc_L_draw : FnScope ["_law_purse_here", "_law_out_of", "_law_drawn"] ["_law_purse_here", "_law_out_of"] (defScope s_L_draw) := ⟨rfl, rfl, rfl, by decide +kernel, rfl, by decide +kernel, by decide +kernel⟩
abbrev s_L_copy : Stmt := top 21
abbrev N_L_copy : List Str := ["_law_machine_here", "_law_entries"]
theorem sc_L_copy : FnScope ["_law_machine_here", "_law_entries"] ["_law_machine_here"] (defScope s_L_copy) := ⟨rfl, rfl, rfl, by decide +kernel, rfl, by decide +kernel, by decide +kernel⟩
abbrev s_is_entry : Stmt := top 6
abbrev N_is_entry : List Str := ["entry", "rows", "signs"]
theorem sc_is_entry : FnScope ["entry", "rows", "signs"] ["entry", "rows", "signs"] (defScope s_is_entry) := ⟨rfl, rfl, rfl, by decide +kernel, rfl, by decide +kernel, by decide +kernel⟩
abbrev s_is_machine : Stmt := top 7
abbrev N_is_machine : List Str := ["machine", "rows", "signs", "row", "entry"]
theorem sc_is_machine : FnScope ["machine", "rows", "signs", "row", "entry"] ["machine"] (defScope s_is_machine) := ⟨rfl, rfl, rfl, by decide +kernel, rfl, by decide +kernel, by decide +kernel⟩
abbrev s_must_machine : Stmt := top 8
abbrev N_must_machine : List Str := ["machine"]
theorem sc_must_machine : FnScope ["machine"] ["machine"] (defScope s_must_machine) := ⟨rfl, rfl, rfl, by decide +kernel, rfl, by decide +kernel, by decide +kernel⟩
abbrev s_orders : Stmt := top 10
abbrev N_orders : List Str := ["many", "found", "number", "longer", "order", "place"]
theorem sc_orders : FnScope ["many", "found", "number", "longer", "order", "place"] ["many"] (defScope s_orders) := ⟨rfl, rfl, rfl, by decide +kernel, rfl, by decide +kernel, by decide +kernel⟩
abbrev s_named : Stmt := top 11
abbrev N_named : List Str := ["machine", "rows", "signs", "turned", "found", "row", "entries", "sign", "entry", "put", "way", "goes"]
theorem sc_named : FnScope ["machine", "rows", "signs", "turned", "found", "row", "entries", "sign", "entry", "put", "way", "goes"] ["machine", "rows", "signs", "turned"] (defScope s_named) := ⟨rfl, rfl, rfl, by decide +kernel, rfl, by decide +kernel, by decide +kernel⟩
abbrev s_least_form : Stmt := top 12
abbrev N_least_form : List Str := ["machine", "best", "rows", "signs", "turned", "entries"]
theorem sc_least_form : FnScope ["machine", "best", "rows", "signs", "turned", "entries"] ["machine"] (defScope s_least_form) := ⟨rfl, rfl, rfl, by decide +kernel, rfl, by decide +kernel, by decide +kernel⟩
abbrev s_groups : Stmt := top 15
abbrev N_groups : List Str := ["machines", "forms", "machine", "found", "place", "form", "k"]
theorem sc_groups : FnScope ["machines", "forms", "machine", "found", "place", "form", "k"] ["machines"] (defScope s_groups) := ⟨rfl, rfl, rfl, by decide +kernel, rfl, by decide +kernel, by decide +kernel⟩
abbrev s_size_of : Stmt := top 13
abbrev N_size_of : List Str := ["machine"]
theorem sc_size_of : FnScope ["machine"] ["machine"] (defScope s_size_of) := ⟨rfl, rfl, rfl, by decide +kernel, rfl, by decide +kernel, by decide +kernel⟩
abbrev s_are_alike : Stmt := top 14
abbrev N_are_alike : List Str := ["one", "other"]
theorem sc_are_alike : FnScope ["one", "other"] ["one", "other"] (defScope s_are_alike) := ⟨rfl, rfl, rfl, by decide +kernel, rfl, by decide +kernel, by decide +kernel⟩
abbrev s_L_order : Stmt := top 23
abbrev N_L_order : List Str := ["_law_purse_here", "_law_many", "_law_left", "_law_found", "_law_k"]
theorem sc_L_order : FnScope ["_law_purse_here", "_law_many", "_law_left", "_law_found", "_law_k"] ["_law_purse_here", "_law_many"] (defScope s_L_order) := ⟨rfl, rfl, rfl, by decide +kernel, rfl, by decide +kernel, by decide +kernel⟩
abbrev s_L_named : Stmt := top 24
abbrev N_L_named : List Str := ["_law_machine_here", "_law_rows", "_law_signs", "_law_side", "_law_found", "_law_row", "_law_entries", "_law_sign", "_law_entry"]
theorem sc_L_named : FnScope ["_law_machine_here", "_law_rows", "_law_signs", "_law_side", "_law_found", "_law_row", "_law_entries", "_law_sign", "_law_entry"] ["_law_machine_here", "_law_rows", "_law_signs", "_law_side"] (defScope s_L_named) := ⟨rfl, rfl, rfl, by decide +kernel, rfl, by decide +kernel, by decide +kernel⟩
abbrev s_L_like : Stmt := top 25
abbrev N_L_like : List Str := ["_law_purse_here", "_law_machine_here", "_law_rows", "_law_signs"]
theorem sc_L_like : FnScope ["_law_purse_here", "_law_machine_here", "_law_rows", "_law_signs"] ["_law_purse_here", "_law_machine_here"] (defScope s_L_like) := ⟨rfl, rfl, rfl, by decide +kernel, rfl, by decide +kernel, by decide +kernel⟩
abbrev s_L_machine : Stmt := top 20
abbrev N_L_machine : List Str := ["_law_purse_here", "_law_rows", "_law_signs", "_law_found", "_law_empty", "_law_row", "_law_entries", "_law_sign", "_law_entry"]
theorem sc_L_machine : FnScope ["_law_purse_here", "_law_rows", "_law_signs", "_law_found", "_law_empty", "_law_row", "_law_entries", "_law_sign", "_law_entry"] ["_law_purse_here", "_law_rows", "_law_signs"] (defScope s_L_machine) := ⟨rfl, rfl, rfl, by decide +kernel, rfl, by decide +kernel, by decide +kernel⟩
abbrev s_L_next : Stmt := top 26
abbrev N_L_next : List Str := ["_law_purse_here", "_law_machines", "_law_way", "_law_machine_here", "_law_row", "_law_sign"]
theorem sc_L_next : FnScope ["_law_purse_here", "_law_machines", "_law_way", "_law_machine_here", "_law_row", "_law_sign"] ["_law_purse_here", "_law_machines"] (defScope s_L_next) := ⟨rfl, rfl, rfl, by decide +kernel, rfl, by decide +kernel, by decide +kernel⟩
abbrev s_L_plainly : Stmt := top 22
abbrev N_L_plainly : List Str := ["_law_found", "_law_part"]
theorem sc_L_plainly : FnScope ["_law_found", "_law_part"] ["_law_found"] (defScope s_L_plainly) := ⟨rfl, rfl, rfl, by decide +kernel, rfl, by decide +kernel, by decide +kernel⟩
abbrev s_law : Stmt := top 27
abbrev N_law : List Str := ["_law_script", "_law_purse_here", "_law_machines", "_law_k", "_law_keys", "_law_machine_here", "_law_handed", "_law_due", "_law_j", "_law_turn", "_law_found", "_law_places", "_law_one", "_law_other", "_law_told"]
theorem sc_law : FnScope ["_law_script", "_law_purse_here", "_law_machines", "_law_k", "_law_keys", "_law_machine_here", "_law_handed", "_law_due", "_law_j", "_law_turn", "_law_found", "_law_places", "_law_one", "_law_other", "_law_told"] ["_law_script"] (defScope s_law) := ⟨rfl, rfl, rfl, by decide +kernel, rfl, by decide +kernel, by decide +kernel⟩
/-- what the top has written: where each def stands, what the names hold -/
structure Tx (K : PySem.W.Frag) (mg : Str → Option Value) where
  a_L_mixed : Addr
  fd_L_mixed : FuncData
  F_L_mixed : Fun K "_law_mixed" "_law_mixed" s_L_mixed a_L_mixed fd_L_mixed
  b_L_mixed : Binds K fd_L_mixed ["_law_cell", "_law_k"] []
  m_L_mixed : mg "_law_mixed" = some (.ref a_L_mixed)
  a_L_purse : Addr
  fd_L_purse : FuncData
  F_L_purse : Fun K "_law_purse" "_law_purse" s_L_purse a_L_purse fd_L_purse
  b_L_purse : Binds K fd_L_purse ["_law_script"] []
  m_L_purse : mg "_law_purse" = some (.ref a_L_purse)
  a_L_draw : Addr
  fd_L_draw : FuncData
  F_L_draw : Fun K "_law_draw" "_law_draw" s_L_draw a_L_draw fd_L_draw
  b_L_draw : Binds K fd_L_draw ["_law_purse_here", "_law_out_of"] []
  m_L_draw : mg "_law_draw" = some (.ref a_L_draw)
  a_L_copy : Addr
  fd_L_copy : FuncData
  F_L_copy : Fun K "_law_copy" "_law_copy" s_L_copy a_L_copy fd_L_copy
  b_L_copy : Binds K fd_L_copy ["_law_machine_here"] []
  m_L_copy : mg "_law_copy" = some (.ref a_L_copy)
  a_is_entry : Addr
  fd_is_entry : FuncData
  F_is_entry : Fun K "is_entry" "is_entry" s_is_entry a_is_entry fd_is_entry
  b_is_entry : Binds K fd_is_entry ["entry", "rows", "signs"] []
  m_is_entry : mg "is_entry" = some (.ref a_is_entry)
  a_is_machine : Addr
  fd_is_machine : FuncData
  F_is_machine : Fun K "is_machine" "is_machine" s_is_machine a_is_machine fd_is_machine
  b_is_machine : Binds K fd_is_machine ["machine"] []
  m_is_machine : mg "is_machine" = some (.ref a_is_machine)
  a_must_machine : Addr
  fd_must_machine : FuncData
  F_must_machine : Fun K "must_machine" "must_machine" s_must_machine a_must_machine fd_must_machine
  b_must_machine : Binds K fd_must_machine ["machine"] []
  m_must_machine : mg "must_machine" = some (.ref a_must_machine)
  a_orders : Addr
  fd_orders : FuncData
  F_orders : Fun K "orders" "orders" s_orders a_orders fd_orders
  b_orders : Binds K fd_orders ["many"] []
  m_orders : mg "orders" = some (.ref a_orders)
  a_named : Addr
  fd_named : FuncData
  F_named : Fun K "named" "named" s_named a_named fd_named
  b_named : Binds K fd_named ["machine", "rows", "signs", "turned"] []
  m_named : mg "named" = some (.ref a_named)
  a_least_form : Addr
  fd_least_form : FuncData
  F_least_form : Fun K "least_form" "least_form" s_least_form a_least_form fd_least_form
  b_least_form : Binds K fd_least_form ["machine"] []
  m_least_form : mg "least_form" = some (.ref a_least_form)
  a_groups : Addr
  fd_groups : FuncData
  F_groups : Fun K "groups" "groups" s_groups a_groups fd_groups
  b_groups : Binds K fd_groups ["machines"] []
  m_groups : mg "groups" = some (.ref a_groups)
  a_size_of : Addr
  fd_size_of : FuncData
  F_size_of : Fun K "size_of" "size_of" s_size_of a_size_of fd_size_of
  b_size_of : Binds K fd_size_of ["machine"] []
  m_size_of : mg "size_of" = some (.ref a_size_of)
  a_are_alike : Addr
  fd_are_alike : FuncData
  F_are_alike : Fun K "are_alike" "are_alike" s_are_alike a_are_alike fd_are_alike
  b_are_alike : Binds K fd_are_alike ["one", "other"] []
  m_are_alike : mg "are_alike" = some (.ref a_are_alike)
  a_L_order : Addr
  fd_L_order : FuncData
  F_L_order : Fun K "_law_order" "_law_order" s_L_order a_L_order fd_L_order
  b_L_order : Binds K fd_L_order ["_law_purse_here", "_law_many"] []
  m_L_order : mg "_law_order" = some (.ref a_L_order)
  a_L_named : Addr
  fd_L_named : FuncData
  F_L_named : Fun K "_law_named" "_law_named" s_L_named a_L_named fd_L_named
  b_L_named : Binds K fd_L_named ["_law_machine_here", "_law_rows", "_law_signs", "_law_side"] []
  m_L_named : mg "_law_named" = some (.ref a_L_named)
  a_L_like : Addr
  fd_L_like : FuncData
  F_L_like : Fun K "_law_like" "_law_like" s_L_like a_L_like fd_L_like
  b_L_like : Binds K fd_L_like ["_law_purse_here", "_law_machine_here"] []
  m_L_like : mg "_law_like" = some (.ref a_L_like)
  a_L_machine : Addr
  fd_L_machine : FuncData
  F_L_machine : Fun K "_law_machine" "_law_machine" s_L_machine a_L_machine fd_L_machine
  b_L_machine : Binds K fd_L_machine ["_law_purse_here", "_law_rows", "_law_signs"] []
  m_L_machine : mg "_law_machine" = some (.ref a_L_machine)
  a_L_next : Addr
  fd_L_next : FuncData
  F_L_next : Fun K "_law_next" "_law_next" s_L_next a_L_next fd_L_next
  b_L_next : Binds K fd_L_next ["_law_purse_here", "_law_machines"] []
  m_L_next : mg "_law_next" = some (.ref a_L_next)
  a_L_plainly : Addr
  fd_L_plainly : FuncData
  F_L_plainly : Fun K "_law_plainly" "_law_plainly" s_L_plainly a_L_plainly fd_L_plainly
  b_L_plainly : Binds K fd_L_plainly ["_law_found"] []
  m_L_plainly : mg "_law_plainly" = some (.ref a_L_plainly)
  a_law : Addr
  fd_law : FuncData
  F_law : Fun K "law" "law" s_law a_law fd_law
  b_law : Binds K fd_law ["_law_script"] []
  m_law : mg "law" = some (.ref a_law)
  C_NoMachine : Addr
  m_NoMachine : mg "NoMachine" = some (.ref C_NoMachine)
  tk_MOST_ROWS : Tok
  m_MOST_ROWS : mg "MOST_ROWS" = some (.int 4 tk_MOST_ROWS)
  tk_MOST_SIGNS : Tok
  m_MOST_SIGNS : mg "MOST_SIGNS" = some (.int 4 tk_MOST_SIGNS)
  n_range : mg "range" = none
  n_len : mg "len" = none
  n_list : mg "list" = none
  n_all : mg "all" = none
  n_min : mg "min" = none
  n_enumerate : mg "enumerate" = none
  n_isinstance : mg "isinstance" = none
  n_tuple : mg "tuple" = none
  n_str : mg "str" = none
  n_int : mg "int" = none
  n_bool : mg "bool" = none
section
variable {P : Program} {w : World} {K : PySem.W.Frag} {mg : Str → Option Value} {base : Heap}
/-! ### min(a, b), min(xs) of data; a list or a tuple walked -/
theorem pi_or {X : Cx} {tg e : Expr} {t1 t2 : TI} (h1 : L2.PI X tg e t1) (h2 : L2.PI X tg e t2) : L2.PI X tg e (fun σ H R => t1 σ H R ∨ t2 σ H R) :=
  ⟨fun pins s σ H R I h => h.elim (h1.run pins s σ H R I) (h2.run pins s σ H R I)⟩
section
open PySem.Spec PyProof.Rows PySem.W PySem.SeqAt
theorem toks_inj {x y : PyData} (h : alike x y = true) (e : keyToks x = keyToks y) : PyData.eqv x y = true := by
  cases k : PyData.eqv x y with
  | true => rfl
  | false =>
    have z := (toks_eqv x y h).2 k [.inl 0] [.inl 1]
    rw [e, lex_pre, lex_irrefl] at z
    have z2 : PyProof.Rows.lexLt itemOrd [(.inl 0 : Int ⊕ List Nat)] [.inl 1] = true := by decide
    rw [z2] at z
    cases z
variable {α : Type} [Dat α]
def ltD (a b : α) : Bool := dataLt (Dat.py a) (Dat.py b)
theorem ltD_irr (a : α) : ltD a a = false := lex_irrefl _
theorem ltD_neg {a b c : α} (h : ltD a c = true) : ltD a b = true ∨ ltD b c = true := lex_negTrans _ _ _ h
theorem ltD_tr {a b c : α} (h : ltD a b = true) (k : ltD b c = true) : ltD a c = true := lex_trans _ _ _ h k
theorem ltD_tot [Lk α] {a b : α} (h : ltD a b = false) (k : ltD b a = false) : a = b := (Dat.eqv a b).mp (toks_inj (Lk.k a b) (lex_total _ _ h k))
def minL (d : α) (ds : List α) : α := ds.foldl (fun a y => if ltD y a then y else a) d
theorem minL_mem : ∀ (ds : List α) (d : α), minL d ds ∈ d :: ds
  | [], d => List.mem_cons_self
  | y :: ds, d => by
    show minL (if ltD y d then y else d) ds ∈ _
    have ih := minL_mem ds (if ltD y d then y else d)
    rcases List.mem_cons.mp ih with e | m
    · rw [e]
      split
      · exact List.mem_cons_of_mem _ List.mem_cons_self
      · exact List.mem_cons_self
    · exact List.mem_cons_of_mem _ (List.mem_cons_of_mem _ m)
theorem minL_le : ∀ (ds : List α) (d : α), ∀ x ∈ d :: ds, ltD x (minL d ds) = false
  | [], d, x, m => by rw [List.mem_singleton.mp m]; exact ltD_irr _
  | y :: ds, d, x, m => by
    show ltD x (minL (if ltD y d then y else d) ds) = false
    have ih := minL_le ds (if ltD y d then y else d)
    have h0 := ih _ List.mem_cons_self
    have low : ∀ z, ltD z (if ltD y d then y else d) = false → ltD z (minL (if ltD y d then y else d) ds) = false := fun z hz => by
      cases k : ltD z (minL (if ltD y d then y else d) ds) with
      | false => rfl
      | true =>
        rcases ltD_neg (b := if ltD y d then y else d) k with k | k
        · rw [hz] at k; cases k
        · rw [h0] at k; cases k
    rcases List.mem_cons.mp m with rfl | m
    · refine low _ ?_
      split
      · rename_i c
        cases k : ltD x y with
        | false => rfl
        | true =>
          have := ltD_tr k c
          rw [ltD_irr] at this; cases this
      · exact ltD_irr _
    rcases List.mem_cons.mp m with rfl | m
    · refine low _ ?_
      split
      · exact ltD_irr _
      · rename_i c
        exact Bool.not_eq_true _ ▸ c
    · exact ih x (List.mem_cons_of_mem _ m)
/-- the least of all is one -/
theorem minL_uniq [Lk α] {d : α} {ds : List α} {m : α} (h : m ∈ d :: ds) (k : ∀ x ∈ d :: ds, ltD x m = false) : minL d ds = m :=
  ltD_tot (k _ (minL_mem ds d)) (minL_le ds d m h)
theorem minL_same [Lk α] {d d' : α} {ds ds' : List α} (h : ∀ x, x ∈ d :: ds ↔ x ∈ d' :: ds') : minL d ds = minL d' ds' :=
  minL_uniq ((h _).mpr (minL_mem ds' d')) fun x m => minL_le ds' d' x ((h x).mp m)
theorem minD_py (d : α) (ds : List α) : minD (Dat.py d) (ds.map Dat.py) = Dat.py (minL d ds) := by
  unfold minD minL
  induction ds generalizing d with
  | nil => rfl
  | cons y ds ih =>
    rw [List.map_cons, List.foldl_cons, List.foldl_cons, ← ih]
    congr 1
    show (if dataLt (Dat.py y) (Dat.py d) = true then _ else _) = Dat.py (if dataLt (Dat.py y) (Dat.py d) = true then y else d)
    split <;> rfl
theorem py_inj [Lk α] {a b : α} (h : Dat.py a = Dat.py b) : a = b := (Dat.eqv a b).mp (by rw [h]; exact eqv_refl_alike _ (Lk.k b b))
end
section
open PySem.Spec PyProof.Rows PySem.W PySem.SeqAt
variable {prog : Program} {w : World} {A : Around} {E : Value → Shared → Prop} {s : Shared}
/-- min(a, b) of data -/
theorem min_two_data {a b : Value} {x y : PyData} {as : List Addr} {Q : Value → Shared → Prop} (hh : A.handled = none) (hr : ReadsAll s.heap [a, b] [x, y] as) (ha : AlikeAll [x, y]) (hu : A.units + 1 + PyData.depthAll [x, y] < cLine)
    (h : ∀ (h' : Heap) (tk : Nat), (∀ c o, s.heap.get? c = some o → h'.get? c = some o) → Q (if dataLt y x = true then b else a) { s with heap := h', toks := tk }) :
    wpAny (model prog w) A (call (.builtin "min") [a, b]) Q E s := by
  have hname : (toString "min" ++ toString ".loop" : String) = "min.loop" := by decide
  refine call_function_tree F.kind_min F.plain_min F.entry_min (F.args_min2 _ _) ?_
  show wpAny _ A.in1 (Builtin.Builtins.bindParams "min" ["key", "default"] 0 ⟨[], []⟩ >>= _) _ _ s
  refine wpAny_bind (wpAny_of_eq (show Builtin.Builtins.bindParams "min" ["key", "default"] 0 ⟨[], []⟩ = pure [none, none] from rfl) ?_)
  show wpAny _ A.in1 (newTuple [a, b] >>= _) _ _ s
  refine wpAny_bind (wpAny_newObj_type ?_)
  have hT : (s.heap.push { cls := .type "tuple", data := .seq #[a, b] }).IsTuple s.heap.objs.size #[a, b] := ⟨_, Heap.get?_push_size _ rfl, rfl, 0, rfl⟩
  have k1 : ∀ c o, s.heap.get? c = some o → (s.heap.push { cls := .type "tuple", data := .seq #[a, b] }).get? c = some o := fun c o e => Heap.get?_push_of_some _ e
  refine wpAny_bind (iter_tupleW (A := A.in1) (s := { s with heap := s.heap.push { cls := .type "tuple", data := .seq #[a, b] } }) hh hT fun s₂ e W hst hfp hw hkeep => ?_)
  refine wpAny_bind (wpAny_newObj_type ?_)
  have hSf : s₂.heap.objs.size ∉ [(s.heap.push { cls := .type "tuple", data := .seq #[a, b] }).objs.size, s.heap.objs.size] := fun hm => Nat.lt_irrefl _ (hfp _ hm)
  have hr1 : ReadsAll (s.heap.push { cls := .type "tuple", data := .seq #[a, b] }) (#[a, b] : Array Value).toList [x, y] as := ReadsAll.keeps k1 hr
  rw [hname]
  refine wpAny_pure ⟨plainId_quiet F.plain_min_loop _, codeAny_min_loop_firstH W (s.heap.push { cls := .type "tuple", data := .seq #[a, b] }) hw _ (cmpIn_lt (A := A.in1) (s := { s with heap := s.heap.push { cls := .type "tuple", data := .seq #[a, b] } }) hr1 ha (by show A.units + 1 + _ < _; exact hu)) s₂.heap.objs.size hSf (fresh_in hkeep) _ (by show 0 < 2; decide) (fun b o e => Heap.get?_push_of_some _ (hkeep b o e)) (W.frame 0 s₂ _ s₂.toks hst (Nat.le_refl _) fun b _ o e => Heap.get?_push_of_some _ e) (Heap.get?_push_size _ rfl) fun v s' hP hm => ?_⟩
  obtain ⟨h', tk, rfl, hk'⟩ := moved_old e rfl (Moved.drop_new (tk := s₂.toks) hm (Nat.le_refl _))
  have z := h h' tk fun c o e => hk' c o (k1 c o e)
  have hv : v = if dataLt y x = true then b else a := by
    have hP : (#[a, b] : Array Value)[argBest (fun i j => dataLt ([x, y].getD i .none) ([x, y].getD j .none)) 1]? = some v := hP
    cases hc : dataLt y x with
    | true =>
      have e2 : argBest (fun i j => dataLt ([x, y].getD i .none) ([x, y].getD j .none)) 1 = 1 := by simp [argBest, hc]
      rw [e2] at hP
      exact (Option.some.inj hP).symm
    | false =>
      have e2 : argBest (fun i j => dataLt ([x, y].getD i .none) ([x, y].getD j .none)) 1 = 0 := by simp [argBest, hc]
      rw [e2] at hP
      exact (Option.some.inj hP).symm
  rw [hv]; exact z
end
section
open PySem.Spec PyProof.Rows PySem.W PySem.SeqAt
variable {X : Cx}
theorem not_non {α : Type} [Dat α] [So α] (a : α) : Dat.py a ≠ .none := by
  rcases So.k (α := α) with h | h
  · obtain ⟨x, r, e⟩ := h a
    rw [e]; exact fun z => nomatch z
  · exact (h a).1
/-- min(a, b) of data -/
@[irreducible] def rMin2N (K : PySem.W.Frag) : List V → Hp → VK → Prop := fun vs H Q => ∃ (α : Type) (_ : Dat α) (_ : Lk α) (_ : So α) (x y : V) (a b : α), vs = [x, y] ∧ Is H x a ∧ Is H y b ∧ Dat.dep α ≤ 64 ∧ Q (if ltD b a = true then y else x) H
theorem rMin2N.mk {α : Type} [Dat α] [Lk α] [So α] {K : PySem.W.Frag} {H : Hp} {Q : VK} {x y : V} {a b : α} (hx : Is H x a) (hy : Is H y b) (q : Q (if ltD b a = true then y else x) H) (hd : Dat.dep α ≤ 64 := by decide) : rMin2N K [x, y] H Q := by
  unfold rMin2N; exact ⟨α, inferInstance, inferInstance, inferInstance, x, y, a, b, rfl, hx, hy, hd, q⟩
theorem call_min2N (hc : X.calm = true) (hu : X.A.units + 66 < cLine) : CallR X (.builtin "min") (rMin2N X.K) := by
  intro pins s σ H vs us Q I r h
  unfold rMin2N at h
  obtain ⟨α, i1, i2, i3, x, y, a, b, rfl, hx, hy, hd, q⟩ := h
  obtain ⟨u, u', rfl, r1, r2⟩ := vals2 r
  obtain ⟨as, ra⟩ := Dp.reads I _ _ _ (Dat.dp (K := X.K) hx) r1
  obtain ⟨bs, rb⟩ := Dp.reads I _ _ _ (Dat.dp (K := X.K) hy) r2
  have da := Dat.depth a
  have db := Dat.depth b
  refine min_two_data (x := Dat.py a) (y := Dat.py b) (I.ok.hd hc) (ReadsAll.cons ra (ReadsAll.cons rb ReadsAll.nil)) ⟨fun p hp q hq => ?_, fun p hp => ?_⟩ ?_ fun h' tk k => ⟨_, H, I.kept k, ?_, q⟩
  · have e : ∀ p ∈ [Dat.py a, Dat.py b], ∃ c : α, p = Dat.py c := fun p hp => by
      rcases List.mem_cons.mp hp with rfl | hp
      · exact ⟨a, rfl⟩
      · exact ⟨b, List.mem_singleton.mp hp⟩
    obtain ⟨c, rfl⟩ := e p hp
    obtain ⟨d, rfl⟩ := e q hq
    exact Lk.k c d
  · rcases List.mem_cons.mp hp with rfl | hp
    · exact not_non a
    · rw [List.mem_singleton.mp hp]; exact not_non b
  · show X.A.units + 1 + max (Dat.py a).depth (max (Dat.py b).depth 0) < cLine
    omega
  · show RelV (if dataLt (Dat.py b) (Dat.py a) = true then y else x) (if dataLt (Dat.py b) (Dat.py a) = true then u' else u)
    split
    · exact r2
    · exact r1
/-- min(xs), xs a list of data that holds something -/
@[irreducible] def rMinN (K : PySem.W.Frag) : List V → Hp → VK → Prop := fun vs H Q => ∃ (α : Type) (_ : Dat α) (_ : Lk α) (_ : So α) (l : Addr) (xs : List V) (d : α) (ds : List α), vs = [.ref l] ∧ SqL K H l xs ∧ IsAll H xs (d :: ds) ∧ Dat.dep α ≤ 64 ∧
  ∀ (i : Nat) (y : V), xs[i]? = some y → (d :: ds)[i]? = some (minL d ds) → Q y H
theorem rMinN.mk {α : Type} [Dat α] [Lk α] [So α] {K : PySem.W.Frag} {H : Hp} {Q : VK} {l : Addr} {xs : List V} {d : α} {ds : List α} (h : SqL K H l xs) (al : IsAll H xs (d :: ds)) (q : ∀ (i : Nat) (y : V), xs[i]? = some y → (d :: ds)[i]? = some (minL d ds) → Q y H) (hd : Dat.dep α ≤ 64 := by decide) : rMinN K [.ref l] H Q := by
  unfold rMinN; exact ⟨α, inferInstance, inferInstance, inferInstance, l, xs, d, ds, rfl, h, al, hd, q⟩
theorem reads_all {α : Type} [Dat α] {pins : List (Addr × Obj)} {σ : L2.St} {H : Hp} {s : Shared} (I : Inv X pins σ H s) : ∀ {xs : List V} {us : List Value} {ds : List α}, Vals xs us → IsAll H xs ds → ∃ as, ReadsAll s.heap us (ds.map Dat.py) as
  | _, _, [], .nil, _ => ⟨[], .nil⟩
  | _, _, d :: ds, .nil, h => by have := h.1; simp at this
  | _, _, [], .cons _ _, h => by have := h.1; simp at this
  | x :: xs, u :: us, d :: ds, .cons r rs, h => by
    obtain ⟨as, ra⟩ := Dp.reads I _ _ _ (Dat.dp (K := X.K) (h.2 0 x d rfl rfl)) r
    obtain ⟨bs, rb⟩ := reads_all I rs ⟨by have := h.1; simpa using this, fun i a b p q => h.2 (i + 1) a b (by simpa using p) (by simpa using q)⟩
    exact ⟨_, ReadsAll.cons ra rb⟩
theorem call_minN (hc : X.calm = true) (hu : X.A.units + 66 < cLine) : CallR X (.builtin "min") (rMinN X.K) := by
  intro pins s σ H vs us Q I r h
  unfold rMinN at h
  obtain ⟨α, i1, i2, i3, l, xs, d, ds, rfl, hs, al, hd, q⟩ := h
  obtain ⟨its, rv, hl, hz⟩ := I.list hs
  rw [Vals.ref1 r]
  obtain ⟨as, ra⟩ := reads_all I rv al
  have dp := depth_all (d :: ds)
  refine min_list_data (vs := its.toArray) (x := Dat.py d) (xs := ds.map Dat.py) (I.ok.hd hc) hl.isList (by simpa using ra) ⟨fun p hp q hq => ?_, fun p hp => ?_⟩ ?_ fun i v h' tk bs hv hrd k => ?_
  · rw [← List.map_cons (f := Dat.py)] at hp hq
    obtain ⟨c, _, rfl⟩ := List.mem_map.mp hp
    obtain ⟨e, _, rfl⟩ := List.mem_map.mp hq
    exact Lk.k c e
  · rw [← List.map_cons (f := Dat.py)] at hp
    obtain ⟨c, _, rfl⟩ := List.mem_map.mp hp
    exact not_non c
  · rw [← List.map_cons (f := Dat.py)]
    omega
  · have hv : its[i]? = some v := by simpa using hv
    have J : Inv X pins σ H { s with heap := h', toks := tk } := I.kept k
    obtain ⟨hi, _⟩ := List.getElem?_eq_some_iff.mp hv
    have hx : xs[i]? = some _ := List.getElem?_eq_getElem (by rw [rv.length]; exact hi)
    generalize xs[i]'(by rw [rv.length]; exact hi) = y at hx
    obtain ⟨u, hu', ru⟩ := rv.get hx
    rw [hv] at hu'
    cases hu'
    obtain ⟨e, he, ie⟩ := al.get' hx
    obtain ⟨bs', re⟩ := Dp.reads J _ _ _ (Dat.dp (K := X.K) ie) ru
    rw [minD_py] at hrd
    have ee := py_inj (alike_unique _ _ _ _ _ (Lk.k _ _) hrd re)
    exact ⟨y, H, J, ru, q i y hx (by rw [ee]; exact he)⟩
end
instance : Lk Ent := ⟨fun a b => by
  cases a <;> cases b <;> simp [Dat.py, entP, PySem.W.alike, PySem.W.alikeAll]⟩
/-! ### draws -/
def sp_L_mixed : Sp := fun vs H Q _ => ∃ c k : Int, vs = [.int c, .int k] ∧ 0 ≤ k ∧ k < 1000 ∧ ∀ n : Int, 0 ≤ n → n < 2147483587 → Q (.int n) H
theorem ok_L_mixed (t : Tx K mg) : FnOk P w K mg base CX0 1 t.a_L_mixed t.fd_L_mixed ["_law_cell", "_law_k"] sp_L_mixed := by
  refine t.F_L_mixed.ok sc_L_mixed (fun vs H Q E h => ?_) (fun cdv A outer s H vs Q E hr h => ?_)
  · obtain ⟨c, k, rfl, _⟩ := h
    rfl
  · obtain ⟨c, k, rfl, k0, k1, q⟩ := h
    refine ⟨_, (pss_cons (ps_set (i := 2) sc_L_mixed.nd rfl (by first | exact Or.inl rfl | exact Or.inr rfl) (pe_op op_mod (pv 0) (pe_op op_pow pe_int pe_int)))
      (pss_cons (ps_set (i := 3) sc_L_mixed.nd rfl (by first | exact Or.inl rfl | exact Or.inr rfl) (pe_op op_mod (pe_op op_mul (pe_op op_add (pe_op op_add (pe_op op_add (pe_op op_mul (pv 2) (pv 2)) (pe_op op_mul pe_int (pv 2))) (pe_op op_mul pe_int (pv 1))) pe_int) pe_int) pe_int))
      (pss_cons (ps_set (i := 3) sc_L_mixed.nd rfl (by first | exact Or.inl rfl | exact Or.inr rfl) (pe_op op_mod (pe_op op_add (pe_op op_mul (pv 3) (pv 3)) pe_int) pe_int))
      (pss_one (ps_ret (pe_op op_mod (pe_op op_mul (pv 3) (pe_op op_add (pv 3) pe_int)) pe_int)))))), ?_⟩
    have e15 : (10 : Int) ^ (15 : Int).toNat = 1000000000000000 := by decide
    refine ⟨_, rfl, _, _, rfl, rfl, ⟨by decide, by decide, by decide⟩, _, _, rfl, rfl, (by show (0 : Int) < 10 ^ (15 : Int).toNat; decide), ?_⟩
    rw [e15]
    have h0 : (0 : Int) ≤ c % 1000000000000000 := Int.emod_nonneg _ (by decide)
    have h1 : c % 1000000000000000 < 1000000000000000 := Int.emod_lt_of_pos _ (by decide)
    generalize c % 1000000000000000 = r at h0 h1
    refine ⟨_, rfl, _, rfl, _, _, rfl, rfl, .inl ⟨by omega, by omega⟩, _, rfl, _, _, rfl, rfl, .inl ⟨by decide, by decide⟩, _, _, rfl, rfl, _, rfl, _, _, rfl, rfl, .inl ⟨by decide, by decide⟩, _, _, rfl, rfl, _, _, rfl, rfl,
      _, _, rfl, rfl, .inr ⟨by decide, by decide⟩, _, _, rfl, rfl, (by show (0 : Int) < 2147483629; decide), ?_⟩
    have g0 := Int.emod_nonneg ((r * r + 3 * r + 7919 * k + 1) * 48271) (show (2147483629 : Int) ≠ 0 by decide)
    have g1 := Int.emod_lt_of_pos ((r * r + 3 * r + 7919 * k + 1) * 48271) (show (0 : Int) < 2147483629 by decide)
    generalize (r * r + 3 * r + 7919 * k + 1) * 48271 % 2147483629 = n at g0 g1
    refine ⟨_, rfl, _, rfl, _, _, rfl, rfl, .inl ⟨by omega, by omega⟩, _, _, rfl, rfl, _, _, rfl, rfl, (by show (0 : Int) < 2147483587; decide), ?_⟩
    have f0 := Int.emod_nonneg (n * n + 7) (show (2147483587 : Int) ≠ 0 by decide)
    have f1 := Int.emod_lt_of_pos (n * n + 7) (show (0 : Int) < 2147483587 by decide)
    generalize (n * n + 7) % 2147483587 = m at f0 f1
    refine ⟨_, rfl, _, rfl, _, _, rfl, rfl, _, _, rfl, rfl, .inl ⟨by omega, by omega⟩, _, _, rfl, rfl, (by show (0 : Int) < 2147483563; decide), ?_⟩
    exact q _ (Int.emod_nonneg _ (by decide)) (by have := Int.emod_lt_of_pos (m * (m + 69621)) (show (0 : Int) < 2147483563 by decide); omega)
/-- the purse: two numbers that aren't below 0 -/
def PurseO (a b : Int) : HO := .lst [.int a, .int b]
def sp_L_purse (K : PySem.W.Frag) : Sp := fun vs H Q _ => ∃ (l : Addr) (ns : List Int), vs = [.ref l] ∧ SqL K H l (ns.map V.int) ∧ ns.length ≤ 63 ∧
  ∀ (a b : Int) (p : Addr) (H' : Hp), 0 ≤ a → 0 ≤ b → Same H H' → H p = none → H' p = some (PurseO a b) → Q (.ref p) H'
theorem ok_L_purse (t : Tx K mg) : FnOk P w K mg base CX0 2 t.a_L_purse t.fd_L_purse ["_law_script"] (sp_L_purse K) := by
  refine t.F_L_purse.ok sc_L_purse (fun vs H Q E h => ?_) (fun cdv A outer s H vs Q E hr h => ?_)
  · obtain ⟨l, ns, rfl, _⟩ := h
    rfl
  · obtain ⟨l, ns, rfl, hS, hn, q⟩ := h
    refine ⟨_, (pss_cons (ps_set (i := 1) sc_L_purse.nd rfl (by first | exact Or.inl rfl | exact Or.inr rfl) (pe_op op_cat (pe_slice sl_list (pv 0) po_none (po_some pe_int)) (pe_lst (pa_cons pe_int pa_nil))))
      (pss_cons (ps_set (i := 2) sc_L_purse.nd rfl (by first | exact Or.inl rfl | exact Or.inr rfl) pe_int)
      (pss_cons (ps_for PassesOwn.never rfl (pi_range1 (by rfl) t.n_range (pa_cons pe_int pa_nil)) (pg_name (i := 3) sc_L_purse.nd rfl (by first | exact Or.inl rfl | exact Or.inr rfl)) (pss_one (ps_set (i := 2) sc_L_purse.nd rfl (by first | exact Or.inl rfl | exact Or.inr rfl) (pe_op op_add (pe_op op_mul (pv 2) pe_int) (pe_call (ok_L_mixed t) (hr.mono (by decide)) (by rfl) t.m_L_mixed t.F_L_mixed.kp t.b_L_mixed .nil pass0 (pa_cons (pe_ix ix_list (pv 1) (pe_op op_mod (pv 3) (pe_callB (id := "len") call_lenQ (by rfl) t.n_len (by decide +kernel) (pa_cons (pv 1) pa_nil))) (fun _ _ => rfl)) (pa_cons (pv 3) pa_nil)))))))
      (pss_cons (ps_if (pt_cmpR op_ge (pe_ix ix_list (pv 1) pe_int (fun _ _ => rfl)) (pe_op op_pow pe_int pe_int) (nomark _)) (pss_one (ps_ret (pe_lst (pa_cons (pe_op op_fdivW (pe_ix ix_list (pv 1) pe_int (fun _ _ => rfl)) (pe_op op_pow pe_int pe_int)) (pa_cons (pv 2) pa_nil))))) pss_nil)
      (pss_one (ps_ret (pe_lst (pa_cons (pv 2) (pa_cons (pv 2) pa_nil))))))))), ?_⟩
    refine ⟨_, rfl, _, rfl, l, _, rfl, hS, fun p np => ?_⟩
    rw [cut_63 hn]
    have e0 : ([V.int 0] : List V) = [(0 : Int)].map V.int := rfl
    refine ⟨by show 1 ≤ sizeLine; decide, fun p2 np2 => ⟨p, p2, _, _, rfl, rfl, (by rw [upd_ne (ne_of_none upd_same np2)]; exact upd_same), upd_same, (by show _ + 1 ≤ _; rw [List.length_map]; exact Nat.le_trans (Nat.add_le_add_right hn 1) (by decide)), fun p3 np3 => ?_⟩⟩
    rw [e0, ← List.map_append]
    have s3 : Same H (upd (upd (upd H p (.lst (ns.map V.int))) p2 (.lst ([(0 : Int)].map V.int))) p3 (.lst ((ns ++ [0]).map V.int))) := sm_new (sm_new (sm_new (Same.refl H) np) np2) np3
    have hl : 0 < (ns ++ [0]).length := by simp
    generalize ec : ns ++ [0] = cs at s3 hl
    have h3 : (upd (upd (upd H p (.lst (ns.map V.int))) p2 (.lst ([(0 : Int)].map V.int))) p3 (.lst (cs.map V.int))) p3 = some (.lst (cs.map V.int)) := upd_same
    generalize upd (upd (upd H p (.lst (ns.map V.int))) p2 (.lst ([(0 : Int)].map V.int))) p3 (.lst (cs.map V.int)) = H3 at s3 h3
    refine ⟨150, rfl, by decide, by decide, for_range (lo := 0) (n := 150) (fun i σ H2 => ∃ (n : Int) (v : Option V), σ = [some (.ref l), some (.ref p3), some (.int n), v] ∧ H2 = H3 ∧ 0 ≤ n) ⟨1, none, rfl, rfl, by decide⟩ ?_ ?_⟩
    · rintro i σ H2 hi ⟨n, v, rfl, rfl, hn0⟩
      refine ⟨_, rfl, _, _, rfl, rfl, .inr ⟨by decide, by decide⟩, ?_⟩
      have hm := Int.emod_nonneg (0 + (i : Int)) (show ((cs.map V.int).length : Int) ≠ 0 by rw [List.length_map]; omega)
      have hm1 := Int.emod_lt_of_pos (0 + (i : Int)) (show (0 : Int) < ((cs.map V.int).length : Int) by rw [List.length_map]; omega)
      have hj : (((0 + (i : Int)) % ((cs.map V.int).length : Int)).toNat : Int) = (0 + (i : Int)) % ((cs.map V.int).length : Int) := Int.toNat_of_nonneg hm
      have hj1 : ((0 + (i : Int)) % ((cs.map V.int).length : Int)).toNat < cs.length := by rw [List.length_map] at hm1 ⊢; omega
      refine ⟨_, rfl, _, rfl, _, rfl, p3, _, rfl, .inl (SqL.of h3), _, _, rfl, rfl, (by rw [List.length_map]; omega), p3, _, _, _, rfl, rfl, SqL.of h3, at_of hj.symm (by rw [List.getElem?_map, List.getElem?_eq_getElem hj1]; rfl), ?_⟩
      refine ⟨_, rfl, _, _, rfl, by omega, by omega, fun m m0 m1 => ⟨_, _, rfl, rfl, ?_⟩⟩
      exact ⟨_, _, rfl, rfl, by omega⟩
    · rintro σ H2 ⟨n, v, rfl, rfl, hn0⟩
      have h0 : (cs.map V.int)[0]? = some (.int (cs[0])) := by rw [List.getElem?_map, List.getElem?_eq_getElem hl]; rfl
      refine ⟨_, rfl, p3, _, _, _, rfl, rfl, SqL.of h3, atI_nat (j := 0) h0, _, _, rfl, rfl, ⟨by decide, by decide, by decide⟩, _, _, rfl, rfl, _, rfl, ?_⟩
      refine ite2 (fun c => ?_) (fun c => ?_)
      · refine ⟨_, rfl, p3, _, _, _, rfl, rfl, SqL.of h3, atI_nat (j := 0) h0, _, _, rfl, rfl, ⟨by decide, by decide, by decide⟩, _, _, rfl, rfl, ⟨by decide, by decide⟩, _, rfl, by show 2 ≤ sizeLine; decide, fun q0 nq => ?_⟩
        have c : (10 : Int) ^ (18 : Int).toNat ≤ cs[0] := of_decide_eq_true c
        have e18 : (10 : Int) ^ (18 : Int).toNat = 1000000000000000000 := by decide
        rw [e18] at c
        exact q _ _ q0 _ (Int.ediv_nonneg (by omega) (by rw [e18]; decide)) hn0 (sm_new s3 nq) (s3.free nq) upd_same
      · refine ⟨_, rfl, _, rfl, by show 2 ≤ sizeLine; decide, fun q0 nq => ?_⟩
        exact q _ _ q0 _ hn0 hn0 (sm_new s3 nq) (s3.free nq) upd_same
def sp_L_draw : Sp := fun vs H Q _ => ∃ (p : Addr) (a b n : Int), vs = [.ref p, .int n] ∧ H p = some (PurseO a b) ∧ 0 ≤ a ∧ 0 ≤ b ∧ 0 < n ∧ n < 1267650600228229401496703205376 ∧
  ∀ d a' b' : Int, 0 ≤ d → d < n → 0 ≤ a' → 0 ≤ b' → Q (.int d) (upd H p (PurseO a' b'))
theorem ok_L_draw (t : Tx K mg) : FnOk P w K mg base CX0 1 t.a_L_draw t.fd_L_draw ["_law_purse_here", "_law_out_of"] sp_L_draw := by
  refine t.F_L_draw.ok sc_L_draw (fun vs H Q E h => ?_) (fun cdv A outer s H vs Q E hr h => ?_)
  · obtain ⟨p, a, b, n, rfl, _⟩ := h
    rfl
  · obtain ⟨p, a, b, n, rfl, hp, ha, hb, n0, n1, q⟩ := h
    refine ⟨_, (pss_cons (ps_if (pt_cmpR op_eq (pe_ix ix_list (pv 0) pe_int (fun _ _ => rfl)) pe_int (nomark _)) (pss_one (ps_asg (pe_ix ix_list (pv 0) pe_int (fun _ _ => rfl)) (pg_sub (pv 0) pe_int set_list))) pss_nil)
      (pss_cons (ps_set (i := 2) sc_L_draw.nd rfl (by first | exact Or.inl rfl | exact Or.inr rfl) (pe_op op_mod (pe_ix ix_list (pv 0) pe_int (fun _ _ => rfl)) (pv 1)))
      (pss_cons (ps_asg (pe_op op_fdivW (pe_ix ix_list (pv 0) pe_int (fun _ _ => rfl)) (pv 1)) (pg_sub (pv 0) pe_int set_list))
      (pss_one (ps_ret (pv 2)))))), ?_⟩
    refine ⟨_, rfl, p, _, _, _, rfl, rfl, SqL.of hp, atI_nat (j := 0) rfl, rfl, _, rfl, ?_⟩
    refine ite2 (fun c => ?_) (fun c => ?_)
    · refine ⟨_, rfl, p, _, _, _, rfl, rfl, SqL.of hp, atI_nat (j := 1) rfl, _, rfl, p, _, _, 0, rfl, rfl, hp, rfl, ?_⟩
      refine ⟨_, rfl, p, _, _, _, rfl, rfl, SqL.of upd_same, atI_nat (j := 0) rfl, _, rfl, _, _, rfl, rfl, n0, ?_⟩
      refine ⟨_, rfl, p, _, _, _, rfl, rfl, SqL.of upd_same, atI_nat (j := 0) rfl, _, rfl, _, _, rfl, rfl, wide_div n0 (b := 100) (by have e : (2 : Nat) ^ 100 = 1267650600228229401496703205376 := rfl; rw [e]; omega) (by decide) (by decide), _, rfl, p, _, _, 0, rfl, rfl, upd_same, rfl, _, rfl, ?_⟩
      rw [upd_upd]
      exact q _ _ _ (Int.emod_nonneg _ (by omega)) (Int.emod_lt_of_pos _ n0) (Int.ediv_nonneg hb (by omega)) hb
    · refine ⟨_, rfl, p, _, _, _, rfl, rfl, SqL.of hp, atI_nat (j := 0) rfl, _, rfl, _, _, rfl, rfl, n0, ?_⟩
      refine ⟨_, rfl, p, _, _, _, rfl, rfl, SqL.of hp, atI_nat (j := 0) rfl, _, rfl, _, _, rfl, rfl, wide_div n0 (b := 100) (by have e : (2 : Nat) ^ 100 = 1267650600228229401496703205376 := rfl; rw [e]; omega) (by decide) (by decide), _, rfl, p, _, _, 0, rfl, rfl, hp, rfl, _, rfl, ?_⟩
      exact q _ _ _ (Int.emod_nonneg _ (by omega)) (Int.emod_lt_of_pos _ n0) (Int.ediv_nonneg ha (by omega)) hb
/-! ### small things -/
theorem ln {H : Hp} {p q : Addr} {o u : HO} (n : H q = none) (h : H p = some o) : upd H q u p = some o := (upd_ne (ne_of_none h n)).trans h
theorem kt_int_int {K : PySem.W.Frag} : PySem.W.kitOne K (.type "int") (.type "int") = some true := kit_ty (by decide +kernel)
theorem kt_int_bool {K : PySem.W.Frag} : PySem.W.kitOne K (.type "int") (.type "bool") = some false := kit_ty (by decide +kernel)
theorem kt_tup {K : PySem.W.Frag} : PySem.W.kitOne K (.type "tuple") (.type "tuple") = some true := kit_ty (by decide +kernel)
theorem kt_list {K : PySem.W.Frag} : PySem.W.kitOne K (.type "list") (.type "list") = some true := kit_ty (by decide +kernel)
theorem gr_purse {H H1 : Hp} (s : Same H H1) : Gr mu0 H H H H1 := ⟨fun _ _ h => h, s, fun _ _ h => .inl h, fun c o h _ => s c o h, fun c h => s.free h⟩
theorem at_end {xs : List V} {k : Nat} {v : V} (l : xs.length = k + 1) (h : xs[k]? = some v) : atI xs (-1) = some v := by
  have e : ixN xs.length (-1) = some k := by
    unfold ixN
    rw [if_neg (by decide), if_pos (by omega)]
    congr 1
    omega
  unfold atI
  rw [e]
  exact h
theorem cut_all {xs : List V} {j : Nat} (h : xs.length ≤ j) : cutV xs none (some (j : Int)) = xs := by
  unfold cutV
  have e1 : HT.sIx xs.length 0 none = 0 := rfl
  have e2 : HT.sIx xs.length xs.length (some (j : Int)) = xs.length := by
    simp only [HT.sIx]
    rw [if_neg (by omega), Int.toNat_natCast]
    omega
  rw [e1, e2, List.drop_zero, Nat.sub_zero, List.take_length]
theorem map_take_succ {α β : Type} {f : α → β} {xs : List α} {i : Nat} {x : α} (h : xs[i]? = some x) : (xs.take (i + 1)).map f = (xs.take i).map f ++ [f x] := by
  rw [List.take_add_one, h, List.map_append]; rfl
theorem cut_1 {xs : List V} : cutV xs (some 1) none = xs.drop 1 := by
  unfold cutV
  have e2 : HT.sIx xs.length xs.length none = xs.length := rfl
  rw [e2]
  cases xs with
  | nil => simp
  | cons x xs =>
    have e1 : HT.sIx (x :: xs).length 0 (some 1) = 1 := by
      simp only [HT.sIx, List.length_cons]
      rw [if_neg (by decide), show (1 : Int).toNat = 1 from rfl]
      omega
    rw [e1]
    show (xs.take (xs.length + 1 - 1)) = xs
    rw [Nat.add_sub_cancel, List.take_length]
theorem cut32 : ¬ (HT.sIx 3 0 none = 0 ∧ HT.sIx 3 3 (some 2) = 3) := by decide
theorem Gr.frzS {mu : Addr → Prop} {F H F1 H1 : Hp} (g : Gr mu F H F1 H1) (P : Addr → Prop) [DecidablePred P] (h : ∀ c, P c → H c = none ∧ F1 c = none) : Gr mu F H (fun c => if P c then H1 c else F1 c) H1 ∧ Same F1 (fun c => if P c then H1 c else F1 c) := by
  have s : Same F1 (fun c => if P c then H1 c else F1 c) := fun c o e => by
    by_cases p : P c
    · rw [(h c p).2] at e; cases e
    · simp only [p, if_false]; exact e
  refine ⟨⟨fun c o e => s c o (g.ff c o e), fun c o e => ?_, fun c o e => ?_, g.fr, g.th⟩, s⟩
  · by_cases p : P c
    · simp only [p, if_true] at e; exact e
    · simp only [p, if_false] at e; exact g.fh c o e
  · by_cases p : P c
    · exact .inr (h c p).1
    · simp only [p, if_false] at e; exact g.nw c o e
/-! ### machines that are machines -/
structure EOk (R S : Nat) (e : Ent) : Prop where
  ok : ∀ p w r, e = .go p w r → (0 ≤ p ∧ p < S) ∧ (w = -1 ∨ w = 1) ∧ 0 ≤ r ∧ r < R
structure MOk (M : Mach) (R S : Nat) : Prop where
  r1 : 1 ≤ R
  r4 : R ≤ 4
  s2 : 2 ≤ S
  s4 : S ≤ 4
  len : M.length = R
  row : ∀ r ∈ M, r.length = S
  ent : ∀ r ∈ M, ∀ e ∈ r, EOk R S e
/-! ### machines drawn: lists that may be changed yet -/
structure MaO (H F1 H1 : Hp) (m : Addr) (rs : List Addr) (ess : List (List V)) (M : Mach) : Prop where
  ow : Ow H F1 H1 m (.lst (rs.map V.ref))
  nd : rs.Nodup
  ne : m ∉ rs
  len : rs.length = ess.length
  rows : ∀ (i : Nat) r es, rs[i]? = some r → ess[i]? = some es → Ow H F1 H1 r (.lst es)
  dat : All2 (fun es row => IsAll F1 es row) ess M
section
variable {mu mu' : Addr → Prop} {H F F1 H1 F2 H2 : Hp} {m : Addr} {rs : List Addr} {ess : List (List V)} {M : Mach}
theorem MaO.row (x : MaO H F1 H1 m rs ess M) {r : Addr} (h : r ∈ rs) : ∃ es, Ow H F1 H1 r (.lst es) := by
  obtain ⟨i, hi⟩ := List.getElem?_of_mem h
  have l := (List.getElem?_eq_some_iff.mp hi).1
  exact ⟨ess[i]'(by rw [← x.len]; exact l), x.rows i r _ hi (List.getElem?_eq_getElem _)⟩
theorem MaO.gr (x : MaO H F1 H1 m rs ess M) (g : Gr mu F1 H1 F2 H2) (k : ∀ c, mu c → c ≠ m ∧ c ∉ rs) : MaO H F2 H2 m rs ess M where
  ow := x.ow.call g fun z => (k m z).1 rfl
  nd := x.nd
  ne := x.ne
  len := x.len
  rows := fun i r es h1 h2 => (x.rows i r es h1 h2).call g fun z => (k r z).2 (List.mem_of_getElem? h1)
  dat := x.dat.imp fun es row z => z.up g.ff
theorem MaO.off (x : MaO H F1 H1 m rs ess M) {p : Addr} {o : HO} (h : H p = some o) : ∀ c, muP p c → c ≠ m ∧ c ∉ rs := fun c e => by
  rw [show c = p from e]
  refine ⟨fun z => ?_, fun z => ?_⟩
  · rw [z, x.ow.n] at h; cases h
  · obtain ⟨es, w⟩ := x.row z
    rw [w.n] at h; cases h
theorem MaO.offn (x : MaO H F1 H1 m rs ess M) {p : Addr} (h : H1 p = none) : p ≠ m ∧ p ∉ rs := by
  refine ⟨fun z => ?_, fun z => ?_⟩
  · rw [z, x.ow.h] at h; cases h
  · obtain ⟨es, w⟩ := x.row z
    rw [w.h] at h; cases h
/-- a row that is done comes in -/
theorem MaO.add (x : MaO H F1 H1 m rs ess M) {r : Addr} {es : List V} {row : List Ent} (w : Ow H F1 H1 r (.lst es)) (k : r ≠ m ∧ r ∉ rs) (d : IsAll F1 es row) : MaO H F1 (upd H1 m (.lst ((rs ++ [r]).map V.ref))) m (rs ++ [r]) (ess ++ [es]) (M ++ [row]) where
  ow := x.ow.set
  nd := nd_snoc x.nd k.2
  ne := fun z => by
    rcases List.mem_append.mp z with z | z
    · exact x.ne z
    · exact k.1 (List.mem_singleton.mp z).symm
  len := by rw [List.length_append, List.length_append, x.len]; rfl
  rows := fun i r' es' h1 h2 => by
    by_cases l : i < rs.length
    · rw [List.getElem?_append_left l] at h1
      rw [List.getElem?_append_left (by rw [← x.len]; exact l)] at h2
      exact (x.rows i r' es' h1 h2).other fun z => x.ne (by rw [← z]; exact List.mem_of_getElem? h1)
    · rw [List.getElem?_append_right (by omega)] at h1
      rw [List.getElem?_append_right (by rw [← x.len]; omega), ← x.len] at h2
      cases e : i - rs.length with
      | zero =>
        rw [e] at h1 h2
        cases h1; cases h2
        exact w.other k.1
      | succ n => rw [e] at h1; cases h1
  dat := x.dat.app (All2.one d)
/-- an entry of it is changed -/
theorem MaO.put (x : MaO H F1 H1 m rs ess M) {i j : Nat} {r : Addr} {es : List V} {row : List Ent} {v : V} {e : Ent} (hr : rs[i]? = some r) (hes : ess[i]? = some es) (hrow : M[i]? = some row) (hv : Is F1 v e) :
    MaO H F1 (upd H1 r (.lst (es.set j v))) m rs (ess.set i (es.set j v)) (M.set i (row.set j e)) where
  ow := x.ow.other fun z => x.ne (by rw [z]; exact List.mem_of_getElem? hr)
  nd := x.nd
  ne := x.ne
  len := by rw [List.length_set]; exact x.len
  rows := fun i' r' es' h1 h2 => by
    by_cases e : i = i'
    · subst e
      rw [hr] at h1
      cases h1
      rw [List.getElem?_set_self (List.getElem?_eq_some_iff.mp hes).1] at h2
      cases h2
      exact (x.rows i r es hr hes).set
    · rw [List.getElem?_set_ne e] at h2
      exact (x.rows i' r' es' h1 h2).other fun z => e (nd_ix x.nd hr (by rw [← z]; exact h1))
  dat := x.dat.set ((x.dat.2 i es row hes hrow).set hv j) i
/-- it is changed no more -/
theorem MaO.frz (x : MaO H F1 H1 m rs ess M) (g : Gr mu F H F1 H1) : ∃ F2, Gr mu F H F2 H1 ∧ Same F1 F2 ∧ Is F2 (.ref m) M ∧ (∀ c, c ≠ m → c ∉ rs → F2 c = F1 c) ∧ ∀ c, c = m ∨ c ∈ rs → F2 c = H1 c := by
  have own : ∀ c, (c = m ∨ c ∈ rs) → H c = none ∧ F1 c = none ∧ ∃ o, H1 c = some o := fun c h => by
    rcases h with rfl | h
    · exact ⟨x.ow.n, x.ow.f, _, x.ow.h⟩
    · obtain ⟨es, w⟩ := x.row h
      exact ⟨w.n, w.f, _, w.h⟩
  have s : Same F1 (fun c => if c = m ∨ c ∈ rs then H1 c else F1 c) := fun c o h => by
    by_cases e : c = m ∨ c ∈ rs
    · rw [(own c e).2.1] at h; cases h
    · simp only [e, if_false]; exact h
  refine ⟨fun c => if c = m ∨ c ∈ rs then H1 c else F1 c, ⟨fun c o h => s c o (g.ff c o h), fun c o h => ?_, fun c o h => ?_, g.fr, g.th⟩, s, ⟨m, rs.map V.ref, rfl, ?_, by rw [List.length_map, x.len]; exact x.dat.1, fun i v row h1 h2 => ?_⟩, fun c h1 h2 => if_neg fun z => z.elim h1 h2, fun c h => if_pos h⟩
  · by_cases e : c = m ∨ c ∈ rs
    · simp only [e, if_true] at h; exact h
    · simp only [e, if_false] at h; exact g.fh c o h
  · by_cases e : c = m ∨ c ∈ rs
    · exact .inr (own c e).1
    · simp only [e, if_false] at h; exact g.nw c o h
  · show (if m = m ∨ m ∈ rs then H1 m else F1 m) = _
    rw [if_pos (.inl rfl)]; exact x.ow.h
  · rw [List.getElem?_map] at h1
    cases hr : rs[i]? with
    | none => rw [hr] at h1; cases h1
    | some r =>
      rw [hr] at h1
      cases h1
      obtain ⟨es, hes, hd⟩ := x.dat.get h2
      refine ⟨r, es, rfl, ?_, hd.up s⟩
      show (if r = m ∨ r ∈ rs then H1 r else F1 r) = _
      rw [if_pos (.inr (List.mem_of_getElem? hr))]
      exact (x.rows i r es hr hes).h
/-- it may be changed again -/
theorem MaO.thaw {F0 F3 G : Hp} (s0 : Same F0 H) (x : MaO H F1 H1 m rs ess M) (s : Same F1 F2) (on : ∀ c, c = m ∨ c ∈ rs → F2 c = H1 c) (s' : Same F2 F3) (g : Gr mu F0 H F3 G) : ∃ F', Gr mu F0 H F' G ∧ Same F1 F' ∧ MaO H F' G m rs ess M := by
  have own : ∀ c, (c = m ∨ c ∈ rs) → H c = none ∧ F1 c = none ∧ ∀ o, H1 c = some o → G c = some o := fun c h => by
    have k : ∀ o, H1 c = some o → G c = some o := fun o e => g.fh _ _ (s' _ _ ((on c h).trans e))
    rcases id h with rfl | h
    · exact ⟨x.ow.n, x.ow.f, k⟩
    · obtain ⟨es, w⟩ := x.row h
      exact ⟨w.n, w.f, k⟩
  have sa : Same F1 (fun c => if c = m ∨ c ∈ rs then none else F3 c) := fun c o h => by
    by_cases e : c = m ∨ c ∈ rs
    · rw [(own c e).2.1] at h; cases h
    · simp only [e, if_false]; exact s' _ _ (s _ _ h)
  have sb : Same (fun c => if c = m ∨ c ∈ rs then none else F3 c) F3 := fun c o h => by
    by_cases e : c = m ∨ c ∈ rs
    · simp only [e, if_true] at h; cases h
    · simp only [e, if_false] at h; exact h
  have no : ∀ c, (c = m ∨ c ∈ rs) → (fun c => if c = m ∨ c ∈ rs then none else F3 c) c = none := fun c e => if_pos e
  refine ⟨fun c => if c = m ∨ c ∈ rs then none else F3 c, ⟨fun c o h => ?_, fun c o h => g.fh _ _ (sb _ _ h), fun c o h => g.nw _ _ (sb _ _ h), g.fr, g.th⟩, sa, ⟨⟨x.ow.n, no _ (.inl rfl), (own _ (.inl rfl)).2.2 _ x.ow.h⟩, x.nd, x.ne, x.len, fun i r es h1 h2 => ?_, x.dat.imp fun es row z => z.up sa⟩⟩
  · by_cases e : c = m ∨ c ∈ rs
    · have z := s0 c o h
      rw [(own c e).1] at z; cases z
    · simp only [e, if_false]; exact g.ff c o h
  · have w := x.rows i r es h1 h2
    have m' : r = m ∨ r ∈ rs := .inr (List.mem_of_getElem? h1)
    exact ⟨w.n, no _ m', (own _ m').2.2 _ w.h⟩
theorem MaO.at (x : MaO H F1 H1 m rs ess M) {i : Nat} {row : List Ent} (h : M[i]? = some row) : ∃ r es, rs[i]? = some r ∧ ess[i]? = some es ∧ Ow H F1 H1 r (.lst es) ∧ IsAll F1 es row := by
  obtain ⟨es, hes, al⟩ := x.dat.get h
  have l : i < rs.length := by rw [x.len]; exact (List.getElem?_eq_some_iff.mp hes).1
  exact ⟨_, es, List.getElem?_eq_getElem l, hes, x.rows i _ es (List.getElem?_eq_getElem l) hes, al⟩
end
theorem ixN_of {n : Nat} {k : Int} (h0 : 0 ≤ k) (h1 : k < n) : ixN n k = some k.toNat := by
  unfold ixN
  rw [if_pos h0, if_pos h1]
theorem Gr.pf {mu : Addr → Prop} {F H F1 H1 : Hp} {p : Addr} {o : HO} (g : Gr mu F H F1 H1) (f : F p = none) (h : H p = some o) : F1 p = none := by
  cases e : F1 p with
  | none => rfl
  | some z =>
    rcases g.nw p z e with k | k
    · rw [f] at k; cases k
    · rw [h] at k; cases k
/-- a draw: the purse alone is another one -/
theorem Gr.drw {F H F1 H1 : Hp} {p : Addr} {o : HO} {a b : Int} (g : Gr (muP p) F H F1 H1) (f : F p = none) (h : H p = some o) : Gr (muP p) F H F1 (upd H1 p (PurseO a b)) ∧ Gr (muP p) F1 H1 F1 (upd H1 p (PurseO a b)) :=
  ⟨g.set (g.pf f h) (.inr rfl), (Gr.refl g.fh).set (g.pf f h) (.inr rfl)⟩
theorem MOk.set {M : Mach} {R S i j : Nat} {row : List Ent} {e : Ent} (h : MOk M R S) (hr : M[i]? = some row) (he : EOk R S e) : MOk (M.set i (row.set j e)) R S := by
  have mr := List.mem_of_getElem? hr
  refine ⟨h.r1, h.r4, h.s2, h.s4, by rw [List.length_set]; exact h.len, fun r z => ?_, fun r z e' z' => ?_⟩
  · rcases List.mem_or_eq_of_mem_set z with z | rfl
    · exact h.row r z
    · rw [List.length_set]; exact h.row row mr
  · rcases List.mem_or_eq_of_mem_set z with z | rfl
    · exact h.ent r z e' z'
    · rcases List.mem_or_eq_of_mem_set z' with z' | rfl
      · exact h.ent row mr e' z'
      · exact he
def sp_L_machine : Sp := fun vs H Q _ => ∃ (F : Hp) (p : Addr) (a b : Int) (R S : Nat), vs = [.ref p, .int R, .int S] ∧ Same F H ∧ F p = none ∧ H p = some (PurseO a b) ∧ 0 ≤ a ∧ 0 ≤ b ∧ 1 ≤ R ∧ R ≤ 4 ∧ 2 ≤ S ∧ S ≤ 4 ∧
  ∀ (F' H' : Hp) (v : V) (M : Mach) (a' b' : Int), Gr (muP p) F H F' H' → H' p = some (PurseO a' b') → 0 ≤ a' → 0 ≤ b' → MOk M R S → Is F' v M → Q v H'
theorem ok_L_machine (t : Tx K mg) : FnOk P w K mg base CX0 2 t.a_L_machine t.fd_L_machine ["_law_purse_here", "_law_rows", "_law_signs"] sp_L_machine := by
  refine t.F_L_machine.ok sc_L_machine (fun vs H Q E h => ?_) (fun cdv A outer s H vs Q E hr h => ?_)
  · obtain ⟨F, p, a, b, R, S, rfl, _⟩ := h
    rfl
  · obtain ⟨F, p, a, b, R, S, rfl, sF, fp, hp, ha, hb, R1, R4, S2, S4, q⟩ := h
    refine ⟨_, (pss_cons (ps_set (i := 3) sc_L_machine.nd rfl (by first | exact Or.inl rfl | exact Or.inr rfl) (pe_lst pa_nil))
      (pss_cons (ps_set (i := 4) sc_L_machine.nd rfl (by first | exact Or.inl rfl | exact Or.inr rfl) (pe_ix ix_list (pe_lst (pa_cons pe_int (pa_cons pe_int (pa_cons pe_int pa_nil)))) (pe_call (ok_L_draw t) (hr.mono (by decide)) (by rfl) t.m_L_draw t.F_L_draw.kp t.b_L_draw .nil pass0 (pa_cons (pv 0) (pa_cons pe_int pa_nil))) (fun _ _ => rfl)))
      (pss_cons (ps_for PassesOwn.never rfl (pi_range1 (by rfl) t.n_range (pa_cons (pv 1) pa_nil)) (pg_name (i := 5) sc_L_machine.nd rfl (by first | exact Or.inl rfl | exact Or.inr rfl)) (pss_cons (ps_set (i := 6) sc_L_machine.nd rfl (by first | exact Or.inl rfl | exact Or.inr rfl) (pe_lst pa_nil))
      (pss_cons (ps_for PassesOwn.never rfl (pi_range1 (by rfl) t.n_range (pa_cons (pv 2) pa_nil)) (pg_name (i := 7) sc_L_machine.nd rfl (by first | exact Or.inl rfl | exact Or.inr rfl)) (pss_cons (ps_set (i := 8) sc_L_machine.nd rfl (by first | exact Or.inl rfl | exact Or.inr rfl) (pe_tup (pa_cons (pe_call (ok_L_draw t) (hr.mono (by decide)) (by rfl) t.m_L_draw t.F_L_draw.kp t.b_L_draw .nil pass0 (pa_cons (pv 0) (pa_cons (pv 2) pa_nil))) (pa_cons (pe_op op_sub (pe_op op_mul pe_int (pe_call (ok_L_draw t) (hr.mono (by decide)) (by rfl) t.m_L_draw t.F_L_draw.kp t.b_L_draw .nil pass0 (pa_cons (pv 0) (pa_cons pe_int pa_nil)))) pe_int) (pa_cons (pe_call (ok_L_draw t) (hr.mono (by decide)) (by rfl) t.m_L_draw t.F_L_draw.kp t.b_L_draw .nil pass0 (pa_cons (pv 0) (pa_cons (pv 1) pa_nil))) pa_nil)))))
      (pss_cons (ps_if (pt_cmpR op_eq (pe_call (ok_L_draw t) (hr.mono (by decide)) (by rfl) t.m_L_draw t.F_L_draw.kp t.b_L_draw .nil pass0 (pa_cons (pv 0) (pa_cons (pv 4) pa_nil))) pe_int (nomark _)) (pss_one (ps_set (i := 8) sc_L_machine.nd rfl (by first | exact Or.inl rfl | exact Or.inr rfl) (pe_tup pa_nil))) pss_nil)
      (pss_one (ps_expr (pe_bm PySem.F.plainAttrs_list PySem.F.slot_list_append PySem.F.type_list_append mt_append (pv 6) (pa_cons (pv 8) pa_nil)))))))
      (pss_one (ps_expr (pe_bm PySem.F.plainAttrs_list PySem.F.slot_list_append PySem.F.type_list_append mt_append (pv 3) (pa_cons (pv 6) pa_nil)))))))
      (pss_one (ps_ret (pv 3)))))), ?_⟩
    have g0 : Gr (muP p) F H F H := Gr.refl sF
    refine ⟨nil_le, fun D nD => ?_⟩
    have w0 : Ow H F (upd H D (.lst [])) D (.lst []) := Ow.mk1 g0 nD
    have g1 := g0.own (o := .lst []) nD
    have hp1 := ln (u := .lst []) nD hp
    have pD0 : D ≠ p := (ne_of_none hp nD).symm
    refine ⟨three_le, fun L nL => ?_⟩
    have g2 := g1.own (o := .lst [.int 2, .int 5, .int 12]) nL
    have hp2 := ln (u := .lst [.int 2, .int 5, .int 12]) nL hp1
    have w2 := w0.own (u := .lst [.int 2, .int 5, .int 12]) nL
    have hL2 : (upd (upd H D (.lst [])) L (.lst [.int 2, .int 5, .int 12])) L = some (.lst [.int 2, .int 5, .int 12]) := upd_same
    have pL : L ≠ p := (ne_of_none hp1 nL).symm
    generalize upd (upd H D (.lst [])) L (.lst [.int 2, .int 5, .int 12]) = H2 at g2 hp2 w2 hL2 ⊢
    refine ⟨_, rfl, p, a, b, 3, rfl, hp2, ha, hb, by decide, by decide, fun d3 a3 b3 d30 d31 ha3 hb3 => ?_⟩
    obtain ⟨g4, k4⟩ := g2.drw (a := a3) (b := b3) fp hp
    have w4 := w2.call k4 pD0
    have hL4 : (upd H2 p (PurseO a3 b3)) L = some (.lst [.int 2, .int 5, .int 12]) := (upd_ne pL).trans hL2
    have hp4 : (upd H2 p (PurseO a3 b3)) p = some (PurseO a3 b3) := upd_same
    generalize upd H2 p (PurseO a3 b3) = H3 at g4 k4 w4 hL4 hp4 ⊢
    obtain ⟨e0, he0, e00, e01⟩ : ∃ e0 : Int, atI [V.int 2, V.int 5, V.int 12] d3 = some (.int e0) ∧ 0 < e0 ∧ e0 ≤ 12 := by
      rcases (by omega : d3 = 0 ∨ d3 = 1 ∨ d3 = 2) with rfl | rfl | rfl
      · exact ⟨2, rfl, by decide, by decide⟩
      · exact ⟨5, rfl, by decide, by decide⟩
      · exact ⟨12, rfl, by decide, by decide⟩
    refine ⟨L, _, _, _, rfl, rfl, SqL.of hL4, he0, ?_⟩
    have x0 : MaO H F H3 D [] [] [] := ⟨w4, List.nodup_nil, (fun z => nomatch z), rfl, fun i r es h _ => (by cases h), All2.nil⟩
    refine ⟨_, rfl, (R : Int), rfl, by omega, by omega, for_range (lo := 0) (n := ((R : Int)).toNat) (fun i σ G => ∃ (F1 : Hp) (rs : List Addr) (ess : List (List V)) (M : Mach) (a b : Int) (v5 v6 v7 v8 : Option V), σ = [some (.ref p), some (.int R), some (.int S), some (.ref D), some (.int e0), v5, v6, v7, v8] ∧
      Gr (muP p) F H F1 G ∧ G p = some (PurseO a b) ∧ 0 ≤ a ∧ 0 ≤ b ∧ MaO H F1 G D rs ess M ∧ M.length = i ∧ ∀ row ∈ M, row.length = S ∧ ∀ e ∈ row, EOk R S e) ⟨F, [], [], [], a3, b3, none, none, none, none, rfl, g4, hp4, ha3, hb3, x0, rfl, fun row z => nomatch z⟩ ?_ ?_⟩
    · rintro i σ G hi ⟨F1, rs, ess, M, a, b, v5, v6, v7, v8, rfl, g, hpG, ha, hb, x, hl, hM⟩
      -- row = []
      refine ⟨nil_le, fun r nr => ?_⟩
      have gr := g.own (o := .lst []) nr
      have wr : Ow H F1 (upd G r (.lst [])) r (.lst []) := Ow.mk1 g nr
      have xr := x.gr ((Gr.refl (mu := mu0) g.fh).own (o := .lst []) nr) fun c z => z.elim
      have offr := x.offn nr
      have hpr : (upd G r (.lst [])) p = some (PurseO a b) := by rw [upd_ne (ne_of_none hpG nr)]; exact hpG
      refine ⟨_, rfl, (S : Int), rfl, by omega, by omega, for_range (lo := 0) (n := ((S : Int)).toNat) (fun j σ G => ∃ (F1 : Hp) (es : List V) (row : List Ent) (a b : Int) (v7 v8 : Option V), σ = [some (.ref p), some (.int R), some (.int S), some (.ref D), some (.int e0), some (.int (0 + i)), some (.ref r), v7, v8] ∧
        Gr (muP p) F H F1 G ∧ G p = some (PurseO a b) ∧ 0 ≤ a ∧ 0 ≤ b ∧ MaO H F1 G D rs ess M ∧ Ow H F1 G r (.lst es) ∧ IsAll F1 es row ∧ row.length = j ∧ ∀ e ∈ row, EOk R S e) ⟨F1, [], [], a, b, v7, v8, rfl, gr, hpr, ha, hb, xr, wr, All2.nil, rfl, fun e z => nomatch z⟩ ?_ ?_⟩
      · rintro j σ G hj ⟨F1, es, row, a, b, v7, v8, rfl, g, hpG, ha, hb, x, w, al, hl, hrow⟩
        have wp : r ≠ p := fun z => by rw [z] at w; rw [w.n] at hp; cases hp
        have wD : r ≠ D := offr.1
        -- the entry
        refine ⟨_, rfl, _, rfl, p, a, b, (S : Int), rfl, hpG, ha, hb, by omega, by omega, fun e1 a1 b1 e10 e11 ha1 hb1 => ?_⟩
        obtain ⟨g1, k1⟩ := g.drw (a := a1) (b := b1) fp hp
        refine ⟨_, rfl, p, a1, b1, 2, rfl, upd_same, ha1, hb1, by decide, by decide, fun e2 a2 b2 e20 e21 ha2 hb2 => ⟨_, _, rfl, rfl, .inl ⟨by decide, by decide⟩, _, _, rfl, rfl, ?_⟩⟩
        obtain ⟨g2, k2⟩ := g1.drw (a := a2) (b := b2) fp hp
        refine ⟨_, rfl, _, rfl, p, a2, b2, (R : Int), rfl, upd_same, ha2, hb2, by omega, by omega, fun e3 a3 b3 e30 e31 ha3 hb3 => ⟨three_le, fun q0 nq => ?_⟩⟩
        obtain ⟨g3, k3⟩ := g2.drw (a := a3) (b := b3) fp hp
        have k := (k1.trans k2).trans k3
        have x3 := x.gr k (x.off hp)
        have w3 := w.call k wp
        have hp3 : (upd (upd (upd G p (PurseO a1 b1)) p (PurseO a2 b2)) p (PurseO a3 b3)) p = some (PurseO a3 b3) := upd_same
        generalize upd (upd (upd G p (PurseO a1 b1)) p (PurseO a2 b2)) p (PurseO a3 b3) = G3 at g3 k x3 w3 hp3 nq
        have g4 := g3.new (o := .tup [.int e1, .int (2 * e2 - 1), .int e3]) nq
        have k4 := (Gr.refl (mu := mu0) g3.fh).new (o := .tup [.int e1, .int (2 * e2 - 1), .int e3]) nq
        have x4 := x3.gr k4 fun c z => z.elim
        have w4 := w3.call k4 fun z => z
        have hp4 := k4.fr _ _ hp3 fun z => z
        have ee : Is (upd F1 q0 (.tup [.int e1, .int (2 * e2 - 1), .int e3])) (.ref q0) (Ent.go e1 (2 * e2 - 1) e3) := ⟨q0, rfl, upd_same⟩
        have eo : EOk R S (Ent.go e1 (2 * e2 - 1) e3) := ⟨fun p w r z => by cases z; exact ⟨⟨e10, e11⟩, by omega, e30, e31⟩⟩
        have al4 := al.up k4.ff
        generalize upd F1 q0 (.tup [.int e1, .int (2 * e2 - 1), .int e3]) = F4 at g4 k4 x4 w4 ee al4
        generalize upd G3 q0 (.tup [.int e1, .int (2 * e2 - 1), .int e3]) = G4 at g4 k4 x4 w4 hp4
        -- what is the same in both ways: the entry comes in
        have fin : ∀ (F5 G5 : Hp) (q5 : Addr) (e5 : Ent) (a5 b5 : Int), Gr (muP p) F H F5 G5 → G5 p = some (PurseO a5 b5) → 0 ≤ a5 → 0 ≤ b5 → MaO H F5 G5 D rs ess M → Ow H F5 G5 r (.lst es) → IsAll F5 es row → Is F5 (.ref q5) e5 → EOk R S e5 →
            ∃ (F1 : Hp) (es1 : List V) (row : List Ent) (a b : Int) (v7 v8 : Option V), [some (.ref p), some (.int R), some (.int S), some (.ref D), some (.int e0), some (.int (0 + i)), some (.ref r), some (.int (0 + j)), some (.ref q5)] = [some (.ref p), some (.int R), some (.int S), some (.ref D), some (.int e0), some (.int (0 + i)), some (.ref r), v7, v8] ∧
              Gr (muP p) F H F1 (upd G5 r (.lst (es ++ [.ref q5]))) ∧ (upd G5 r (.lst (es ++ [.ref q5]))) p = some (PurseO a b) ∧ 0 ≤ a ∧ 0 ≤ b ∧ MaO H F1 (upd G5 r (.lst (es ++ [.ref q5]))) D rs ess M ∧ Ow H F1 (upd G5 r (.lst (es ++ [.ref q5]))) r (.lst es1) ∧ IsAll F1 es1 row ∧ row.length = j + 1 ∧ ∀ e ∈ row, EOk R S e := by
          intro F5 G5 q5 e5 a5 b5 g5 hp5 ha5 hb5 x5 w5 al5 ie5 eo5
          refine ⟨F5, es ++ [.ref q5], row ++ [e5], a5, b5, _, _, rfl, g5.set w5.f (.inl w5.n), by rw [upd_ne (Ne.symm wp)]; exact hp5, ha5, hb5, x5.gr (mu := fun c => c = r) ((Gr.refl g5.fh).set w5.f (.inr rfl)) (fun c z => by rw [show c = r from z]; exact offr), w5.set, al5.app (All2.one ie5), by rw [List.length_append, hl]; rfl, fun e z => ?_⟩
          rcases List.mem_append.mp z with z | z
          · exact hrow e z
          · rw [List.mem_singleton.mp z]; exact eo5
        have ll : ∀ G5 F5 : Hp, IsAll F5 es row → es.length < sizeLine := fun _ _ z => by rw [z.1, hl]; exact lt_size (by omega)
        refine ⟨_, rfl, _, rfl, p, a3, b3, e0, rfl, hp4, ha3, hb3, by omega, by omega, fun e4 a4 b4 e40 e41 ha4 hb4 => ⟨rfl, _, rfl, ?_⟩⟩
        obtain ⟨g5, k5⟩ := g4.drw (a := a4) (b := b4) fp hp
        have x5 := x4.gr k5 (x4.off hp)
        have w5 := w4.call k5 wp
        have al5 := al4.up k5.ff
        have hp5 : (upd G4 p (PurseO a4 b4)) p = some (PurseO a4 b4) := upd_same
        generalize upd G4 p (PurseO a4 b4) = G5 at g5 k5 x5 w5 hp5
        refine ite2 (fun c => ?_) (fun c => ?_)
        · refine ⟨nil_le, fun q2 nq2 => ?_⟩
          have g6 := g5.new (o := .tup []) nq2
          have k6 := (Gr.refl (mu := mu0) g5.fh).new (o := .tup []) nq2
          have x6 := x5.gr k6 fun c z => z.elim
          have w6 := w5.call k6 fun z => z
          refine ⟨_, rfl, .inl ⟨rfl, _, SqL.of w6.h⟩, _, rfl, r, _, _, rfl, rfl, w6.h, ll G5 _ al5, ?_⟩
          exact fin _ _ q2 .emp a4 b4 g6 (k6.fr _ _ hp5 fun z => z) ha4 hb4 x6 w6 (al5.up k6.ff) ⟨q2, rfl, upd_same⟩ ⟨fun p w r z => by cases z⟩
        · refine ⟨_, rfl, .inl ⟨rfl, _, SqL.of w5.h⟩, _, rfl, r, _, _, rfl, rfl, w5.h, ll G5 _ al5, ?_⟩
          exact fin _ _ q0 _ a4 b4 g5 hp5 ha4 hb4 x5 w5 al5 (ee.up k5.ff) eo
      · rintro σ G ⟨F1, es, row, a, b, v7, v8, rfl, g, hpG, ha, hb, x, w, al, hl2, hrow⟩
        have hl2 : row.length = S := by rw [hl2]; exact Int.toNat_natCast S
        refine ⟨_, rfl, .inl ⟨rfl, _, SqL.of x.ow.h⟩, _, rfl, D, _, _, rfl, rfl, x.ow.h, by rw [List.length_map, x.len, x.dat.1, hl]; exact lt_size (by omega), ?_⟩
        have e1 : rs.map V.ref ++ [V.ref r] = (rs ++ [r]).map V.ref := by rw [List.map_append]; rfl
        rw [e1]
        have pD : p ≠ D := fun z => by rw [z] at hp; rw [x.ow.n] at hp; cases hp
        refine ⟨F1, rs ++ [r], ess ++ [es], M ++ [row], a, b, _, _, _, _, rfl, g.set x.ow.f (.inl x.ow.n), by rw [upd_ne pD]; exact hpG, ha, hb, x.add w offr al, by rw [List.length_append, hl]; rfl, fun row' z => ?_⟩
        rcases List.mem_append.mp z with z | z
        · exact hM row' z
        · rw [List.mem_singleton.mp z]; exact ⟨hl2, hrow⟩
    · rintro σ G ⟨F1, rs, ess, M, a, b, v5, v6, v7, v8, rfl, g, hpG, ha, hb, x, hl, hM⟩
      have hl : M.length = R := by rw [hl]; exact Int.toNat_natCast R
      obtain ⟨FX, g9, _, hm, _, _⟩ := x.frz g
      exact ⟨_, rfl, q FX G (.ref D) M a b g9 hpG ha hb ⟨R1, R4, S2, S4, hl, fun r z => (hM r z).1, fun r z => (hM r z).2⟩ hm⟩
/-! ### plain things: numbers, None, texts, lists and tuples of these (a def that calls itself) -/
def At0 (v : V) : Prop := (∃ i, v = .int i) ∨ v = .non ∨ ∃ s, v = .str s
def Pl (F : Hp) : Nat → V → Prop
  | 0, v => At0 v
  | n + 1, v => At0 v ∨ ∃ a xs, v = .ref a ∧ (F a = some (.lst xs) ∨ F a = some (.tup xs)) ∧ ∀ x ∈ xs, Pl F n x
theorem Pl.up {F F' : Hp} (s : Same F F') : ∀ {n : Nat} {v : V}, Pl F n v → Pl F' n v
  | 0, _, h => h
  | n + 1, _, .inl h => .inl h
  | n + 1, _, .inr ⟨a, xs, e, h, k⟩ => .inr ⟨a, xs, e, h.imp (s _ _) (s _ _), fun x m => Pl.up s (k x m)⟩
theorem Pl.at0 {F : Hp} {v : V} (h : At0 v) : ∀ n, Pl F n v
  | 0 => h
  | _ + 1 => .inl h
def sp_plainly (n : Nat) : Sp := fun vs H Q _ => ∃ (F : Hp) (v : V), vs = [v] ∧ Same F H ∧ Pl F n v ∧ ∀ H', Gr mu0 F H F H' → Q (.bl true) H'
theorem okR_plainly (t : Tx K mg) : ∀ n, FnOk P w K mg base CX0 (n + 1) t.a_L_plainly t.fd_L_plainly ["_law_found"] (sp_plainly n) := by
  intro n
  induction n with
  | zero =>
    refine t.F_L_plainly.ok sc_L_plainly (fun vs H Q E h => ?_) (fun cdv A outer s H vs Q E hr h => ?_)
    · obtain ⟨F, v, rfl, _⟩ := h
      rfl
    · obtain ⟨F, v, rfl, sF, hv, q⟩ := h
      refine ⟨_, (pss_cons (ps_if (PW.pt (pw_or (pt_val (pe_callB (id := "isinstance") call_isi (by rfl) t.n_isinstance (by decide +kernel) (pa_cons (pv 0) (pa_cons (pe_bltn (v := .ty "tuple") (by rfl) t.n_tuple (by decide +kernel) rfl) pa_nil)))) (pw_or1 (pt_val (pe_callB (id := "isinstance") call_isi (by rfl) t.n_isinstance (by decide +kernel) (pa_cons (pv 0) (pa_cons (pe_bltn (v := .ty "list") (by rfl) t.n_list (by decide +kernel) rfl) pa_nil))))))) (pss_one ps_never) pss_nil)
      (pss_cons (ps_if (PW.pt (pw_or (pt_cmpR op_isN (pv 0) pe_non (nomark _)) (pw_or1 (pt_val (pe_callB (id := "isinstance") call_isi (by rfl) t.n_isinstance (by decide +kernel) (pa_cons (pv 0) (pa_cons (pe_bltn (v := .ty "str") (by rfl) t.n_str (by decide +kernel) rfl) pa_nil))))))) (pss_one (ps_ret pe_bl)) pss_nil)
      (pss_one (ps_ret (pe_and (pe_callB (id := "isinstance") call_isi (by rfl) t.n_isinstance (by decide +kernel) (pa_cons (pv 0) (pa_cons (pe_bltn (v := .ty "int") (by rfl) t.n_int (by decide +kernel) rfl) pa_nil))) (pe_one (pe_not (pe_callB (id := "isinstance") call_isi (by rfl) t.n_isinstance (by decide +kernel) (pa_cons (pv 0) (pa_cons (pe_bltn (v := .ty "bool") (by rfl) t.n_bool (by decide +kernel) rfl) pa_nil)))))))))), ?_⟩
      have g0 : Gr mu0 F H F H := Gr.refl sF
      rcases hv with ⟨i, rfl⟩ | rfl | ⟨x, rfl⟩
      · refine ⟨_, rfl, _, _, _, _, false, rfl, .ty "tuple", .base (.int _), kit_ty (by decide +kernel), _, rfl, ifF rfl ⟨_, rfl, _, _, _, _, false, rfl, .ty "list", .base (.int _), kit_ty (by decide +kernel), _, rfl, ifF rfl ?_⟩⟩
        refine ⟨_, rfl, rfl, _, rfl, ifF rfl ⟨_, rfl, _, _, _, _, false, rfl, .ty "str", .base (.int _), kit_ty (by decide +kernel), _, rfl, ifF rfl ?_⟩⟩
        exact ⟨_, rfl, _, _, _, _, true, rfl, .ty "int", .base (.int _), kt_int_int, _, rfl, ifT rfl ⟨_, rfl, _, _, _, _, false, rfl, .ty "bool", .base (.int _), kt_int_bool, _, rfl, q _ g0⟩⟩
      · refine ⟨_, rfl, _, _, _, _, false, rfl, .ty "tuple", .base .non, kit_ty (by decide +kernel), _, rfl, ifF rfl ⟨_, rfl, _, _, _, _, false, rfl, .ty "list", .base .non, kit_ty (by decide +kernel), _, rfl, ifF rfl ?_⟩⟩
        exact ⟨_, rfl, rfl, _, rfl, ifT rfl (q _ g0)⟩
      · refine ⟨_, rfl, _, _, _, _, false, rfl, .ty "tuple", .base (.str _), kit_ty (by decide +kernel), _, rfl, ifF rfl ⟨_, rfl, _, _, _, _, false, rfl, .ty "list", .base (.str _), kit_ty (by decide +kernel), _, rfl, ifF rfl ?_⟩⟩
        exact ⟨_, rfl, rfl, _, rfl, ifF rfl ⟨_, rfl, _, _, _, _, true, rfl, .ty "str", .base (.str _), kit_ty (by decide +kernel), _, rfl, ifT rfl (q _ g0)⟩⟩
  | succ n ih =>
    refine t.F_L_plainly.ok sc_L_plainly (fun vs H Q E h => ?_) (fun cdv A outer s H vs Q E hr h => ?_)
    · obtain ⟨F, v, rfl, _⟩ := h
      rfl
    · obtain ⟨F, v, rfl, sF, hv, q⟩ := h
      refine ⟨_, (pss_cons (ps_if (PW.pt (pw_or (pt_val (pe_callB (id := "isinstance") call_isi (by rfl) t.n_isinstance (by decide +kernel) (pa_cons (pv 0) (pa_cons (pe_bltn (v := .ty "tuple") (by rfl) t.n_tuple (by decide +kernel) rfl) pa_nil)))) (pw_or1 (pt_val (pe_callB (id := "isinstance") call_isi (by rfl) t.n_isinstance (by decide +kernel) (pa_cons (pv 0) (pa_cons (pe_bltn (v := .ty "list") (by rfl) t.n_list (by decide +kernel) rfl) pa_nil))))))) (pss_one (ps_ret (pe_cmpR op_eq (pe_callB (id := "len") call_lenQ (by rfl) t.n_len (by decide +kernel) (pa_cons (pe_lc (own := [("_law_part", 1)]) (g := gName 1) rfl sc_L_plainly.nd (pi_or (pi_list (pv 0)) (pi_tup (pv 0))) (blkOk_by (N := N_L_plainly) (sc := defScope s_L_plainly) (by decide +kernel)) (fun _ _ _ _ _ => (pg_name (i := 1) sc_L_plainly.nd rfl (by first | exact Or.inl rfl | exact Or.inr rfl))) (fun _ _ _ _ _ => (pts_one (pt_not (pt_val (pe_call ih (hr.mono (Nat.le_refl _)) (by rfl) t.m_L_plainly t.F_L_plainly.kp t.b_L_plainly .nil pass0 (pa_cons (pv 1) pa_nil)))))) (fun _ _ _ _ _ => (pv 1))) pa_nil)) pe_int (nomark _)))) pss_nil)
      (pss_cons (ps_if (PW.pt (pw_or (pt_cmpR op_isN (pv 0) pe_non (nomark _)) (pw_or1 (pt_val (pe_callB (id := "isinstance") call_isi (by rfl) t.n_isinstance (by decide +kernel) (pa_cons (pv 0) (pa_cons (pe_bltn (v := .ty "str") (by rfl) t.n_str (by decide +kernel) rfl) pa_nil))))))) (pss_one (ps_ret pe_bl)) pss_nil)
      (pss_one (ps_ret (pe_and (pe_callB (id := "isinstance") call_isi (by rfl) t.n_isinstance (by decide +kernel) (pa_cons (pv 0) (pa_cons (pe_bltn (v := .ty "int") (by rfl) t.n_int (by decide +kernel) rfl) pa_nil))) (pe_one (pe_not (pe_callB (id := "isinstance") call_isi (by rfl) t.n_isinstance (by decide +kernel) (pa_cons (pv 0) (pa_cons (pe_bltn (v := .ty "bool") (by rfl) t.n_bool (by decide +kernel) rfl) pa_nil)))))))))), ?_⟩
      have g0 : Gr mu0 F H F H := Gr.refl sF
      rcases hv with (⟨i, rfl⟩ | rfl | ⟨x, rfl⟩) | ⟨a, xs, rfl, ha, hx⟩
      · refine ⟨_, rfl, _, _, _, _, false, rfl, .ty "tuple", .base (.int _), kit_ty (by decide +kernel), _, rfl, ifF rfl ⟨_, rfl, _, _, _, _, false, rfl, .ty "list", .base (.int _), kit_ty (by decide +kernel), _, rfl, ifF rfl ?_⟩⟩
        refine ⟨_, rfl, rfl, _, rfl, ifF rfl ⟨_, rfl, _, _, _, _, false, rfl, .ty "str", .base (.int _), kit_ty (by decide +kernel), _, rfl, ifF rfl ?_⟩⟩
        exact ⟨_, rfl, _, _, _, _, true, rfl, .ty "int", .base (.int _), kt_int_int, _, rfl, ifT rfl ⟨_, rfl, _, _, _, _, false, rfl, .ty "bool", .base (.int _), kt_int_bool, _, rfl, q _ g0⟩⟩
      · refine ⟨_, rfl, _, _, _, _, false, rfl, .ty "tuple", .base .non, kit_ty (by decide +kernel), _, rfl, ifF rfl ⟨_, rfl, _, _, _, _, false, rfl, .ty "list", .base .non, kit_ty (by decide +kernel), _, rfl, ifF rfl ?_⟩⟩
        exact ⟨_, rfl, rfl, _, rfl, ifT rfl (q _ g0)⟩
      · refine ⟨_, rfl, _, _, _, _, false, rfl, .ty "tuple", .base (.str _), kit_ty (by decide +kernel), _, rfl, ifF rfl ⟨_, rfl, _, _, _, _, false, rfl, .ty "list", .base (.str _), kit_ty (by decide +kernel), _, rfl, ifF rfl ?_⟩⟩
        exact ⟨_, rfl, rfl, _, rfl, ifF rfl ⟨_, rfl, _, _, _, _, true, rfl, .ty "str", .base (.str _), kit_ty (by decide +kernel), _, rfl, ifT rfl (q _ g0)⟩⟩
      · rcases ha with ha | ha
        · refine ⟨_, rfl, _, _, _, _, false, rfl, .ty "tuple", .base (.lst (sF _ _ ha)), kit_ty (by decide +kernel), _, rfl, ifF rfl ⟨_, rfl, _, _, _, _, true, rfl, .ty "list", .base (.lst (sF _ _ ha)), kt_list, _, rfl, ifT rfl ?_⟩⟩
          refine .inl ⟨_, rfl, a, rfl, ⟨_, SqL.of (sF _ _ ha)⟩, fun D nD => lc_list (K := K) (a := a) (xs := xs) (fun i G => Gr mu0 F H F G ∧ G D = some (.lst [])) ⟨g0.own nD, upd_same⟩ (fun i G _ p => SqL.of (p.1.fh _ _ ha)) ?_ ?_⟩
          · rintro i x G hi ⟨g, hD⟩
            exact ⟨rfl, _, rfl, F, x, rfl, g.fh, hx x (List.mem_of_getElem? hi), fun G' g' => ⟨_, rfl, ifF rfl ⟨g.trans g', g'.fr _ _ hD (fun z => z)⟩⟩⟩
          · rintro G ⟨g, hD⟩
            exact ⟨D, _, rfl, .inl (SqL.of hD), rfl, q _ g⟩
        · refine ⟨_, rfl, _, _, _, _, true, rfl, .ty "tuple", .base (.tup (sF _ _ ha)), kt_tup, _, rfl, ifT rfl ?_⟩
          refine .inr ⟨_, rfl, a, rfl, ⟨_, SqT.of (sF _ _ ha)⟩, fun D nD => lc_tup (K := K) (a := a) (xs := xs) (fun i G => Gr mu0 F H F G ∧ G D = some (.lst [])) ⟨g0.own nD, upd_same⟩ (fun i G _ p => SqT.of (p.1.fh _ _ ha)) ?_ ?_⟩
          · rintro i x G hi ⟨g, hD⟩
            exact ⟨rfl, _, rfl, F, x, rfl, g.fh, hx x (List.mem_of_getElem? hi), fun G' g' => ⟨_, rfl, ifF rfl ⟨g.trans g', g'.fr _ _ hD (fun z => z)⟩⟩⟩
          · rintro G ⟨g, hD⟩
            exact ⟨D, _, rfl, .inl (SqL.of hD), rfl, q _ g⟩
def sp_L_plainly : Sp := sp_plainly 5
theorem ok_L_plainly (t : Tx K mg) : FnOk P w K mg base CX0 6 t.a_L_plainly t.fd_L_plainly ["_law_found"] sp_L_plainly := okR_plainly t 5
theorem cut_take {xs : List V} {j : Nat} : cutV xs none (some (j : Int)) = xs.take j := by
  unfold cutV
  have e1 : HT.sIx xs.length 0 none = 0 := rfl
  have e2 : HT.sIx xs.length xs.length (some (j : Int)) = min j xs.length := by
    simp only [HT.sIx]
    rw [if_neg (by omega), Int.toNat_natCast]
  rw [e1, e2, List.drop_zero, Nat.sub_zero]
  rcases Nat.le_total j xs.length with h | h
  · rw [Nat.min_eq_left h]
  · rw [Nat.min_eq_right h, List.take_length, List.take_of_length_le h]
/-! ### orders -/
theorem intsV {F : Hp} {xs : List V} {l : List Int} (h : IsAll F xs l) : xs = l.map V.int := by
  refine List.ext_getElem? fun i => ?_
  rw [List.getElem?_map]
  cases e : xs[i]? with
  | none =>
    have := List.getElem?_eq_none_iff.mp e
    rw [List.getElem?_eq_none (by rw [← h.1]; exact this)]; rfl
  | some x =>
    obtain ⟨z, hz, ez⟩ := h.get' e
    rw [hz]
    show some x = some (V.int z)
    rw [show x = V.int z from ez]
theorem intsA {F : Hp} (l : List Int) : IsAll F (l.map V.int) l := ⟨by rw [List.length_map], fun i x y h1 h2 => by
  rw [List.getElem?_map, h2] at h1
  exact (Option.some.inj h1).symm⟩
theorem cut_drop {xs : List V} {j : Nat} : cutV xs (some (j : Int)) none = xs.drop j := by
  unfold cutV
  have e1 : HT.sIx xs.length 0 (some (j : Int)) = min j xs.length := by
    simp only [HT.sIx]
    rw [if_neg (by omega), Int.toNat_natCast]
  have e2 : HT.sIx xs.length xs.length none = xs.length := rfl
  rw [e1, e2]
  rcases Nat.le_total j xs.length with h | h
  · rw [Nat.min_eq_left h, ← List.length_drop, List.take_length]
  · rw [Nat.min_eq_right h, Nat.sub_self, List.take_zero, List.drop_eq_nil_of_le h]
def insK (num : Int) (o : List Int) (k : Nat) : List (List Int) := (List.range k).map fun k => o.take (k + 1) ++ [num] ++ o.drop (k + 1)
def insA (num : Int) (o : List Int) : List (List Int) := insK num o o.length
theorem insK_succ (num : Int) (o : List Int) (k : Nat) : insK num o (k + 1) = insK num o k ++ [o.take (k + 1) ++ [num] ++ o.drop (k + 1)] := by
  unfold insK
  rw [List.range_succ, List.map_append]; rfl
def ordsN : Nat → List (List Int)
  | 0 => [[0]]
  | n + 1 => (ordsN n).flatMap (insA ((n : Int) + 1))
theorem ords_all : ∀ n, n ≤ 3 → (ordsN n).length ≤ 6 ∧ 0 < (ordsN n).length ∧ ∀ o ∈ ordsN n, o.length = n + 1 ∧ (∀ x ∈ o, 0 ≤ x ∧ x < (n : Int) + 1) ∧ ∀ k ∈ List.range (n + 1), (k : Int) ∈ o := by decide
theorem ords_id : ∀ n, n ≤ 3 → (List.range (n + 1)).map (fun k : Nat => (k : Int)) ∈ ordsN n := by decide
theorem fm_take {α β : Type} (f : α → List β) {l : List α} {i : Nat} {x : α} (h : l[i]? = some x) : (l.take (i + 1)).flatMap f = (l.take i).flatMap f ++ f x := by
  rw [List.take_add_one, h, List.flatMap_append]
  show _ ++ (f x ++ []) = _
  rw [List.append_nil]
def sp_orders : Sp := fun vs H Q _ => ∃ (F : Hp) (m : Nat), vs = [.int m] ∧ Same F H ∧ 1 ≤ m ∧ m ≤ 4 ∧ ∀ (F' H' : Hp) (v : V), Gr mu0 F H F' H' → Is F' v (ordsN (m - 1)) → Q v H'
/-- one more order comes in -/
theorem ord_in {F H F1 G : Hp} {D oa : Addr} {os : List V} {o : List Int} {num : Int} {k : Nat} {xs : List V} {acc : List (List Int)} (g : Gr mu0 F H F1 G) (w : Ow H F1 G D (.lst xs)) (al : IsAll F1 xs acc) {p : Addr} {o' : List Int} (n : G p = none) (lx : xs.length < 500) :
    ∃ F2, Gr mu0 F H F2 (upd (upd G p (.lst (o'.map V.int))) D (.lst (xs ++ [.ref p]))) ∧ Ow H F2 (upd (upd G p (.lst (o'.map V.int))) D (.lst (xs ++ [.ref p]))) D (.lst (xs ++ [.ref p])) ∧ IsAll F2 (xs ++ [.ref p]) (acc ++ [o']) ∧ Same F1 F2 := by
  have g1 := g.new (o := .lst (o'.map V.int)) n
  have w1 := w.new (u := .lst (o'.map V.int)) n
  have s1 : Same F1 (upd F1 p (.lst (o'.map V.int))) := sm_new (Same.refl F1) (g.fh.free n)
  exact ⟨_, g1.set w1.f (.inl w1.n), w1.set, (IsAll.up al s1).app (All2.one ⟨p, _, rfl, upd_same, intsA o'⟩), s1⟩
theorem ok_orders (t : Tx K mg) : FnOk P w K mg base CX0 1 t.a_orders t.fd_orders ["many"] sp_orders := by
  refine t.F_orders.ok sc_orders (fun vs H Q E h => ?_) (fun cdv A outer s H vs Q E hr h => ?_)
  · obtain ⟨F, m, rfl, _⟩ := h
    rfl
  · obtain ⟨F, m, rfl, sF, m1, m4, q⟩ := h
    refine ⟨_, (pss_cons (ps_set (i := 1) sc_orders.nd rfl (by first | exact Or.inl rfl | exact Or.inr rfl) (pe_lst (pa_cons (pe_lst (pa_cons pe_int pa_nil)) pa_nil)))
      (pss_cons (ps_for PassesOwn.never rfl (pi_range2 (by rfl) t.n_range (pa_cons pe_int (pa_cons (pv 0) pa_nil))) (pg_name (i := 2) sc_orders.nd rfl (by first | exact Or.inl rfl | exact Or.inr rfl)) (pss_cons (ps_set (i := 3) sc_orders.nd rfl (by first | exact Or.inl rfl | exact Or.inr rfl) (pe_lst pa_nil))
      (pss_cons (ps_for PassesOwn.never rfl (pi_list (pv 1)) (pg_name (i := 4) sc_orders.nd rfl (by first | exact Or.inl rfl | exact Or.inr rfl)) (pss_one (ps_for PassesOwn.never rfl (pi_range2 (by rfl) t.n_range (pa_cons pe_int (pa_cons (pe_op op_add (pe_callB (id := "len") call_lenQ (by rfl) t.n_len (by decide +kernel) (pa_cons (pv 4) pa_nil)) pe_int) pa_nil))) (pg_name (i := 5) sc_orders.nd rfl (by first | exact Or.inl rfl | exact Or.inr rfl)) (pss_one (ps_expr (pe_bm PySem.F.plainAttrs_list PySem.F.slot_list_append PySem.F.type_list_append mt_append (pv 3) (pa_cons (pe_op op_cat (pe_op op_cat (pe_slice sl_list (pv 4) po_none (po_some (pv 5))) (pe_lst (pa_cons (pv 2) pa_nil))) (pe_slice sl_list (pv 4) (po_some (pv 5)) po_none)) pa_nil)))))))
      (pss_one (ps_set (i := 1) sc_orders.nd rfl (by first | exact Or.inl rfl | exact Or.inr rfl) (pv 3))))))
      (pss_one (ps_ret (pv 1))))), ?_⟩
    have g0 : Gr mu0 F H F H := Gr.refl sF
    refine ⟨one_le, fun l1 n1 => ⟨one_le, fun l2 n2 => ?_⟩⟩
    have g1 := g0.new (o := .lst [.int 0]) n1
    have g2 := g1.new (o := .lst [.ref l1]) n2
    have s2 := sm_new (o := .lst [.ref l1]) (Same.refl _) (g1.fh.free n2)
    have i2 : Is (upd (upd F l1 (.lst [.int 0])) l2 (.lst [.ref l1])) (.ref l2) (ordsN 0) := ⟨l2, _, rfl, upd_same, All2.one ⟨l1, _, rfl, s2 _ _ upd_same, intsA [0]⟩⟩
    generalize upd (upd F l1 (.lst [.int 0])) l2 (.lst [.ref l1]) = F2 at g2 i2
    generalize upd (upd H l1 (.lst [.int 0])) l2 (.lst [.ref l1]) = H2 at g2 ⊢
    refine ⟨_, rfl, 1, _, rfl, ⟨by decide, by decide, by omega, by omega⟩, for_range (lo := 1) (n := ((m : Int) - 1).toNat) (fun i σ G => ∃ (F3 : Hp) (v : V) (v2 v3 v4 v5 : Option V), σ = [some (.int m), some v, v2, v3, v4, v5] ∧ Gr mu0 F H F3 G ∧ Is F3 v (ordsN i)) ⟨F2, _, none, none, none, none, rfl, g2, i2⟩ ?_ ?_⟩
    · rintro i σ G hi ⟨F3, v, v2, v3, v4, v5, rfl, g3, ⟨fd, xf, rfl, hfd, alf⟩⟩
      have hi' : i < 3 := by omega
      obtain ⟨ol, _, oo⟩ := ords_all i (by omega)
      refine ⟨nil_le, fun D nD => ?_⟩
      have g4 := g3.own (o := .lst []) nD
      refine ⟨_, rfl, fd, rfl, ⟨_, SqL.of (g4.fh _ _ hfd)⟩, for_list (K := K) (a := fd) (xs := xf) (fun j σ G => ∃ (F4 : Hp) (xs : List V) (v4 v5 : Option V), σ = [some (.int m), some (.ref fd), some (.int (1 + (i : Int))), some (.ref D), v4, v5] ∧ Gr mu0 F H F4 G ∧ Same F3 F4 ∧ Ow H F4 G D (.lst xs) ∧ IsAll F4 xs (((ordsN i).take j).flatMap (insA ((i : Int) + 1))) ∧ xs.length ≤ 4 * j) ⟨F3, [], _, _, rfl, g4, Same.refl F3, Ow.mk1 g3 nD, All2.nil, Nat.le_refl _⟩ (fun j σ G _ ⟨F4, _, _, _, _, g, s, _⟩ => SqL.of (g.fh _ _ (s _ _ hfd))) ?_ ?_⟩
      · rintro j y σ G hj ⟨F4, xs, v4, v5, rfl, g5, s5, w5, al5, lx⟩
        obtain ⟨o, hoj, oa, os, rfl, hoa, hos⟩ := alf.get' hj
        obtain rfl := intsV hos
        have jl : j < (ordsN i).length := (List.getElem?_eq_some_iff.mp hoj).1
        obtain ⟨lo, _, _⟩ := oo o (List.mem_of_getElem? hoj)
        refine ⟨_, rfl, oa, _, rfl, .inl (SqL.of (g5.fh _ _ (s5 _ _ hoa))), _, _, rfl, rfl, 1, _, rfl, ⟨by decide, by decide, by omega, by rw [List.length_map]; omega⟩, for_range (lo := 1) (n := (((o.map V.int).length : Int) + 1 - 1).toNat) (fun k σ G => ∃ (F5 : Hp) (xs : List V) (v5 : Option V), σ = [some (.int m), some (.ref fd), some (.int (1 + (i : Int))), some (.ref D), some (.ref oa), v5] ∧ Gr mu0 F H F5 G ∧ Same F3 F5 ∧ Ow H F5 G D (.lst xs) ∧ IsAll F5 xs (((ordsN i).take j).flatMap (insA ((i : Int) + 1)) ++ insK ((i : Int) + 1) o k) ∧ xs.length ≤ 4 * j + k) ⟨F4, xs, _, rfl, g5, s5, w5, by show IsAll F4 xs (_ ++ []); rw [List.append_nil]; exact al5, by omega⟩ ?_ ?_⟩
        · rintro k σ G hk ⟨F5, xs, v5, rfl, g6, s6, w6, al6, lx6⟩
          rw [List.length_map] at hk
          have ho6 := g6.fh _ _ (s6 _ _ hoa)
          refine ⟨_, rfl, .inl ⟨rfl, _, SqL.of w6.h⟩, _, rfl, _, rfl, _, rfl, oa, _, rfl, SqL.of ho6, fun p1 m1 => ?_⟩
          rw [show (1 + (k : Int)) = ((k + 1 : Nat) : Int) by omega, cut_take, ← List.map_take]
          have g7 := g6.own (o := .lst ((o.take (k + 1)).map V.int)) m1
          have w7 := w6.own (u := .lst ((o.take (k + 1)).map V.int)) m1
          refine ⟨_, rfl, one_le, fun p2 m2 => ?_⟩
          have g8 := g7.own (o := .lst [.int (1 + (i : Int))]) m2
          have w8 := w7.own (u := .lst [.int (1 + (i : Int))]) m2
          refine ⟨p1, p2, _, _, rfl, rfl, ln m2 upd_same, upd_same, le_size (by rw [List.length_map, List.length_take]; show min (k + 1) o.length + 1 ≤ 1000000; omega), fun p3 m3 => ?_⟩
          have g9 := g8.own (o := .lst ((o.take (k + 1)).map V.int ++ [.int (1 + (i : Int))])) m3
          have w9 := w8.own (u := .lst ((o.take (k + 1)).map V.int ++ [.int (1 + (i : Int))])) m3
          have h9 := (Ow.mk1 (o := .lst ((o.take (k + 1)).map V.int ++ [.int (1 + (i : Int))])) g8 m3).h
          refine ⟨_, rfl, _, rfl, _, rfl, oa, _, rfl, SqL.of (g9.fh _ _ (s6 _ _ hoa)), fun p4 m4 => ?_⟩
          rw [cut_drop, ← List.map_drop]
          have gA := g9.own (o := .lst ((o.drop (k + 1)).map V.int)) m4
          have wA := w9.own (u := .lst ((o.drop (k + 1)).map V.int)) m4
          have hA := ln (u := .lst ((o.drop (k + 1)).map V.int)) m4 h9
          refine ⟨p3, p4, _, _, rfl, rfl, hA, upd_same, le_size (by rw [List.length_append, List.length_map, List.length_map, List.length_take, List.length_drop]; show min (k + 1) o.length + 1 + _ ≤ 1000000; omega), fun p5 m5 => ?_⟩
          have e5 : (o.take (k + 1)).map V.int ++ [V.int (1 + (i : Int))] ++ (o.drop (k + 1)).map V.int = (o.take (k + 1) ++ [(i : Int) + 1] ++ o.drop (k + 1)).map V.int := by
            rw [List.map_append, List.map_append, Int.add_comm 1 (i : Int)]; rfl
          rw [e5]
          obtain ⟨FX, gX, wX, alX, sX⟩ := ord_in (oa := oa) (os := []) (o := o) (num := 0) (k := 0) gA wA al6 (o' := o.take (k + 1) ++ [(i : Int) + 1] ++ o.drop (k + 1)) m5 (by omega)
          refine ⟨D, _, _, rfl, rfl, (wA.own m5).h, lt_size (by omega), FX, _, _, rfl, gX, fun c u e => sX _ _ (s6 _ _ e), wX, ?_, by rw [List.length_append]; show xs.length + 1 ≤ _; omega⟩
          rw [insK_succ, ← List.append_assoc]
          exact alX
        · rintro σ G ⟨F5, xs, v5, rfl, g6, s6, w6, al6, lx6⟩
          have ek : (((o.map V.int).length : Int) + 1 - 1).toNat = o.length := by rw [List.length_map]; omega
          rw [ek] at al6 lx6
          refine ⟨F5, xs, _, _, rfl, g6, s6, w6, ?_, by omega⟩
          rw [fm_take _ hoj]
          exact al6
      · rintro σ G ⟨F4, xs, v4, v5, rfl, g5, s5, w5, al5, lx⟩
        rw [alf.1, List.take_length] at al5
        refine ⟨_, rfl, ?_⟩
        exact ⟨_, _, _, _, _, _, rfl, g5.frz w5.h w5.n w5.f, D, xs, rfl, upd_same, IsAll.up al5 (sm_new (Same.refl F4) w5.f)⟩
    · rintro σ G ⟨F3, v, v2, v3, v4, v5, rfl, g3, i3⟩
      rw [show ((m : Int) - 1).toNat = m - 1 by omega] at i3
      exact ⟨_, rfl, q F3 G v g3 i3⟩
/-! ### words -/
/-- a text that may stand in a datum -/
structure TStr where
  x : Str
  ok : PyData.strOk x = true
  deriving DecidableEq
instance : Dat TStr where
  rep := fun _ v d => v = .str d.x
  mono := fun _ h => h
  py := fun d => .str d.x
  dp := fun h => h ▸ .str _
  can := fun d => d.ok
  dep := 0
  depth := fun _ => Nat.le_refl _
  eqv := fun a b => by
    obtain ⟨a, _⟩ := a; obtain ⟨b, _⟩ := b
    simp [PyData.eqv]
/-! ### an entry -/
def entAt (M : Mach) (r s : Int) : Ent := (((M[r.toNat]?).getD [])[s.toNat]?).getD .emp
theorem ent_of {M : Mach} {R S : Nat} (h : MOk M R S) {r s : Int} (r0 : 0 ≤ r) (r1 : r < R) (s0 : 0 ≤ s) (s1 : s < S) : ∃ row, M[r.toNat]? = some row ∧ row[s.toNat]? = some (entAt M r s) ∧ EOk R S (entAt M r s) := by
  have hr : r.toNat < M.length := by rw [h.len]; omega
  have e1 : M[r.toNat]? = some M[r.toNat] := List.getElem?_eq_getElem hr
  have hs : s.toNat < (M[r.toNat]).length := by rw [h.row _ (List.getElem_mem hr)]; omega
  have e2 : (M[r.toNat])[s.toNat]? = some (M[r.toNat])[s.toNat] := List.getElem?_eq_getElem hs
  have e3 : entAt M r s = (M[r.toNat])[s.toNat] := by
    unfold entAt
    rw [e1]
    show ((M[r.toNat])[s.toNat]?).getD Ent.emp = _
    rw [e2]; rfl
  exact ⟨_, e1, by rw [e3]; exact e2, by rw [e3]; exact h.ent _ (List.getElem_mem hr) _ (List.getElem_mem hs)⟩
def tEnd : TStr := ⟨"end", by decide +kernel⟩
/-! ### machines named otherwise -/
def OrdOk (R : Nat) (o : List Int) : Prop := o.length = R ∧ (∀ x ∈ o, 0 ≤ x ∧ x < (R : Int)) ∧ ∀ k ∈ List.range R, (k : Int) ∈ o
theorem ords_ok {n : Nat} (hn : n ≤ 3) {o : List Int} (h : o ∈ ordsN n) : OrdOk (n + 1) o := by
  obtain ⟨_, _, oo⟩ := ords_all n hn
  obtain ⟨h1, h2, h3⟩ := oo o h
  exact ⟨h1, fun x m => by have := h2 x m; omega, h3⟩
theorem OrdOk.mem {R : Nat} {o : List Int} (h : OrdOk R o) {x : Int} (x0 : 0 ≤ x) (x1 : x < R) : x ∈ o := by
  have := h.2.2 x.toNat (List.mem_range.mpr (by omega))
  rwa [Int.toNat_of_nonneg x0] at this
def idx (l : List Int) (x : Int) : Int := ((l.idxOf x : Nat) : Int)
theorem idx_lt {R : Nat} {o : List Int} (h : OrdOk R o) {x : Int} (x0 : 0 ≤ x) (x1 : x < R) : 0 ≤ idx o x ∧ idx o x < R := by
  have := List.idxOf_lt_length_of_mem (h.mem x0 x1)
  rw [h.1] at this
  unfold idx
  omega
theorem idx_facts {l : List Int} {x : Int} (m : x ∈ l) : (l.map V.int).all flatV = true ∧ (l.map V.int)[l.idxOf x]? = some (.int x) ∧ eqV (.int x) (.int x) = true ∧ ∀ (j : Nat) (z : V), j < l.idxOf x → (l.map V.int)[j]? = some z → eqV z (.int x) = false := by
  have hl := List.idxOf_lt_length_of_mem m
  refine ⟨List.all_eq_true.mpr fun v hv => ?_, ?_, ?_, fun j z hj hz => ?_⟩
  · obtain ⟨i, _, rfl⟩ := List.mem_map.mp hv
    rfl
  · rw [List.getElem?_map, List.getElem?_eq_getElem hl, List.getElem_idxOf]; rfl
  · show (x == x) = true
    exact beq_self_eq_true x
  · rw [List.getElem?_map] at hz
    obtain ⟨y, hy, rfl⟩ := Option.map_eq_some_iff.mp hz
    obtain ⟨hj', rfl⟩ := List.getElem?_eq_some_iff.mp hy
    show (l[j] == x) = false
    exact List.not_of_lt_findIdx hj
def nmE (rs ss : List Int) (t : Bool) : Ent → Ent
  | .emp => .emp
  | .go p w r => .go (idx ss p) (if t = true then -w else w) (idx rs r)
def nmR (M : Mach) (rs ss : List Int) (t : Bool) (r : Int) : List Ent := ss.map fun s => nmE rs ss t (entAt M r s)
def nmM (M : Mach) (rs ss : List Int) (t : Bool) : Mach := rs.map (nmR M rs ss t)
theorem nm_ok {M : Mach} {R S : Nat} (hM : MOk M R S) {rs ss : List Int} (hr : OrdOk R rs) (hs : OrdOk S ss) (t : Bool) : MOk (nmM M rs ss t) R S := by
  refine ⟨hM.r1, hM.r4, hM.s2, hM.s4, ?_, fun r m => ?_, fun r m e k => ⟨fun p w r' z => ?_⟩⟩
  · unfold nmM; rw [List.length_map, hr.1]
  · obtain ⟨i, _, rfl⟩ := List.mem_map.mp m
    unfold nmR; rw [List.length_map, hs.1]
  · obtain ⟨i, hi, rfl⟩ := List.mem_map.mp m
    obtain ⟨j, hj, rfl⟩ := List.mem_map.mp k
    obtain ⟨_, _, _, eo⟩ := ent_of hM (hr.2.1 i hi).1 (hr.2.1 i hi).2 (hs.2.1 j hj).1 (hs.2.1 j hj).2
    cases he : entAt M i j with
    | emp => rw [he] at z; cases z
    | go p0 w0 r0 =>
      rw [he] at z
      cases z
      obtain ⟨⟨o1, o2⟩, o3, o4, o5⟩ := eo.ok _ _ _ he
      refine ⟨idx_lt hs o1 o2, ?_, idx_lt hr o4 o5⟩
      cases t with
      | true => show -w0 = -1 ∨ -w0 = 1; omega
      | false => exact o3
theorem map_tk {α β : Type} {f : α → β} {l : List α} {i : Nat} {x : α} (h : l[i]? = some x) : (l.take (i + 1)).map f = (l.take i).map f ++ [f x] := by
  rw [List.take_add_one, h, List.map_append]; rfl
def sp_named : Sp := fun vs H Q _ => ∃ (F : Hp) (m : V) (ra sa : Addr) (M : Mach) (R S : Nat) (rs ss : List Int) (tb : Bool), vs = [m, .ref ra, .ref sa, .bl tb] ∧ Same F H ∧ Is F m M ∧ MOk M R S ∧ Is F (.ref ra) rs ∧ Is F (.ref sa) ss ∧ OrdOk R rs ∧ OrdOk S ss ∧
  ∀ (F' H' : Hp) (v : V), Gr mu0 F H F' H' → Is F' v (nmM M rs ss tb) → Q v H'
theorem ok_named (t : Tx K mg) : FnOk P w K mg base CX0 1 t.a_named t.fd_named ["machine", "rows", "signs", "turned"] sp_named := by
  refine t.F_named.ok sc_named (fun vs H Q E h => ?_) (fun cdv A outer s H vs Q E hr h => ?_)
  · obtain ⟨F, m, ra, sa, M, R, S, rs, ss, tb, rfl, _⟩ := h
    rfl
  · obtain ⟨F, m, ra, sa, M, R, S, rs, ss, tb, rfl, sF, hm, hM, hra, hsa, hr', hs', q⟩ := h
    refine ⟨_, (pss_cons (ps_set (i := 4) sc_named.nd rfl (by first | exact Or.inl rfl | exact Or.inr rfl) (pe_lst pa_nil))
      (pss_cons (ps_for PassesOwn.never rfl (pi_list (pv 1)) (pg_name (i := 5) sc_named.nd rfl (by first | exact Or.inl rfl | exact Or.inr rfl)) (pss_cons (ps_set (i := 6) sc_named.nd rfl (by first | exact Or.inl rfl | exact Or.inr rfl) (pe_lst pa_nil))
      (pss_cons (ps_for PassesOwn.never rfl (pi_list (pv 2)) (pg_name (i := 7) sc_named.nd rfl (by first | exact Or.inl rfl | exact Or.inr rfl)) (pss_cons (ps_set (i := 8) sc_named.nd rfl (by first | exact Or.inl rfl | exact Or.inr rfl) (pe_ix ix_list (pe_ix ix_list (pv 0) (pv 5) (fun _ _ => rfl)) (pv 7) (fun _ _ => rfl)))
      (pss_cons (ps_if (pt_cmpR (op_neD hr.units) (pv 8) (pe_tup pa_nil) (nomark _)) (pss_cons (ps_asg (pv 8) (pg_tup rfl (pgs_cons (pg_name (i := 9) sc_named.nd rfl (by first | exact Or.inl rfl | exact Or.inr rfl)) (pgs_cons (pg_name (i := 10) sc_named.nd rfl (by first | exact Or.inl rfl | exact Or.inr rfl)) (pgs_cons (pg_name (i := 11) sc_named.nd rfl (by first | exact Or.inl rfl | exact Or.inr rfl)) pgs_nil)))))
      (pss_cons (ps_if (pt_val (pv 3)) (pss_one (ps_set (i := 10) sc_named.nd rfl (by first | exact Or.inl rfl | exact Or.inr rfl) (pe_un un_neg (pv 10)))) pss_nil)
      (pss_one (ps_set (i := 8) sc_named.nd rfl (by first | exact Or.inl rfl | exact Or.inr rfl) (pe_tup (pa_cons (pe_bm PySem.F.plainAttrs_list PySem.F.slot_list_index PySem.F.type_list_index mt_index (pv 2) (pa_cons (pv 9) pa_nil)) (pa_cons (pv 10) (pa_cons (pe_bm PySem.F.plainAttrs_list PySem.F.slot_list_index PySem.F.type_list_index mt_index (pv 1) (pa_cons (pv 11) pa_nil)) pa_nil)))))))) pss_nil)
      (pss_one (ps_expr (pe_bm PySem.F.plainAttrs_list PySem.F.slot_list_append PySem.F.type_list_append mt_append (pv 6) (pa_cons (pv 8) pa_nil)))))))
      (pss_one (ps_expr (pe_bm PySem.F.plainAttrs_list PySem.F.slot_list_append PySem.F.type_list_append mt_append (pv 4) (pa_cons (pv 6) pa_nil)))))))
      (pss_one (ps_ret (pv 4))))), ?_⟩
    have g0 : Gr mu0 F H F H := Gr.refl sF
    obtain ⟨am, rv, rfl, ham, hrv⟩ := id hm
    obtain ⟨_, xr, er, hra, axr⟩ := hra
    cases er
    obtain rfl := intsV axr
    obtain ⟨_, xs0, es0, hsa, axs⟩ := hsa
    cases es0
    obtain rfl := intsV axs
    have lr := hr'.1
    have ls := hs'.1
    have r4 := hM.r4
    have s4 := hM.s4
    refine ⟨nil_le, fun D nD => ?_⟩
    have g1 := g0.own (o := .lst []) nD
    refine ⟨_, rfl, ra, rfl, ⟨_, SqL.of (g1.fh _ _ hra)⟩, for_list (K := K) (a := ra) (xs := rs.map V.int) (fun i σ G => ∃ (F1 : Hp) (xs : List V) (v5 v6 v7 v8 v9 v10 v11 : Option V), σ = [some (.ref am), some (.ref ra), some (.ref sa), some (.bl tb), some (.ref D), v5, v6, v7, v8, v9, v10, v11] ∧ Gr mu0 F H F1 G ∧ Ow H F1 G D (.lst xs) ∧ IsAll F1 xs ((rs.take i).map (nmR M rs ss tb)) ∧ xs.length ≤ i)
      ⟨F, [], none, none, none, none, none, none, none, rfl, g1, Ow.mk1 g0 nD, All2.nil, Nat.le_refl _⟩ (fun i σ G _ ⟨F1, _, _, _, _, _, _, _, _, _, g, _⟩ => SqL.of (g.fh _ _ (g.ff _ _ hra))) ?_ ?_⟩
    · rintro i y σ G hi ⟨F1, xs, v5, v6, v7, v8, v9, v10, v11, rfl, g, wD, al, lx⟩
      obtain ⟨r, rfl, hri⟩ := inr_int hi
      have mr := List.mem_of_getElem? hri
      obtain ⟨r0, r1⟩ := hr'.2.1 r mr
      have il : i < rs.length := (List.getElem?_eq_some_iff.mp hri).1
      refine ⟨nil_le, fun E nE => ?_⟩
      have g2 := g.own (o := .lst []) nE
      have wD2 := wD.own (u := .lst []) nE
      have dE : D ≠ E := wD.ne nE
      refine ⟨_, rfl, sa, rfl, ⟨_, SqL.of (g2.fh _ _ (g2.ff _ _ hsa))⟩, for_list (K := K) (a := sa) (xs := ss.map V.int) (fun j σ G => ∃ (F2 : Hp) (es : List V) (v7 v8 v9 v10 v11 : Option V), σ = [some (.ref am), some (.ref ra), some (.ref sa), some (.bl tb), some (.ref D), some (.int r), some (.ref E), v7, v8, v9, v10, v11] ∧ Gr mu0 F H F2 G ∧ Same F1 F2 ∧ Ow H F2 G D (.lst xs) ∧ Ow H F2 G E (.lst es) ∧ IsAll F2 es ((ss.take j).map fun s => nmE rs ss tb (entAt M r s)) ∧ es.length ≤ j)
        ⟨F1, [], v7, v8, v9, v10, v11, rfl, g2, Same.refl F1, wD2, Ow.mk1 g nE, All2.nil, Nat.le_refl _⟩ (fun j σ G _ ⟨F2, _, _, _, _, _, _, _, g, _⟩ => SqL.of (g.fh _ _ (g.ff _ _ hsa))) ?_ ?_⟩
      · rintro j y σ G hj ⟨F2, es, v7, v8, v9, v10, v11, rfl, g3, s3, wD3, wE3, al3, le3⟩
        obtain ⟨sg, rfl, hsj⟩ := inr_int hj
        have ms := List.mem_of_getElem? hsj
        obtain ⟨s0, s1⟩ := hs'.2.1 sg ms
        have jl : j < ss.length := (List.getElem?_eq_some_iff.mp hsj).1
        obtain ⟨row, hrow, he, eo⟩ := ent_of hM r0 r1 s0 s1
        obtain ⟨_, hy, bm, es', rfl, hb, hes⟩ := hrv.get hrow
        obtain ⟨z, hz, hze⟩ := hes.get he
        have ham3 := g3.fh _ _ (g3.ff _ _ ham)
        have hb3 := g3.fh _ _ (g3.ff _ _ hb)
        refine ⟨_, rfl, _, rfl, am, rv, _, _, rfl, rfl, SqL.of ham3, at_of (Int.toNat_of_nonneg r0).symm hy, _, rfl, bm, es', _, _, rfl, rfl, SqL.of hb3, at_of (Int.toNat_of_nonneg s0).symm hz, ?_⟩
        have hze3 := hze.up g3.ff
        -- what is the same in both ways
        have fin : ∀ (F5 G5 : Hp) (q5 : V) (v9 v10 v11 : Option V), Gr mu0 F H F5 G5 → Same F1 F5 → Ow H F5 G5 D (.lst xs) → Ow H F5 G5 E (.lst es) → IsAll F5 es ((ss.take j).map fun s => nmE rs ss tb (entAt M r s)) → Is F5 q5 (nmE rs ss tb (entAt M r sg)) →
            ∃ (F2 : Hp) (es1 : List V) (w7 w8 w9 w10 w11 : Option V), [some (V.ref am), some (.ref ra), some (.ref sa), some (.bl tb), some (.ref D), some (.int r), some (.ref E), some (.int sg), some q5, v9, v10, v11] = [some (.ref am), some (.ref ra), some (.ref sa), some (.bl tb), some (.ref D), some (.int r), some (.ref E), w7, w8, w9, w10, w11] ∧ Gr mu0 F H F2 (upd G5 E (.lst (es ++ [q5]))) ∧ Same F1 F2 ∧ Ow H F2 (upd G5 E (.lst (es ++ [q5]))) D (.lst xs) ∧ Ow H F2 (upd G5 E (.lst (es ++ [q5]))) E (.lst es1) ∧ IsAll F2 es1 ((ss.take (j + 1)).map fun s => nmE rs ss tb (entAt M r s)) ∧ es1.length ≤ j + 1 := by
          intro F5 G5 q5 v9 v10 v11 g5 s5 wD5 wE5 al5 i5
          refine ⟨F5, es ++ [q5], _, _, _, _, _, rfl, g5.set wE5.f (.inl wE5.n), s5, wD5.other dE, wE5.set, ?_, by rw [List.length_append]; show es.length + 1 ≤ _; omega⟩
          rw [map_tk hsj]
          exact al5.app (All2.one i5)
        have ll : es.length < sizeLine := lt_size (by omega)
        refine ⟨_, rfl, nil_le, fun t1 n1 => ?_⟩
        have g4 := g3.own (o := .tup []) n1
        have wD4 := wD3.own (u := .tup []) n1
        have wE4 := wE3.own (u := .tup []) n1
        refine ne_dat (a := entAt M r sg) (b := Ent.emp) (hze3.up g4.fh) ⟨t1, rfl, upd_same⟩ ⟨_, rfl, ?_⟩
        generalize upd G t1 (.tup []) = G4 at g4 wD4 wE4 ⊢
        cases hen : entAt M r sg with
        | emp =>
          rw [hen] at hze3
          refine ifF (by rw [decide_eq_true rfl]; rfl) ?_
          refine ⟨_, rfl, .inl ⟨rfl, _, SqL.of wE4.h⟩, _, rfl, E, _, _, rfl, rfl, wE4.h, ll, ?_⟩
          exact fin F2 G4 z v9 v10 v11 g4 s3 wD4 wE4 al3 (by rw [hen]; exact hze3)
        | go pu wa to =>
          rw [hen] at hze3 eo
          obtain ⟨⟨o1, o2⟩, o3, o4, o5⟩ := eo.ok _ _ _ rfl
          refine ifT (by rw [decide_eq_false (fun z => by cases z)]; rfl) ?_
          obtain ⟨ta, rfl, hta⟩ := hze3
          have hsa4 := SqL.of (K := K) (g4.fh _ _ (g4.ff _ _ hsa))
          have hra4 := SqL.of (K := K) (g4.fh _ _ (g4.ff _ _ hra))
          refine ⟨_, rfl, ta, _, rfl, SqT.of (g4.fh _ _ hta), rfl, _, _, rfl, _, _, rfl, _, _, rfl, rfl, ?_⟩
          refine ⟨_, rfl, _, rfl, ?_⟩
          cases tb with
          | true =>
            refine ifT rfl ⟨_, rfl, _, rfl, ?_⟩
            refine ⟨_, rfl, .inl ⟨rfl, _, hsa4⟩, _, rfl, ?_⟩
            obtain ⟨f1, f2, f3, f4⟩ := idx_facts (hs'.mem o1 o2)
            refine ⟨sa, _, _, _, _, rfl, rfl, hsa4, rfl, f1, f2, f3, f4, ?_⟩
            refine ⟨_, rfl, _, rfl, .inl ⟨rfl, _, hra4⟩, _, rfl, ?_⟩
            obtain ⟨e1, e2, e3, e4⟩ := idx_facts (hr'.mem o4 o5)
            refine ⟨ra, _, _, _, _, rfl, rfl, hra4, rfl, e1, e2, e3, e4, three_le, fun q5 nq => ?_⟩
            have g5 := g4.new (o := .tup [.int (idx ss pu), .int (-wa), .int (idx rs to)]) nq
            have wD5 := wD4.new (u := .tup [.int (idx ss pu), .int (-wa), .int (idx rs to)]) nq
            have wE5 := wE4.new (u := .tup [.int (idx ss pu), .int (-wa), .int (idx rs to)]) nq
            have s5 := sm_new (o := .tup [.int (idx ss pu), .int (-wa), .int (idx rs to)]) (Same.refl F2) (g4.fh.free nq)
            refine ⟨_, rfl, .inl ⟨rfl, _, SqL.of wE5.h⟩, _, rfl, E, _, _, rfl, rfl, wE5.h, ll, ?_⟩
            exact fin _ _ (.ref q5) _ _ _ g5 (fun c o e => s5 _ _ (s3 _ _ e)) wD5 wE5 (al3.up s5) ⟨q5, rfl, by rw [hen]; exact upd_same⟩
          | false =>
            refine ifF rfl ?_
            refine ⟨_, rfl, .inl ⟨rfl, _, hsa4⟩, _, rfl, ?_⟩
            obtain ⟨f1, f2, f3, f4⟩ := idx_facts (hs'.mem o1 o2)
            refine ⟨sa, _, _, _, _, rfl, rfl, hsa4, rfl, f1, f2, f3, f4, ?_⟩
            refine ⟨_, rfl, _, rfl, .inl ⟨rfl, _, hra4⟩, _, rfl, ?_⟩
            obtain ⟨e1, e2, e3, e4⟩ := idx_facts (hr'.mem o4 o5)
            refine ⟨ra, _, _, _, _, rfl, rfl, hra4, rfl, e1, e2, e3, e4, three_le, fun q5 nq => ?_⟩
            have g5 := g4.new (o := .tup [.int (idx ss pu), .int wa, .int (idx rs to)]) nq
            have wD5 := wD4.new (u := .tup [.int (idx ss pu), .int wa, .int (idx rs to)]) nq
            have wE5 := wE4.new (u := .tup [.int (idx ss pu), .int wa, .int (idx rs to)]) nq
            have s5 := sm_new (o := .tup [.int (idx ss pu), .int wa, .int (idx rs to)]) (Same.refl F2) (g4.fh.free nq)
            refine ⟨_, rfl, .inl ⟨rfl, _, SqL.of wE5.h⟩, _, rfl, E, _, _, rfl, rfl, wE5.h, ll, ?_⟩
            exact fin _ _ (.ref q5) _ _ _ g5 (fun c o e => s5 _ _ (s3 _ _ e)) wD5 wE5 (al3.up s5) ⟨q5, rfl, by rw [hen]; exact upd_same⟩
      · rintro σ G ⟨F2, es, v7, v8, v9, v10, v11, rfl, g3, s3, wD3, wE3, al3, le3⟩
        rw [List.length_map, List.take_length] at al3
        have g4 := g3.frz wE3.h wE3.n wE3.f
        have wD4 : Ow H (upd F2 E (.lst es)) G D (.lst xs) := ⟨wD3.n, by rw [upd_ne dE]; exact wD3.f, wD3.h⟩
        have s4 := sm_new (o := .lst es) (Same.refl F2) wE3.f
        refine ⟨_, rfl, .inl ⟨rfl, _, SqL.of wD4.h⟩, _, rfl, D, _, _, rfl, rfl, wD4.h, lt_size (by omega), ?_⟩
        refine ⟨_, xs ++ [.ref E], _, _, _, _, _, _, _, rfl, g4.set wD4.f (.inl wD4.n), wD4.set, ?_, by rw [List.length_append]; show xs.length + 1 ≤ _; omega⟩
        rw [map_tk hri]
        exact ((al.up s3).up s4).app (All2.one ⟨E, es, rfl, upd_same, al3.up s4⟩)
    · rintro σ G ⟨F1, xs, v5, v6, v7, v8, v9, v10, v11, rfl, g, wD, al, lx⟩
      rw [List.length_map, List.take_length] at al
      exact ⟨_, rfl, q _ G (.ref D) (g.frz wD.h wD.n wD.f) ⟨D, xs, rfl, upd_same, IsAll.up al (sm_new (Same.refl F1) wD.f)⟩⟩
/-! ### the law's own naming (printed by gen53.py) -/
def sideI (t : Bool) : Int := if t = true then -1 else 1
def sp_L_named : Sp := fun vs H Q _ => ∃ (F : Hp) (m : V) (ra sa : Addr) (M : Mach) (R S : Nat) (rs ss : List Int) (tb : Bool), vs = [m, .ref ra, .ref sa, .int (sideI tb)] ∧ Same F H ∧ Is F m M ∧ MOk M R S ∧ Is F (.ref ra) rs ∧ Is F (.ref sa) ss ∧ OrdOk R rs ∧ OrdOk S ss ∧
  ∀ (F' H' : Hp) (v : V), Gr mu0 F H F' H' → Is F' v (nmM M rs ss tb) → Q v H'
theorem ok_L_named (t : Tx K mg) : FnOk P w K mg base CX0 1 t.a_L_named t.fd_L_named ["_law_machine_here", "_law_rows", "_law_signs", "_law_side"] sp_L_named := by
  refine t.F_L_named.ok sc_L_named (fun vs H Q E h => ?_) (fun cdv A outer s H vs Q E hr h => ?_)
  · obtain ⟨F, m, ra, sa, M, R, S, rs, ss, tb, rfl, _⟩ := h
    rfl
  · obtain ⟨F, m, ra, sa, M, R, S, rs, ss, tb, rfl, sF, hm, hM, hra, hsa, hr', hs', q⟩ := h
    refine ⟨_, (pss_cons (ps_set (i := 4) sc_L_named.nd rfl (by first | exact Or.inl rfl | exact Or.inr rfl) (pe_lst pa_nil))
      (pss_cons (ps_for PassesOwn.never rfl (pi_list (pv 1)) (pg_name (i := 5) sc_L_named.nd rfl (by first | exact Or.inl rfl | exact Or.inr rfl)) (pss_cons (ps_set (i := 6) sc_L_named.nd rfl (by first | exact Or.inl rfl | exact Or.inr rfl) (pe_lst pa_nil))
      (pss_cons (ps_for PassesOwn.never rfl (pi_list (pv 2)) (pg_name (i := 7) sc_L_named.nd rfl (by first | exact Or.inl rfl | exact Or.inr rfl)) (pss_cons (ps_set (i := 8) sc_L_named.nd rfl (by first | exact Or.inl rfl | exact Or.inr rfl) (pe_ix ix_list (pe_ix ix_list (pv 0) (pv 5) (fun _ _ => rfl)) (pv 7) (fun _ _ => rfl)))
      (pss_cons (ps_if (pt_cmpR (op_neD hr.units) (pv 8) (pe_tup pa_nil) (nomark _)) (pss_one (ps_set (i := 8) sc_L_named.nd rfl (by first | exact Or.inl rfl | exact Or.inr rfl) (pe_tup (pa_cons (pe_bm PySem.F.plainAttrs_list PySem.F.slot_list_index PySem.F.type_list_index mt_index (pv 2) (pa_cons (pe_ix ix_tup (pv 8) pe_int (fun _ _ => rfl)) pa_nil)) (pa_cons (pe_op op_mul (pv 3) (pe_ix ix_tup (pv 8) pe_int (fun _ _ => rfl))) (pa_cons (pe_bm PySem.F.plainAttrs_list PySem.F.slot_list_index PySem.F.type_list_index mt_index (pv 1) (pa_cons (pe_ix ix_tup (pv 8) pe_int (fun _ _ => rfl)) pa_nil)) pa_nil)))))) pss_nil)
      (pss_one (ps_expr (pe_bm PySem.F.plainAttrs_list PySem.F.slot_list_append PySem.F.type_list_append mt_append (pv 6) (pa_cons (pv 8) pa_nil)))))))
      (pss_one (ps_expr (pe_bm PySem.F.plainAttrs_list PySem.F.slot_list_append PySem.F.type_list_append mt_append (pv 4) (pa_cons (pv 6) pa_nil)))))))
      (pss_one (ps_ret (pv 4))))), ?_⟩
    have g0 : Gr mu0 F H F H := Gr.refl sF
    obtain ⟨am, rv, rfl, ham, hrv⟩ := id hm
    obtain ⟨_, xr, er, hra, axr⟩ := hra
    cases er
    obtain rfl := intsV axr
    obtain ⟨_, xs0, es0, hsa, axs⟩ := hsa
    cases es0
    obtain rfl := intsV axs
    have lr := hr'.1
    have ls := hs'.1
    have r4 := hM.r4
    have s4 := hM.s4
    refine ⟨nil_le, fun D nD => ?_⟩
    have g1 := g0.own (o := .lst []) nD
    refine ⟨_, rfl, ra, rfl, ⟨_, SqL.of (g1.fh _ _ hra)⟩, for_list (K := K) (a := ra) (xs := rs.map V.int) (fun i σ G => ∃ (F1 : Hp) (xs : List V) (v5 v6 v7 v8 : Option V), σ = [some (.ref am), some (.ref ra), some (.ref sa), some (.int (sideI tb)), some (.ref D), v5, v6, v7, v8] ∧ Gr mu0 F H F1 G ∧ Ow H F1 G D (.lst xs) ∧ IsAll F1 xs ((rs.take i).map (nmR M rs ss tb)) ∧ xs.length ≤ i)
      ⟨F, [], none, none, none, none, rfl, g1, Ow.mk1 g0 nD, All2.nil, Nat.le_refl _⟩ (fun i σ G _ ⟨F1, _, _, _, _, _, _, g, _⟩ => SqL.of (g.fh _ _ (g.ff _ _ hra))) ?_ ?_⟩
    · rintro i y σ G hi ⟨F1, xs, v5, v6, v7, v8, rfl, g, wD, al, lx⟩
      obtain ⟨r, rfl, hri⟩ := inr_int hi
      have mr := List.mem_of_getElem? hri
      obtain ⟨r0, r1⟩ := hr'.2.1 r mr
      have il : i < rs.length := (List.getElem?_eq_some_iff.mp hri).1
      refine ⟨nil_le, fun E nE => ?_⟩
      have g2 := g.own (o := .lst []) nE
      have wD2 := wD.own (u := .lst []) nE
      have dE : D ≠ E := wD.ne nE
      refine ⟨_, rfl, sa, rfl, ⟨_, SqL.of (g2.fh _ _ (g2.ff _ _ hsa))⟩, for_list (K := K) (a := sa) (xs := ss.map V.int) (fun j σ G => ∃ (F2 : Hp) (es : List V) (v7 v8 : Option V), σ = [some (.ref am), some (.ref ra), some (.ref sa), some (.int (sideI tb)), some (.ref D), some (.int r), some (.ref E), v7, v8] ∧ Gr mu0 F H F2 G ∧ Same F1 F2 ∧ Ow H F2 G D (.lst xs) ∧ Ow H F2 G E (.lst es) ∧ IsAll F2 es ((ss.take j).map fun s => nmE rs ss tb (entAt M r s)) ∧ es.length ≤ j)
        ⟨F1, [], v7, v8, rfl, g2, Same.refl F1, wD2, Ow.mk1 g nE, All2.nil, Nat.le_refl _⟩ (fun j σ G _ ⟨F2, _, _, _, _, g, _⟩ => SqL.of (g.fh _ _ (g.ff _ _ hsa))) ?_ ?_⟩
      · rintro j y σ G hj ⟨F2, es, v7, v8, rfl, g3, s3, wD3, wE3, al3, le3⟩
        obtain ⟨sg, rfl, hsj⟩ := inr_int hj
        have ms := List.mem_of_getElem? hsj
        obtain ⟨s0, s1⟩ := hs'.2.1 sg ms
        have jl : j < ss.length := (List.getElem?_eq_some_iff.mp hsj).1
        obtain ⟨row, hrow, he, eo⟩ := ent_of hM r0 r1 s0 s1
        obtain ⟨_, hy, bm, es', rfl, hb, hes⟩ := hrv.get hrow
        obtain ⟨z, hz, hze⟩ := hes.get he
        have ham3 := g3.fh _ _ (g3.ff _ _ ham)
        have hb3 := g3.fh _ _ (g3.ff _ _ hb)
        refine ⟨_, rfl, _, rfl, am, rv, _, _, rfl, rfl, SqL.of ham3, at_of (Int.toNat_of_nonneg r0).symm hy, _, rfl, bm, es', _, _, rfl, rfl, SqL.of hb3, at_of (Int.toNat_of_nonneg s0).symm hz, ?_⟩
        have hze3 := hze.up g3.ff
        -- what is the same in both ways
        have fin : ∀ (F5 G5 : Hp) (q5 : V), Gr mu0 F H F5 G5 → Same F1 F5 → Ow H F5 G5 D (.lst xs) → Ow H F5 G5 E (.lst es) → IsAll F5 es ((ss.take j).map fun s => nmE rs ss tb (entAt M r s)) → Is F5 q5 (nmE rs ss tb (entAt M r sg)) →
            ∃ (F2 : Hp) (es1 : List V) (w7 w8 : Option V), [some (V.ref am), some (.ref ra), some (.ref sa), some (.int (sideI tb)), some (.ref D), some (.int r), some (.ref E), some (.int sg), some q5] = [some (.ref am), some (.ref ra), some (.ref sa), some (.int (sideI tb)), some (.ref D), some (.int r), some (.ref E), w7, w8] ∧ Gr mu0 F H F2 (upd G5 E (.lst (es ++ [q5]))) ∧ Same F1 F2 ∧ Ow H F2 (upd G5 E (.lst (es ++ [q5]))) D (.lst xs) ∧ Ow H F2 (upd G5 E (.lst (es ++ [q5]))) E (.lst es1) ∧ IsAll F2 es1 ((ss.take (j + 1)).map fun s => nmE rs ss tb (entAt M r s)) ∧ es1.length ≤ j + 1 := by
          intro F5 G5 q5 g5 s5 wD5 wE5 al5 i5
          refine ⟨F5, es ++ [q5], _, _, rfl, g5.set wE5.f (.inl wE5.n), s5, wD5.other dE, wE5.set, ?_, by rw [List.length_append]; show es.length + 1 ≤ _; omega⟩
          rw [map_tk hsj]
          exact al5.app (All2.one i5)
        have ll : es.length < sizeLine := lt_size (by omega)
        refine ⟨_, rfl, nil_le, fun t1 n1 => ?_⟩
        have g4 := g3.own (o := .tup []) n1
        have wD4 := wD3.own (u := .tup []) n1
        have wE4 := wE3.own (u := .tup []) n1
        refine ne_dat (a := entAt M r sg) (b := Ent.emp) (hze3.up g4.fh) ⟨t1, rfl, upd_same⟩ ⟨_, rfl, ?_⟩
        generalize upd G t1 (.tup []) = G4 at g4 wD4 wE4 ⊢
        cases hen : entAt M r sg with
        | emp =>
          rw [hen] at hze3
          refine ifF (by rw [decide_eq_true rfl]; rfl) ?_
          refine ⟨_, rfl, .inl ⟨rfl, _, SqL.of wE4.h⟩, _, rfl, E, _, _, rfl, rfl, wE4.h, ll, ?_⟩
          exact fin F2 G4 z g4 s3 wD4 wE4 al3 (by rw [hen]; exact hze3)
        | go pu wa to =>
          rw [hen] at hze3 eo
          obtain ⟨⟨o1, o2⟩, o3, o4, o5⟩ := eo.ok _ _ _ rfl
          refine ifT (by rw [decide_eq_false (fun z => by cases z)]; rfl) ?_
          obtain ⟨ta, rfl, hta⟩ := hze3
          have hsa4 := SqL.of (K := K) (g4.fh _ _ (g4.ff _ _ hsa))
          have hra4 := SqL.of (K := K) (g4.fh _ _ (g4.ff _ _ hra))
          have hT := SqT.of (K := K) (g4.fh _ _ hta)
          cases tb with
          | true =>
            refine ⟨_, rfl, .inl ⟨rfl, _, hsa4⟩, _, rfl, ta, _, _, _, rfl, rfl, hT, atI_nat (j := 0) rfl, ?_⟩
            obtain ⟨f1, f2, f3, f4⟩ := idx_facts (hs'.mem o1 o2)
            refine ⟨sa, _, _, _, _, rfl, rfl, hsa4, rfl, f1, f2, f3, f4, ?_⟩
            refine ⟨_, rfl, _, rfl, ta, _, _, _, rfl, rfl, hT, atI_nat (j := 1) rfl, _, _, rfl, rfl, .inl ⟨by decide, by decide⟩, ?_⟩
            refine ⟨_, rfl, .inl ⟨rfl, _, hra4⟩, _, rfl, ta, _, _, _, rfl, rfl, hT, atI_nat (j := 2) rfl, ?_⟩
            obtain ⟨e1, e2, e3, e4⟩ := idx_facts (hr'.mem o4 o5)
            refine ⟨ra, _, _, _, _, rfl, rfl, hra4, rfl, e1, e2, e3, e4, three_le, fun q5 nq => ?_⟩
            have g5 := g4.new (o := .tup [.int (idx ss pu), .int (-1 * wa), .int (idx rs to)]) nq
            have wD5 := wD4.new (u := .tup [.int (idx ss pu), .int (-1 * wa), .int (idx rs to)]) nq
            have wE5 := wE4.new (u := .tup [.int (idx ss pu), .int (-1 * wa), .int (idx rs to)]) nq
            have s5 := sm_new (o := .tup [.int (idx ss pu), .int (-1 * wa), .int (idx rs to)]) (Same.refl F2) (g4.fh.free nq)
            refine ⟨_, rfl, .inl ⟨rfl, _, SqL.of wE5.h⟩, _, rfl, E, _, _, rfl, rfl, wE5.h, ll, ?_⟩
            exact fin _ _ (.ref q5) g5 (fun c o e => s5 _ _ (s3 _ _ e)) wD5 wE5 (al3.up s5) ⟨q5, rfl, by rw [hen]; exact upd_same.trans (by rw [show ((-1 * wa) : Int) = -wa by omega]; rfl)⟩
          | false =>
            refine ⟨_, rfl, .inl ⟨rfl, _, hsa4⟩, _, rfl, ta, _, _, _, rfl, rfl, hT, atI_nat (j := 0) rfl, ?_⟩
            obtain ⟨f1, f2, f3, f4⟩ := idx_facts (hs'.mem o1 o2)
            refine ⟨sa, _, _, _, _, rfl, rfl, hsa4, rfl, f1, f2, f3, f4, ?_⟩
            refine ⟨_, rfl, _, rfl, ta, _, _, _, rfl, rfl, hT, atI_nat (j := 1) rfl, _, _, rfl, rfl, .inl ⟨by decide, by decide⟩, ?_⟩
            refine ⟨_, rfl, .inl ⟨rfl, _, hra4⟩, _, rfl, ta, _, _, _, rfl, rfl, hT, atI_nat (j := 2) rfl, ?_⟩
            obtain ⟨e1, e2, e3, e4⟩ := idx_facts (hr'.mem o4 o5)
            refine ⟨ra, _, _, _, _, rfl, rfl, hra4, rfl, e1, e2, e3, e4, three_le, fun q5 nq => ?_⟩
            have g5 := g4.new (o := .tup [.int (idx ss pu), .int (1 * wa), .int (idx rs to)]) nq
            have wD5 := wD4.new (u := .tup [.int (idx ss pu), .int (1 * wa), .int (idx rs to)]) nq
            have wE5 := wE4.new (u := .tup [.int (idx ss pu), .int (1 * wa), .int (idx rs to)]) nq
            have s5 := sm_new (o := .tup [.int (idx ss pu), .int (1 * wa), .int (idx rs to)]) (Same.refl F2) (g4.fh.free nq)
            refine ⟨_, rfl, .inl ⟨rfl, _, SqL.of wE5.h⟩, _, rfl, E, _, _, rfl, rfl, wE5.h, ll, ?_⟩
            exact fin _ _ (.ref q5) g5 (fun c o e => s5 _ _ (s3 _ _ e)) wD5 wE5 (al3.up s5) ⟨q5, rfl, by rw [hen]; exact upd_same.trans (by rw [show ((1 * wa) : Int) = wa by omega]; rfl)⟩
      · rintro σ G ⟨F2, es, v7, v8, rfl, g3, s3, wD3, wE3, al3, le3⟩
        rw [List.length_map, List.take_length] at al3
        have g4 := g3.frz wE3.h wE3.n wE3.f
        have wD4 : Ow H (upd F2 E (.lst es)) G D (.lst xs) := ⟨wD3.n, by rw [upd_ne dE]; exact wD3.f, wD3.h⟩
        have s4 := sm_new (o := .lst es) (Same.refl F2) wE3.f
        refine ⟨_, rfl, .inl ⟨rfl, _, SqL.of wD4.h⟩, _, rfl, D, _, _, rfl, rfl, wD4.h, lt_size (by omega), ?_⟩
        refine ⟨_, xs ++ [.ref E], _, _, _, _, rfl, g4.set wD4.f (.inl wD4.n), wD4.set, ?_, by rw [List.length_append]; show xs.length + 1 ≤ _; omega⟩
        rw [map_tk hri]
        exact ((al.up s3).up s4).app (All2.one ⟨E, es, rfl, upd_same, al3.up s4⟩)
    · rintro σ G ⟨F1, xs, v5, v6, v7, v8, rfl, g, wD, al, lx⟩
      rw [List.length_map, List.take_length] at al
      exact ⟨_, rfl, q _ G (.ref D) (g.frz wD.h wD.n wD.f) ⟨D, xs, rfl, upd_same, IsAll.up al (sm_new (Same.refl F1) wD.f)⟩⟩
def sp_is_entry : Sp := fun vs H Q _ => ∃ (F : Hp) (v : V) (e : Ent) (R S : Nat), vs = [v, .int R, .int S] ∧ Same F H ∧ Is F v e ∧ EOk R S e ∧ ∀ H', Gr mu0 F H F H' → Q (.bl true) H'
theorem ok_is_entry (t : Tx K mg) : FnOk P w K mg base CX0 1 t.a_is_entry t.fd_is_entry ["entry", "rows", "signs"] sp_is_entry := by
  refine t.F_is_entry.ok sc_is_entry (fun vs H Q E h => ?_) (fun cdv A outer s H vs Q E hr h => ?_)
  · obtain ⟨F, v, e, R, S, rfl, _⟩ := h
    rfl
  · obtain ⟨F, v, e, R, S, rfl, sF, hv, he, q⟩ := h
    refine ⟨_, (pss_cons (ps_if (pt_cmpR (op_eqD hr.units) (pv 0) (pe_tup pa_nil) (nomark _)) (pss_one (ps_ret pe_bl)) pss_nil)
      (pss_one (ps_ret (pe_and (pe_cmpR op_eq (pe_callB (id := "len") call_lenQ (by rfl) t.n_len (by decide +kernel) (pa_cons (pv 0) pa_nil)) pe_int (nomark _)) (pe_and (pe_chain op_le op_lt pe_int (pe_ix ix_tup (pv 0) pe_int (fun _ _ => rfl)) (pv 2)) (pe_and (pe_cmpR op_in_seq (pe_ix ix_tup (pv 0) pe_int (fun _ _ => rfl)) (pe_lst (pa_cons (pe_un un_neg pe_int) (pa_cons pe_int pa_nil))) (by rfl)) (pe_one (pe_chain op_le op_lt pe_int (pe_ix ix_tup (pv 0) pe_int (fun _ _ => rfl)) (pv 1))))))))), ?_⟩
    have g0 : Gr mu0 F H F H := Gr.refl sF
    refine ⟨_, rfl, by show 0 ≤ sizeLine; decide, fun p np => ?_⟩
    have g1 : Gr mu0 F H F (upd H p (.tup [])) := g0.own np
    refine eq_dat (a := e) (b := Ent.emp) (hv.up g1.fh) ⟨p, rfl, upd_same⟩ ?_
    refine ⟨_, rfl, ?_⟩
    refine ite2 (fun c => ?_) (fun c => ?_)
    · exact q _ g1
    · cases e with
      | emp => exact absurd (decide_eq_true rfl) c
      | go pu wa ro =>
        obtain ⟨a, rfl, ha⟩ := hv
        obtain ⟨⟨o1, o2⟩, o3, o4, o5⟩ := he.ok _ _ _ rfl
        have h1 := g1.fh _ _ ha
        refine ⟨_, rfl, a, _, rfl, .inr (SqT.of h1), rfl, _, rfl, ifT rfl ?_⟩
        refine ⟨_, rfl, a, _, _, _, rfl, rfl, SqT.of h1, atI_nat (j := 0) rfl, _, _, rfl, rfl, _, rfl, ifT (decide_eq_true o1) ⟨_, rfl, _, _, rfl, rfl, _, rfl, ifT (decide_eq_true o2) ?_⟩⟩
        refine ⟨_, rfl, a, _, _, _, rfl, rfl, SqT.of h1, atI_nat (j := 1) rfl, _, rfl, two_le, fun l nl => ?_⟩
        have g2 := g1.own (o := .lst [.int (-1), .int 1]) nl
        have h2 := g2.fh _ _ ha
        refine ⟨l, _, rfl, .inl (SqL.of upd_same), rfl, rfl, _, rfl, ifT ?_ ?_⟩
        · rcases o3 with rfl | rfl <;> rfl
        · refine ⟨_, rfl, a, _, _, _, rfl, rfl, SqT.of h2, atI_nat (j := 2) rfl, _, _, rfl, rfl, _, rfl, ifT (decide_eq_true o4) ⟨_, rfl, _, _, rfl, rfl, ?_⟩⟩
          show Q (.bl (decide (ro < (R : Int)))) _
          rw [decide_eq_true o5]
          exact q _ g2
/-- all bools of a list of trues -/
theorem all_rep (n : Nat) : (List.replicate n true).all id = true := by simp
theorem map_rep (n : Nat) : (List.replicate n true).map V.bl = List.replicate n (V.bl true) := by simp
theorem rep_snoc (n : Nat) : List.replicate n (V.bl true) ++ [V.bl true] = List.replicate (n + 1) (V.bl true) := by
  rw [← List.replicate_succ']
def sp_is_machine : Sp := fun vs H Q _ => ∃ (F : Hp) (v : V) (M : Mach) (R S : Nat), vs = [v] ∧ Same F H ∧ Is F v M ∧ MOk M R S ∧ ∀ H', Gr mu0 F H F H' → Q (.bl true) H'
theorem ok_is_machine (t : Tx K mg) : FnOk P w K mg base CX0 2 t.a_is_machine t.fd_is_machine ["machine"] sp_is_machine := by
  refine t.F_is_machine.ok sc_is_machine (fun vs H Q E h => ?_) (fun cdv A outer s H vs Q E hr h => ?_)
  · obtain ⟨F, v, M, R, S, rfl, _⟩ := h
    rfl
  · obtain ⟨F, v, M, R, S, rfl, sF, hv, hM, q⟩ := h
    refine ⟨_, (pss_cons (ps_set (i := 1) sc_is_machine.nd rfl (by first | exact Or.inl rfl | exact Or.inr rfl) (pe_callB (id := "len") call_lenQ (by rfl) t.n_len (by decide +kernel) (pa_cons (pv 0) pa_nil)))
      (pss_cons (ps_if (pt_not (pt_chain op_le op_le pe_int (pv 1) (pe_glob (v := .int 4) (by rfl) t.m_MOST_ROWS ⟨_, rfl⟩))) (pss_one (ps_ret pe_bl)) pss_nil)
      (pss_cons (ps_set (i := 2) sc_is_machine.nd rfl (by first | exact Or.inl rfl | exact Or.inr rfl) (pe_callB (id := "len") call_lenQ (by rfl) t.n_len (by decide +kernel) (pa_cons (pe_ix ix_list (pv 0) pe_int (fun _ _ => rfl)) pa_nil)))
      (pss_cons (ps_if (PW.pt (pw_or (pt_not (pt_chain op_le op_le pe_int (pv 2) (pe_glob (v := .int 4) (by rfl) t.m_MOST_SIGNS ⟨_, rfl⟩))) (pw_or1 (pt_not (pt_val (pe_callB (id := "all") (cr_all rfl) (by rfl) t.n_all (by decide +kernel) (pa_cons (pe_lc (own := [("row", 3)]) (g := gName 3) (tt := tYes) rfl sc_is_machine.nd (pi_list (pv 0)) (blkOk_by (N := N_is_machine) (sc := defScope s_is_machine) (by decide +kernel)) (fun _ _ _ _ _ => (pg_name (i := 3) sc_is_machine.nd rfl (by first | exact Or.inl rfl | exact Or.inr rfl))) (fun _ _ _ _ _ => pts_nil) (fun _ _ _ _ _ => (pe_cmpR op_eq (pe_callB (id := "len") (crK (K := K) (r := rLenQ) rfl call_lenQ) (by rfl) t.n_len (by decide +kernel) (pa_cons (pv 3) pa_nil)) (pv 2) (nomark _)))) pa_nil))))))) (pss_one (ps_ret pe_bl)) pss_nil)
      (pss_one (ps_ret (pe_callB (id := "all") (cr_all rfl) (by rfl) t.n_all (by decide +kernel) (pa_cons (pe_lc (own := [("row", 3)]) (g := gName 3) (tt := tYes) rfl sc_is_machine.nd (pi_list (pv 0)) (blkOk_by (N := N_is_machine) (sc := defScope s_is_machine) (by decide +kernel)) (fun _ _ _ _ _ => (pg_name (i := 3) sc_is_machine.nd rfl (by first | exact Or.inl rfl | exact Or.inr rfl))) (fun _ _ _ _ _ => pts_nil) (fun _ _ _ _ _ => (pe_callB (id := "all") (crK (K := K) (r := rAll) rfl (cr_all rfl)) (by rfl) t.n_all (by decide +kernel) (pa_cons (pe_lc (own := [("entry", 4)]) (g := gName 4) (tt := tYes) rfl sc_is_machine.nd (pi_listK (K := K) rfl (pv 3)) (blkOk_by (N := N_is_machine) (sc := { kind := PySem.ScopeKind.function, names := [(PySem.Str.ofString ".0", PySem.NameKind.local), (PySem.Str.ofString "row", PySem.NameKind.local), (PySem.Str.ofString "all", PySem.NameKind.globalImplicit), (PySem.Str.ofString "rows", PySem.NameKind.cell), (PySem.Str.ofString "signs", PySem.NameKind.cell)], isGenerator := false, isCoroutine := false }) (by decide +kernel)) (fun _ _ _ _ _ => (pg_name (i := 4) sc_is_machine.nd rfl (by first | exact Or.inl rfl | exact Or.inr rfl))) (fun _ _ _ _ _ => pts_nil) (fun _ _ _ _ _ => (pe_call (ok_is_entry t) (hr.mono (by decide)) (by rfl) t.m_is_entry t.F_is_entry.kp t.b_is_entry .nil pass0 (pa_cons (pv 4) (pa_cons (pv 1) (pa_cons (pv 2) pa_nil)))))) pa_nil)))) pa_nil)))))))), ?_⟩
    have g0 : Gr mu0 F H F H := Gr.refl sF
    have r1 := hM.r1
    have r4 := hM.r4
    have s2 := hM.s2
    have s4 := hM.s4
    obtain ⟨a, rs, rfl, ha, hrs⟩ := hv
    have lrs : rs.length = R := hrs.1.trans hM.len
    have h0 := sF _ _ ha
    have l0 : 0 < rs.length := by omega
    have hx0 : rs[0]? = some rs[0] := List.getElem?_eq_getElem l0
    obtain ⟨row0, hM0, hr0⟩ := hrs.get' hx0
    obtain ⟨a0, es0, e0, ha0, hes0⟩ := hr0
    have ls0 : es0.length = S := hes0.1.trans (hM.row _ (List.mem_of_getElem? hM0))
    have hb0 := sF _ _ ha0
    -- rows = len(machine); signs = len(machine[0])
    refine ⟨_, rfl, a, rs, rfl, .inl (SqL.of h0), _, rfl, _, _, rfl, rfl, _, rfl, ifT (decide_eq_true (by omega)) ⟨_, _, rfl, rfl, _, rfl, ?_⟩⟩
    refine ifF (by rw [decide_eq_true (show (rs.length : Int) ≤ 4 by omega)]; rfl) ?_
    refine ⟨_, rfl, a, rs, _, _, rfl, rfl, SqL.of h0, atI_nat (j := 0) hx0, ?_⟩
    rw [e0]
    refine ⟨a0, es0, rfl, .inl (SqL.of hb0), _, rfl, _, _, rfl, rfl, _, rfl, ifT (decide_eq_true (by omega)) ⟨_, _, rfl, rfl, _, rfl, ?_⟩⟩
    refine ifF (by rw [decide_eq_true (show (es0.length : Int) ≤ 4 by omega)]; rfl) ?_
    -- all([len(row) == signs for row in machine])
    refine ⟨_, rfl, a, rfl, ⟨_, SqL.of h0⟩, fun D nD => lc_list (K := K) (a := a) (xs := rs) (fun i G => Gr mu0 F H F G ∧ G D = some (.lst (List.replicate i (V.bl true)))) ⟨g0.own nD, upd_same⟩ (fun i G _ p => SqL.of (p.1.fh _ _ ha)) ?_ ?_⟩
    · rintro i x G hi ⟨gG, hD⟩
      obtain ⟨row, hMi, b, es, rfl, hb, hes⟩ := hrs.get' hi
      have ls : es.length = S := hes.1.trans (hM.row _ (List.mem_of_getElem? hMi))
      have il : i < rs.length := (List.getElem?_eq_some_iff.mp hi).1
      refine ⟨rfl, ?_⟩
      refine yes ⟨_, rfl, b, es, rfl, .inl (SqL.of (gG.fh _ _ hb)), _, rfl, rfl, _, hD, by rw [List.length_replicate]; exact lt_size (by omega), ?_⟩
      have e : (V.bl (decide (V.int (es.length : Int) = V.int (es0.length : Int)))) = V.bl true := by rw [ls, ls0]; simp
      rw [e, rep_snoc]
      exact ⟨gG.set (ne_of_none' sF nD) (.inl nD), upd_same⟩
    · rintro G ⟨gG, hD⟩
      refine ⟨D, List.replicate rs.length true, rfl, SqL.of (by rw [map_rep]; exact hD), _, rfl, ifF (by rw [all_rep]; rfl) ?_⟩
      -- all([all([is_entry(entry, rows, signs) for entry in row]) for row in machine])
      refine ⟨_, rfl, a, rfl, ⟨_, SqL.of (gG.fh _ _ ha)⟩, fun D1 nD1 => lc_list (K := K) (a := a) (xs := rs) (fun i G1 => Gr mu0 F H F G1 ∧ H D1 = none ∧ G1 D1 = some (.lst (List.replicate i (V.bl true)))) ⟨gG.own nD1, gG.th _ nD1, upd_same⟩ (fun i G1 _ p => SqL.of (p.1.fh _ _ ha)) ?_ ?_⟩
      · rintro i x G1 hi ⟨gG1, nH, hD1⟩
        obtain ⟨row, hMi, b, es, rfl, hb, hes⟩ := hrs.get' hi
        have ls : es.length = S := hes.1.trans (hM.row _ (List.mem_of_getElem? hMi))
        have il : i < rs.length := (List.getElem?_eq_some_iff.mp hi).1
        refine ⟨rfl, yes ⟨_, rfl, b, rfl, ⟨_, SqL.of (gG1.fh _ _ hb)⟩, fun D2 nD2 => lc_list (K := K) (a := b) (xs := es) (fun j G2 => Gr mu0 F H F G2 ∧ H D2 = none ∧ D1 ≠ D2 ∧ G2 D1 = some (.lst (List.replicate i (V.bl true))) ∧ G2 D2 = some (.lst (List.replicate j (V.bl true))))
          ⟨gG1.own nD2, gG1.th _ nD2, ne_of_none hD1 nD2, by rw [upd_ne (ne_of_none hD1 nD2)]; exact hD1, upd_same⟩ (fun j G2 _ p => SqL.of (p.1.fh _ _ hb)) ?_ ?_⟩⟩
        · rintro j y G2 hj ⟨gG2, nH2, d12, h1, h2⟩
          obtain ⟨e, hej, hye⟩ := hes.get' hj
          have jl : j < es.length := (List.getElem?_eq_some_iff.mp hj).1
          refine ⟨rfl, yes ⟨_, rfl, _, rfl, _, rfl, F, y, e, R, S, ?_, gG2.fh, hye, hM.ent _ (List.mem_of_getElem? hMi) _ (List.mem_of_getElem? hej), fun G3 g3 => ?_⟩⟩
          · rw [lrs, ls0]
            rfl
          · have gH3 := gG2.trans g3
            refine ⟨_, g3.fr _ _ h2 (fun z => z), by rw [List.length_replicate]; exact lt_size (by omega), ?_⟩
            rw [rep_snoc]
            exact ⟨gH3.set (sF.free nH2) (.inl nH2), nH2, d12, by rw [upd_ne d12]; exact g3.fr _ _ h1 (fun z => z), upd_same⟩
        · rintro G2 ⟨gG2, nH2, d12, h1, h2⟩
          refine ⟨D2, List.replicate es.length true, rfl, SqL.of (by rw [map_rep]; exact h2), ?_⟩
          refine ⟨_, h1, by rw [List.length_replicate]; exact lt_size (by omega), ?_⟩
          rw [all_rep, rep_snoc]
          exact ⟨gG2.set (sF.free nH) (.inl nH), nH, upd_same⟩
      · rintro G1 ⟨gG1, nH, hD1⟩
        refine ⟨D1, List.replicate rs.length true, rfl, SqL.of (by rw [map_rep]; exact hD1), ?_⟩
        rw [all_rep]
        exact q _ gG1
def sp_must_machine : Sp := fun vs H Q _ => ∃ (F : Hp) (v : V) (M : Mach) (R S : Nat), vs = [v] ∧ Same F H ∧ Is F v M ∧ MOk M R S ∧ ∀ H', Gr mu0 F H F H' → Q .non H'
theorem ok_must_machine (t : Tx K mg) : FnOk P w K mg base CX0 3 t.a_must_machine t.fd_must_machine ["machine"] sp_must_machine := by
  refine t.F_must_machine.ok sc_must_machine (fun vs H Q E h => ?_) (fun cdv A outer s H vs Q E hr h => ?_)
  · obtain ⟨F, v, M, R, S, rfl, _⟩ := h
    rfl
  · obtain ⟨F, v, M, R, S, rfl, sF, hv, hM, q⟩ := h
    refine ⟨_, (pss_one (ps_if (pt_not (pt_val (pe_call (ok_is_machine t) (hr.mono (by decide)) (by rfl) t.m_is_machine t.F_is_machine.kp t.b_is_machine .nil pass0 (pa_cons (pv 0) pa_nil)))) (pss_one ps_never) pss_nil)), ?_⟩
    exact ⟨_, rfl, F, _, M, R, S, rfl, sF, hv, hM, fun H' g => ⟨_, rfl, ifF rfl (q _ g)⟩⟩
/-! ### lists of lists of data that may be changed yet -/
section
variable {α : Type} [Dat α]
structure MaG (H F1 H1 : Hp) (m : Addr) (rs : List Addr) (ess : List (List V)) (M : List (List α)) : Prop where
  ow : Ow H F1 H1 m (.lst (rs.map V.ref))
  nd : rs.Nodup
  ne : m ∉ rs
  len : rs.length = ess.length
  rows : ∀ (i : Nat) r es, rs[i]? = some r → ess[i]? = some es → Ow H F1 H1 r (.lst es)
  dat : All2 (fun es row => IsAll F1 es row) ess M
section
variable {mu mu' : Addr → Prop} {H F F1 H1 F2 H2 : Hp} {m : Addr} {rs : List Addr} {ess : List (List V)} {M : List (List α)}
theorem MaG.row (x : MaG H F1 H1 m rs ess M) {r : Addr} (h : r ∈ rs) : ∃ es, Ow H F1 H1 r (.lst es) := by
  obtain ⟨i, hi⟩ := List.getElem?_of_mem h
  have l := (List.getElem?_eq_some_iff.mp hi).1
  exact ⟨ess[i]'(by rw [← x.len]; exact l), x.rows i r _ hi (List.getElem?_eq_getElem _)⟩
theorem MaG.gr (x : MaG H F1 H1 m rs ess M) (g : Gr mu F1 H1 F2 H2) (k : ∀ c, mu c → c ≠ m ∧ c ∉ rs) : MaG H F2 H2 m rs ess M where
  ow := x.ow.call g fun z => (k m z).1 rfl
  nd := x.nd
  ne := x.ne
  len := x.len
  rows := fun i r es h1 h2 => (x.rows i r es h1 h2).call g fun z => (k r z).2 (List.mem_of_getElem? h1)
  dat := x.dat.imp fun es row z => z.up g.ff
theorem MaG.off (x : MaG H F1 H1 m rs ess M) {p : Addr} {o : HO} (h : H p = some o) : ∀ c, muP p c → c ≠ m ∧ c ∉ rs := fun c e => by
  rw [show c = p from e]
  refine ⟨fun z => ?_, fun z => ?_⟩
  · rw [z, x.ow.n] at h; cases h
  · obtain ⟨es, w⟩ := x.row z
    rw [w.n] at h; cases h
theorem MaG.offn (x : MaG H F1 H1 m rs ess M) {p : Addr} (h : H1 p = none) : p ≠ m ∧ p ∉ rs := by
  refine ⟨fun z => ?_, fun z => ?_⟩
  · rw [z, x.ow.h] at h; cases h
  · obtain ⟨es, w⟩ := x.row z
    rw [w.h] at h; cases h
/-- a row that is done comes in -/
theorem MaG.add (x : MaG H F1 H1 m rs ess M) {r : Addr} {es : List V} {row : List α} (w : Ow H F1 H1 r (.lst es)) (k : r ≠ m ∧ r ∉ rs) (d : IsAll F1 es row) : MaG H F1 (upd H1 m (.lst ((rs ++ [r]).map V.ref))) m (rs ++ [r]) (ess ++ [es]) (M ++ [row]) where
  ow := x.ow.set
  nd := nd_snoc x.nd k.2
  ne := fun z => by
    rcases List.mem_append.mp z with z | z
    · exact x.ne z
    · exact k.1 (List.mem_singleton.mp z).symm
  len := by rw [List.length_append, List.length_append, x.len]; rfl
  rows := fun i r' es' h1 h2 => by
    by_cases l : i < rs.length
    · rw [List.getElem?_append_left l] at h1
      rw [List.getElem?_append_left (by rw [← x.len]; exact l)] at h2
      exact (x.rows i r' es' h1 h2).other fun z => x.ne (by rw [← z]; exact List.mem_of_getElem? h1)
    · rw [List.getElem?_append_right (by omega)] at h1
      rw [List.getElem?_append_right (by rw [← x.len]; omega), ← x.len] at h2
      cases e : i - rs.length with
      | zero =>
        rw [e] at h1 h2
        cases h1; cases h2
        exact w.other k.1
      | succ n => rw [e] at h1; cases h1
  dat := x.dat.app (All2.one d)
/-- an entry of it is changed -/
theorem MaG.put (x : MaG H F1 H1 m rs ess M) {i j : Nat} {r : Addr} {es : List V} {row : List α} {v : V} {e : α} (hr : rs[i]? = some r) (hes : ess[i]? = some es) (hrow : M[i]? = some row) (hv : Is F1 v e) :
    MaG H F1 (upd H1 r (.lst (es.set j v))) m rs (ess.set i (es.set j v)) (M.set i (row.set j e)) where
  ow := x.ow.other fun z => x.ne (by rw [z]; exact List.mem_of_getElem? hr)
  nd := x.nd
  ne := x.ne
  len := by rw [List.length_set]; exact x.len
  rows := fun i' r' es' h1 h2 => by
    by_cases e : i = i'
    · subst e
      rw [hr] at h1
      cases h1
      rw [List.getElem?_set_self (List.getElem?_eq_some_iff.mp hes).1] at h2
      cases h2
      exact (x.rows i r es hr hes).set
    · rw [List.getElem?_set_ne e] at h2
      exact (x.rows i' r' es' h1 h2).other fun z => e (nd_ix x.nd hr (by rw [← z]; exact h1))
  dat := x.dat.set ((x.dat.2 i es row hes hrow).set hv j) i
/-- it is changed no more -/
theorem MaG.frz (x : MaG H F1 H1 m rs ess M) (g : Gr mu F H F1 H1) : ∃ F2, Gr mu F H F2 H1 ∧ Same F1 F2 ∧ Is F2 (.ref m) M ∧ (∀ c, c ≠ m → c ∉ rs → F2 c = F1 c) ∧ ∀ c, c = m ∨ c ∈ rs → F2 c = H1 c := by
  have own : ∀ c, (c = m ∨ c ∈ rs) → H c = none ∧ F1 c = none ∧ ∃ o, H1 c = some o := fun c h => by
    rcases h with rfl | h
    · exact ⟨x.ow.n, x.ow.f, _, x.ow.h⟩
    · obtain ⟨es, w⟩ := x.row h
      exact ⟨w.n, w.f, _, w.h⟩
  have s : Same F1 (fun c => if c = m ∨ c ∈ rs then H1 c else F1 c) := fun c o h => by
    by_cases e : c = m ∨ c ∈ rs
    · rw [(own c e).2.1] at h; cases h
    · simp only [e, if_false]; exact h
  refine ⟨fun c => if c = m ∨ c ∈ rs then H1 c else F1 c, ⟨fun c o h => s c o (g.ff c o h), fun c o h => ?_, fun c o h => ?_, g.fr, g.th⟩, s, ⟨m, rs.map V.ref, rfl, ?_, by rw [List.length_map, x.len]; exact x.dat.1, fun i v row h1 h2 => ?_⟩, fun c h1 h2 => if_neg fun z => z.elim h1 h2, fun c h => if_pos h⟩
  · by_cases e : c = m ∨ c ∈ rs
    · simp only [e, if_true] at h; exact h
    · simp only [e, if_false] at h; exact g.fh c o h
  · by_cases e : c = m ∨ c ∈ rs
    · exact .inr (own c e).1
    · simp only [e, if_false] at h; exact g.nw c o h
  · show (if m = m ∨ m ∈ rs then H1 m else F1 m) = _
    rw [if_pos (.inl rfl)]; exact x.ow.h
  · rw [List.getElem?_map] at h1
    cases hr : rs[i]? with
    | none => rw [hr] at h1; cases h1
    | some r =>
      rw [hr] at h1
      cases h1
      obtain ⟨es, hes, hd⟩ := x.dat.get h2
      refine ⟨r, es, rfl, ?_, hd.up s⟩
      show (if r = m ∨ r ∈ rs then H1 r else F1 r) = _
      rw [if_pos (.inr (List.mem_of_getElem? hr))]
      exact (x.rows i r es hr hes).h
/-- it may be changed again -/
theorem MaG.thaw {F0 F3 G : Hp} (s0 : Same F0 H) (x : MaG H F1 H1 m rs ess M) (s : Same F1 F2) (on : ∀ c, c = m ∨ c ∈ rs → F2 c = H1 c) (s' : Same F2 F3) (g : Gr mu F0 H F3 G) : ∃ F', Gr mu F0 H F' G ∧ Same F1 F' ∧ MaG H F' G m rs ess M := by
  have own : ∀ c, (c = m ∨ c ∈ rs) → H c = none ∧ F1 c = none ∧ ∀ o, H1 c = some o → G c = some o := fun c h => by
    have k : ∀ o, H1 c = some o → G c = some o := fun o e => g.fh _ _ (s' _ _ ((on c h).trans e))
    rcases id h with rfl | h
    · exact ⟨x.ow.n, x.ow.f, k⟩
    · obtain ⟨es, w⟩ := x.row h
      exact ⟨w.n, w.f, k⟩
  have sa : Same F1 (fun c => if c = m ∨ c ∈ rs then none else F3 c) := fun c o h => by
    by_cases e : c = m ∨ c ∈ rs
    · rw [(own c e).2.1] at h; cases h
    · simp only [e, if_false]; exact s' _ _ (s _ _ h)
  have sb : Same (fun c => if c = m ∨ c ∈ rs then none else F3 c) F3 := fun c o h => by
    by_cases e : c = m ∨ c ∈ rs
    · simp only [e, if_true] at h; cases h
    · simp only [e, if_false] at h; exact h
  have no : ∀ c, (c = m ∨ c ∈ rs) → (fun c => if c = m ∨ c ∈ rs then none else F3 c) c = none := fun c e => if_pos e
  refine ⟨fun c => if c = m ∨ c ∈ rs then none else F3 c, ⟨fun c o h => ?_, fun c o h => g.fh _ _ (sb _ _ h), fun c o h => g.nw _ _ (sb _ _ h), g.fr, g.th⟩, sa, ⟨⟨x.ow.n, no _ (.inl rfl), (own _ (.inl rfl)).2.2 _ x.ow.h⟩, x.nd, x.ne, x.len, fun i r es h1 h2 => ?_, x.dat.imp fun es row z => z.up sa⟩⟩
  · by_cases e : c = m ∨ c ∈ rs
    · have z := s0 c o h
      rw [(own c e).1] at z; cases z
    · simp only [e, if_false]; exact g.ff c o h
  · have w := x.rows i r es h1 h2
    have m' : r = m ∨ r ∈ rs := .inr (List.mem_of_getElem? h1)
    exact ⟨w.n, no _ m', (own _ m').2.2 _ w.h⟩
theorem MaG.at (x : MaG H F1 H1 m rs ess M) {i : Nat} {row : List α} (h : M[i]? = some row) : ∃ r es, rs[i]? = some r ∧ ess[i]? = some es ∧ Ow H F1 H1 r (.lst es) ∧ IsAll F1 es row := by
  obtain ⟨es, hes, al⟩ := x.dat.get h
  have l : i < rs.length := by rw [x.len]; exact (List.getElem?_eq_some_iff.mp hes).1
  exact ⟨_, es, List.getElem?_eq_getElem l, hes, x.rows i _ es (List.getElem?_eq_getElem l) hes, al⟩
end
end
/-! ### machines bent -/
section
variable {α : Type} [Dat α] {mu : Addr → Prop} {H F1 H1 : Hp} {m : Addr} {rs : List Addr} {ess : List (List V)} {M : List (List α)}
theorem MaG.rep (x : MaG H F1 H1 m rs ess M) {i : Nat} {r : Addr} {es es' : List V} {row' : List α} (hr : rs[i]? = some r) (hes : ess[i]? = some es) (hv : IsAll F1 es' row') :
    MaG H F1 (upd H1 r (.lst es')) m rs (ess.set i es') (M.set i row') where
  ow := x.ow.other fun z => x.ne (by rw [z]; exact List.mem_of_getElem? hr)
  nd := x.nd
  ne := x.ne
  len := by rw [List.length_set]; exact x.len
  rows := fun j r' es2 h1 h2 => by
    by_cases e : i = j
    · subst e
      cases hr.symm.trans h1
      rw [List.getElem?_set_self (List.getElem?_eq_some_iff.mp hes).1] at h2
      cases h2
      exact (x.rows i r es hr hes).set
    · rw [List.getElem?_set_ne e] at h2
      exact (x.rows j r' es2 h1 h2).other fun z => e (nd_ix x.nd hr (by rw [← z]; exact h1))
  dat := x.dat.set hv i
theorem MaG.slot (x : MaG H F1 H1 m rs ess M) {i : Nat} (hi : i < M.length) : ∃ r es row, rs[i]? = some r ∧ ess[i]? = some es ∧ M[i]? = some row ∧ Ow H F1 H1 r (.lst es) ∧ IsAll F1 es row ∧ (rs.map V.ref)[i]? = some (.ref r) := by
  have h : M[i]? = some _ := List.getElem?_eq_getElem hi
  obtain ⟨r, es, h1, h2, w, al⟩ := x.at h
  exact ⟨r, es, _, h1, h2, h, w, al, by rw [List.getElem?_map, h1]; rfl⟩
end
/-! ### the first of all machines that are named otherwise -/
def allS (M : Mach) (rs ss : List Int) : List Mach := [nmM M rs ss false, nmM M rs ss true]
def allR (M : Mach) (S : Nat) (rs : List Int) : List Mach := (ordsN (S - 1)).flatMap (allS M rs)
def allM (M : Mach) (R S : Nat) : List Mach := (ordsN (R - 1)).flatMap (allR M S)
theorem all_ok {M : Mach} {R S : Nat} (hM : MOk M R S) : ∀ N ∈ allM M R S, ∃ rs ss t, N = nmM M rs ss t ∧ OrdOk R rs ∧ OrdOk S ss := by
  intro N h
  have := hM.r1
  have := hM.r4
  have := hM.s2
  have := hM.s4
  obtain ⟨rs, hrs, h⟩ := List.mem_flatMap.mp h
  obtain ⟨ss, hss, h⟩ := List.mem_flatMap.mp h
  have o1 := ords_ok (n := R - 1) (by omega) hrs
  have o2 := ords_ok (n := S - 1) (by omega) hss
  rw [show R - 1 + 1 = R by omega] at o1
  rw [show S - 1 + 1 = S by omega] at o2
  rcases List.mem_cons.mp h with rfl | h
  · exact ⟨rs, ss, _, rfl, o1, o2⟩
  · exact ⟨rs, ss, _, List.mem_singleton.mp h, o1, o2⟩
theorem least_ok {M : Mach} {R S : Nat} (hM : MOk M R S) : MOk (minL M (allM M R S)) R S := by
  rcases List.mem_cons.mp (minL_mem (allM M R S) M) with e | h
  · rw [e]; exact hM
  · obtain ⟨rs, ss, t, e, o1, o2⟩ := all_ok hM _ h
    rw [e]; exact nm_ok hM o1 o2 t
theorem minL_app {α : Type} [Dat α] (d : α) (ds : List α) (x : α) : minL d (ds ++ [x]) = if ltD x (minL d ds) = true then x else minL d ds := by
  unfold minL
  rw [List.foldl_append]; rfl
/-- a copy, its rows ours -/
theorem cp_step {F H F4 G : Hp} {α : Type} [Dat α] {D : Addr} {rs : List Addr} {ess : List (List V)} {Ms : List (List α)} {es : List V} {row : List α} {l : Addr} {mu : Addr → Prop} (g : Gr mu F H F4 G) (x : MaG H F4 G D rs ess Ms) (n : G l = none) (al : IsAll F4 es row) :
    Gr mu F H F4 (upd (upd G l (.lst es)) D (.lst ((rs ++ [l]).map V.ref))) ∧ MaG H F4 (upd (upd G l (.lst es)) D (.lst ((rs ++ [l]).map V.ref))) D (rs ++ [l]) (ess ++ [es]) (Ms ++ [row]) := by
  have g4 := g.own (o := .lst es) n
  have w4 : Ow H F4 (upd G l (.lst es)) l (.lst es) := Ow.mk1 g n
  have x4 := x.gr ((Gr.refl (mu := mu0) g.fh).own (o := .lst es) n) fun c z => z.elim
  exact ⟨g4.set x4.ow.f (.inl x4.ow.n), x4.add w4 (x.offn n) al⟩
def sp_least : Sp := fun vs H Q _ => ∃ (F : Hp) (m : V) (M : Mach) (R S : Nat), vs = [m] ∧ Same F H ∧ Is F m M ∧ MOk M R S ∧
  ∀ (F' H' : Hp) (u : Addr) (rs : List Addr) (ess : List (List V)), Gr mu0 F H F' H' → MaG H F' H' u rs ess (minL M (allM M R S)) → Q (.ref u) H'
theorem ok_least_form (t : Tx K mg) : FnOk P w K mg base CX0 4 t.a_least_form t.fd_least_form ["machine"] sp_least := by
  refine t.F_least_form.ok sc_least_form (fun vs H Q E h => ?_) (fun cdv A outer s H vs Q E hr h => ?_)
  · obtain ⟨F, m, M, R, S, rfl, _⟩ := h
    rfl
  · obtain ⟨F, m, M, R, S, rfl, sF, hm, hM, q⟩ := h
    refine ⟨_, (pss_cons (ps_expr (pe_call (ok_must_machine t) (hr.mono (by decide)) (by rfl) t.m_must_machine t.F_must_machine.kp t.b_must_machine .nil pass0 (pa_cons (pv 0) pa_nil)))
      (pss_cons (ps_set (i := 1) sc_least_form.nd rfl (by first | exact Or.inl rfl | exact Or.inr rfl) (pv 0))
      (pss_cons (ps_for PassesOwn.never rfl (pi_list (pe_call (ok_orders t) (hr.mono (by decide)) (by rfl) t.m_orders t.F_orders.kp t.b_orders .nil pass0 (pa_cons (pe_callB (id := "len") call_lenQ (by rfl) t.n_len (by decide +kernel) (pa_cons (pv 0) pa_nil)) pa_nil))) (pg_name (i := 2) sc_least_form.nd rfl (by first | exact Or.inl rfl | exact Or.inr rfl)) (pss_one (ps_for PassesOwn.never rfl (pi_list (pe_call (ok_orders t) (hr.mono (by decide)) (by rfl) t.m_orders t.F_orders.kp t.b_orders .nil pass0 (pa_cons (pe_callB (id := "len") call_lenQ (by rfl) t.n_len (by decide +kernel) (pa_cons (pe_ix ix_list (pv 0) pe_int (fun _ _ => rfl)) pa_nil)) pa_nil))) (pg_name (i := 3) sc_least_form.nd rfl (by first | exact Or.inl rfl | exact Or.inr rfl)) (pss_one (ps_for PassesOwn.never rfl (pi_list (pe_lst (pa_cons pe_bl (pa_cons pe_bl pa_nil)))) (pg_name (i := 4) sc_least_form.nd rfl (by first | exact Or.inl rfl | exact Or.inr rfl)) (pss_one (ps_set (i := 1) sc_least_form.nd rfl (by first | exact Or.inl rfl | exact Or.inr rfl) (pe_callB (id := "min") (call_min2N rfl (units66 hr)) (by rfl) t.n_min (by decide +kernel) (pa_cons (pv 1) (pa_cons (pe_call (ok_named t) (hr.mono (by decide)) (by rfl) t.m_named t.F_named.kp t.b_named .nil pass0 (pa_cons (pv 0) (pa_cons (pv 2) (pa_cons (pv 3) (pa_cons (pv 4) pa_nil))))) pa_nil))))))))))
      (pss_one (ps_ret (pe_lc (own := [("entries", 5)]) (g := gName 5) (tt := tYes) rfl sc_least_form.nd (pi_list (pv 1)) (blkOk_by (N := N_least_form) (sc := defScope s_least_form) (by decide +kernel)) (fun _ _ _ _ _ => (pg_name (i := 5) sc_least_form.nd rfl (by first | exact Or.inl rfl | exact Or.inr rfl))) (fun _ _ _ _ _ => pts_nil) (fun _ _ _ _ _ => (pe_callTy (T := "list") (crK (K := K) (r := rListQ) rfl call_listQ) (by rfl) t.n_list (by decide +kernel) (pa_cons (pv 5) pa_nil))))))))), ?_⟩
    obtain ⟨am, rv, rfl, ham, hrv⟩ := id hm
    have r1 := hM.r1
    have r4 := hM.r4
    have s2 := hM.s2
    have s4 := hM.s4
    have lr : rv.length = R := hrv.1.trans hM.len
    have hM0 : M[0]? = some (M[0]'(by rw [hM.len]; omega)) := List.getElem?_eq_getElem _
    generalize M[0]'(by rw [hM.len]; omega) = row0 at hM0
    obtain ⟨_, hx0, ra0, re0, rfl, hra0, hre0⟩ := hrv.get hM0
    have lre : re0.length = S := hre0.1.trans (hM.row row0 (List.mem_of_getElem? hM0))
    refine ⟨_, rfl, F, .ref am, M, R, S, rfl, sF, hm, hM, fun H1 g1 => ?_⟩
    refine ⟨_, rfl, _, rfl, am, rv, rfl, .inl (SqL.of (g1.fh _ _ ham)), F, R, congrArg (fun n : Nat => [V.int n]) lr, g1.fh, r1, r4, fun F2 H2 v g2 i2 => ?_⟩
    obtain ⟨lo, xo, rfl, hlo, alo⟩ := i2
    have t2 := g1.trans g2
    refine ⟨lo, rfl, ⟨_, SqL.of (t2.fh _ _ hlo)⟩, for_list (K := K) (a := lo) (xs := xo) (fun i σ G => ∃ (F3 : Hp) (b : V) (v2 v3 v4 : Option V), σ = [some (.ref am), some b, v2, v3, v4, none] ∧ Gr mu0 F H F3 G ∧ Same F2 F3 ∧ Is F3 b (minL M (((ordsN (R - 1)).take i).flatMap (allR M S))))
      ⟨F2, .ref am, none, none, none, rfl, t2, Same.refl F2, hm.up t2.ff⟩ (fun i σ G _ ⟨F3, _, _, _, _, _, g, s, _⟩ => SqL.of (g.fh _ _ (s _ _ hlo))) ?_ ?_⟩
    · rintro i y σ G hi ⟨F3, b, v2, v3, v4, rfl, g3, s3, ib⟩
      obtain ⟨rs, hrs, ra, xr, rfl, hra, axr⟩ := alo.get' hi
      have okr := ords_ok (n := R - 1) (by omega) (List.mem_of_getElem? hrs)
      rw [show R - 1 + 1 = R by omega] at okr
      refine ⟨_, rfl, am, rv, _, _, rfl, rfl, SqL.of (g3.fh _ _ (g3.ff _ _ ham)), atI_nat (j := 0) hx0, ra0, re0, rfl, .inl (SqL.of (g3.fh _ _ (g3.ff _ _ hra0))), F3, S, congrArg (fun n : Nat => [V.int n]) lre, g3.fh, by omega, s4, fun F4 H4 v g4 i4 => ?_⟩
      obtain ⟨ls, xs, rfl, hls, als⟩ := i4
      have t4 := g3.trans g4
      refine ⟨ls, rfl, ⟨_, SqL.of (t4.fh _ _ hls)⟩, for_list (K := K) (a := ls) (xs := xs) (fun j σ G => ∃ (F5 : Hp) (b : V) (v3 v4 : Option V), σ = [some (.ref am), some b, some (.ref ra), v3, v4, none] ∧ Gr mu0 F H F5 G ∧ Same F4 F5 ∧ Is F5 b (minL M (((ordsN (R - 1)).take i).flatMap (allR M S) ++ ((ordsN (S - 1)).take j).flatMap (allS M rs))))
        ⟨F4, b, v3, v4, rfl, t4, Same.refl F4, by show Is F4 b (minL M (_ ++ [])); rw [List.append_nil]; exact ib.up g4.ff⟩ (fun j σ G _ ⟨F5, _, _, _, _, g, s, _⟩ => SqL.of (g.fh _ _ (s _ _ hls))) ?_ ?_⟩
      · rintro j y σ G hj ⟨F5, b, v3, v4, rfl, g5, s5, ib⟩
        obtain ⟨ss, hss, sa, xss, rfl, hsa, axs⟩ := als.get' hj
        have oks := ords_ok (n := S - 1) (by omega) (List.mem_of_getElem? hss)
        rw [show S - 1 + 1 = S by omega] at oks
        refine ⟨two_le, fun L nL => ?_⟩
        have g6 := g5.new (o := .lst [.bl false, .bl true]) nL
        have s6 := sm_new (o := .lst [.bl false, .bl true]) (Same.refl F5) (g5.fh.free nL)
        have hL : (upd F5 L (.lst [.bl false, .bl true])) L = some (.lst [.bl false, .bl true]) := upd_same
        generalize upd F5 L (.lst [.bl false, .bl true]) = F6 at g6 s6 hL
        generalize upd G L (.lst [.bl false, .bl true]) = G6 at g6 ⊢
        refine ⟨L, rfl, ⟨_, SqL.of (g6.fh _ _ hL)⟩, for_list (K := K) (a := L) (xs := [.bl false, .bl true]) (fun k σ G => ∃ (F7 : Hp) (b : V) (v4 : Option V), σ = [some (.ref am), some b, some (.ref ra), some (.ref sa), v4, none] ∧ Gr mu0 F H F7 G ∧ Same F6 F7 ∧ Is F7 b (minL M (((ordsN (R - 1)).take i).flatMap (allR M S) ++ ((ordsN (S - 1)).take j).flatMap (allS M rs) ++ (allS M rs ss).take k)))
          ⟨F6, b, v4, rfl, g6, Same.refl F6, by rw [List.take_zero, List.append_nil]; exact ib.up s6⟩ (fun k σ G _ ⟨F7, _, _, _, g, s, _⟩ => SqL.of (g.fh _ _ (s _ _ hL))) ?_ ?_⟩
        · rintro k y σ G hk ⟨F7, b, v4, rfl, g7, s7, ib⟩
          obtain ⟨tb, rfl, htb⟩ : ∃ tb : Bool, y = .bl tb ∧ (allS M rs ss)[k]? = some (nmM M rs ss tb) := by
            match k, hk with
            | 0, hk => cases hk; exact ⟨false, rfl, rfl⟩
            | 1, hk => cases hk; exact ⟨true, rfl, rfl⟩
            | k + 2, hk => simp at hk
          have up7 : ∀ c o, F2 c = some o → F7 c = some o := fun c o e => s7 _ _ (s6 _ _ (s5 _ _ (g4.ff _ _ (s3 _ _ e))))
          have up4 : ∀ c o, F4 c = some o → F7 c = some o := fun c o e => s7 _ _ (s6 _ _ (s5 _ _ e))
          refine ⟨_, rfl, _, rfl, _, rfl, _, rfl, _, rfl, F7, .ref am, ra, sa, M, R, S, rs, ss, tb, rfl, g7.fh, hm.up g7.ff, hM, ⟨ra, xr, rfl, up7 _ _ hra, IsAll.up axr up7⟩, ⟨sa, xss, rfl, up4 _ _ hsa, IsAll.up axs up4⟩, okr, oks, fun F8 G8 v g8 i8 => ?_⟩
          have t8 := g7.trans g8
          refine rMin2N.mk ((ib.up g8.ff).up t8.fh) (i8.up t8.fh) ?_
          refine ⟨F8, _, _, rfl, t8, fun c o e => g8.ff _ _ (s7 _ _ e), ?_⟩
          rw [List.take_add_one, htb, ← List.append_assoc]
          show Is F8 _ (minL M (_ ++ [nmM M rs ss tb]))
          rw [minL_app]
          split
          · exact i8
          · exact ib.up g8.ff
        · rintro σ G ⟨F7, b, v4, rfl, g7, s7, ib⟩
          refine ⟨F7, b, _, _, rfl, g7, fun c o e => s7 _ _ (s6 _ _ (s5 _ _ e)), ?_⟩
          rw [fm_take _ hss, ← List.append_assoc]
          exact ib
      · rintro σ G ⟨F5, b, v3, v4, rfl, g5, s5, ib⟩
        rw [als.1, List.take_length] at ib
        refine ⟨F5, b, _, _, _, rfl, g5, fun c o e => s5 _ _ (g4.ff _ _ (s3 _ _ e)), ?_⟩
        rw [fm_take _ hrs]
        exact ib
    · rintro σ G ⟨F3, b, v2, v3, v4, rfl, g3, s3, ib⟩
      rw [alo.1, List.take_length] at ib
      have ib : Is F3 b (minL M (allM M R S)) := ib
      have okB := least_ok hM
      generalize minL M (allM M R S) = B at ib q okB
      obtain ⟨bm, bv, rfl, hbm, hbv⟩ := ib
      refine ⟨_, rfl, bm, rfl, ⟨_, SqL.of (g3.fh _ _ hbm)⟩, fun D nD => lc_list (K := K) (a := bm) (xs := bv) (fun i G2 => ∃ (rs : List Addr) (ess : List (List V)), Gr mu0 F H F3 G2 ∧ MaG H F3 G2 D rs ess (B.take i))
        ⟨[], [], g3.own nD, ⟨Ow.mk1 g3 nD, List.nodup_nil, (fun z => nomatch z), rfl, fun i r es h _ => (by cases h), All2.nil⟩⟩ (fun i G2 _ ⟨_, _, g, _⟩ => SqL.of (g.fh _ _ hbm)) ?_ ?_⟩
      · rintro i y G2 hi ⟨rs, ess, g, x⟩
        obtain ⟨row, hMi, ra, es, rfl, hra, hes⟩ := hbv.get' hi
        have il : i < B.length := (List.getElem?_eq_some_iff.mp hMi).1
        have lrs : rs.length ≤ i := by rw [x.len, x.dat.1, List.length_take]; omega
        have ilv : i < bv.length := (List.getElem?_eq_some_iff.mp hi).1
        refine ⟨rfl, yes ⟨_, rfl, ra, es, rfl, .inl (SqL.of (g.fh _ _ hra)), fun l nl => ?_⟩⟩
        obtain ⟨g4, x4⟩ := cp_step g x nl hes
        refine ⟨_, (x.ow.own nl).h, by rw [List.length_map]; have := okB.len; exact lt_size (by omega), ?_⟩
        have e1 : rs.map V.ref ++ [V.ref l] = (rs ++ [l]).map V.ref := by rw [List.map_append]; rfl
        rw [e1]
        refine ⟨rs ++ [l], ess ++ [es], g4, ?_⟩
        rw [List.take_add_one, hMi]
        exact x4
      · rintro G2 ⟨rs, ess, g, x⟩
        rw [hbv.1, List.take_length] at x
        exact q F3 G2 D rs ess g x
/-! ### copies -/
def sp_L_copy : Sp := fun vs H Q _ => ∃ (F : Hp) (m : V) (M : Mach), vs = [m] ∧ Same F H ∧ Is F m M ∧ M.length ≤ 100 ∧ ∀ (H' : Hp) (u : Addr) (rs : List Addr) (ess : List (List V)), Gr mu0 F H F H' → MaG H F H' u rs ess M → Q (.ref u) H'
theorem ok_L_copy (t : Tx K mg) : FnOk P w K mg base CX0 1 t.a_L_copy t.fd_L_copy ["_law_machine_here"] sp_L_copy := by
  refine t.F_L_copy.ok sc_L_copy (fun vs H Q E h => ?_) (fun cdv A outer s H vs Q E hr h => ?_)
  · obtain ⟨F, m, M, rfl, _⟩ := h
    rfl
  · obtain ⟨F, m, M, rfl, sF, hm, lM, q⟩ := h
    refine ⟨_, (pss_one (ps_ret (pe_lc (own := [("_law_entries", 1)]) (g := gName 1) (tt := tYes) rfl sc_L_copy.nd (pi_list (pv 0)) (blkOk_by (N := N_L_copy) (sc := defScope s_L_copy) (by decide +kernel)) (fun _ _ _ _ _ => (pg_name (i := 1) sc_L_copy.nd rfl (by first | exact Or.inl rfl | exact Or.inr rfl))) (fun _ _ _ _ _ => pts_nil) (fun _ _ _ _ _ => (pe_callTy (T := "list") (crK (K := K) (r := rListQ) rfl call_listQ) (by rfl) t.n_list (by decide +kernel) (pa_cons (pv 1) pa_nil)))))), ?_⟩
    have g3 : Gr mu0 F H F H := Gr.refl sF
    obtain ⟨bm, bv, rfl, hbm, hbv⟩ := hm
    refine ⟨_, rfl, bm, rfl, ⟨_, SqL.of (g3.fh _ _ hbm)⟩, fun D nD => lc_list (K := K) (a := bm) (xs := bv) (fun i G2 => ∃ (rs : List Addr) (ess : List (List V)), Gr mu0 F H F G2 ∧ MaG H F G2 D rs ess (M.take i))
      ⟨[], [], g3.own nD, ⟨Ow.mk1 g3 nD, List.nodup_nil, (fun z => nomatch z), rfl, fun i r es h _ => (by cases h), All2.nil⟩⟩ (fun i G2 _ ⟨_, _, g, _⟩ => SqL.of (g.fh _ _ hbm)) ?_ ?_⟩
    · rintro i y G2 hi ⟨rs, ess, g, x⟩
      obtain ⟨row, hMi, ra, es, rfl, hra, hes⟩ := hbv.get' hi
      have il : i < M.length := (List.getElem?_eq_some_iff.mp hMi).1
      have lrs : rs.length ≤ i := by rw [x.len, x.dat.1, List.length_take]; omega
      refine ⟨rfl, yes ⟨_, rfl, ra, es, rfl, .inl (SqL.of (g.fh _ _ hra)), fun l nl => ?_⟩⟩
      obtain ⟨g4, x4⟩ := cp_step g x nl hes
      refine ⟨_, (x.ow.own nl).h, by rw [List.length_map]; exact lt_size (by omega), ?_⟩
      have e1 : rs.map V.ref ++ [V.ref l] = (rs ++ [l]).map V.ref := by rw [List.map_append]; rfl
      rw [e1]
      refine ⟨rs ++ [l], ess ++ [es], g4, ?_⟩
      rw [List.take_add_one, hMi]
      exact x4
    · rintro G2 ⟨rs, ess, g, x⟩
      rw [hbv.1, List.take_length] at x
      exact q G2 D rs ess g x
/-! ### plain things in the heap; small rules -/
theorem gr_same {F H H1 : Hp} (f : Same F H) (s : Same H H1) : Gr mu0 F H F H1 := ⟨fun _ _ h => h, fun c o h => s _ _ (f _ _ h), fun _ _ h => .inl h, fun c o h _ => s _ _ h, fun c h => s.free h⟩
theorem gr_up {F H F1 H1 : Hp} (g : Gr mu0 F H F1 H1) : Same H H1 := fun c o h => g.fr c o h (fun z => z)
theorem MaG.isH {α : Type} [Dat α] {H F1 H1 : Hp} {m : Addr} {rs : List Addr} {ess : List (List V)} {M : List (List α)} (x : MaG H F1 H1 m rs ess M) (s : Same F1 H1) : Is H1 (.ref m) M := by
  refine ⟨m, _, rfl, x.ow.h, ?_, fun i v row h k => ?_⟩
  · rw [List.length_map, x.len, x.dat.1]
  · rw [List.getElem?_map] at h
    obtain ⟨r, hr, rfl⟩ := Option.map_eq_some_iff.mp h
    obtain ⟨r', es, h1, h2, w, al⟩ := x.at k
    rw [hr] at h1
    cases h1
    exact ⟨r, es, rfl, w.h, IsAll.up al s⟩
theorem pl_ent {F : Hp} {v : V} {e : Ent} (h : Is F v e) : Pl F 1 v := by
  obtain ⟨a, rfl, ha⟩ := h
  cases e with
  | emp => exact .inr ⟨a, _, rfl, .inr ha, fun x m => nomatch m⟩
  | go p w r => exact .inr ⟨a, _, rfl, .inr ha, fun x m => by
      simp only [List.mem_cons, List.not_mem_nil, or_false] at m
      rcases m with rfl | rfl | rfl <;> exact .inl ⟨_, rfl⟩⟩
theorem Pl.next {F : Hp} : ∀ {n : Nat} {v : V}, Pl F n v → Pl F (n + 1) v
  | 0, _, h => .inl h
  | n + 1, _, .inl h => .inl h
  | n + 1, _, .inr ⟨a, xs, e, h, k⟩ => .inr ⟨a, xs, e, h, fun x m => (k x m).next⟩
theorem pl_all {F : Hp} {α : Type} [Dat α] {n : Nat} (k : ∀ (v : V) (d : α), Is F v d → Pl F n v) {v : V} {l : List α} (h : Is F v l) : Pl F (n + 1) v := by
  obtain ⟨a, xs, rfl, ha, al⟩ := h
  refine .inr ⟨a, xs, rfl, .inl ha, fun x m => ?_⟩
  obtain ⟨i, hi⟩ := List.getElem?_of_mem m
  obtain ⟨d, _, hd⟩ := al.get' hi
  exact k x d hd
theorem pl_mach {F : Hp} {v : V} {M : Mach} (h : Is F v M) : Pl F 5 v := (pl_all (n := 2) (fun v r h => pl_all (n := 1) (fun v e h => pl_ent h) h) h).next.next
theorem cut_neg1 {xs : List V} {y : V} : cutV (xs ++ [y]) none (some (-1)) = xs := by
  unfold cutV
  have e1 : HT.sIx (xs ++ [y]).length 0 none = 0 := rfl
  have e2 : HT.sIx (xs ++ [y]).length (xs ++ [y]).length (some (-1)) = xs.length := by
    simp only [HT.sIx, List.length_append]
    rw [if_pos (by decide)]
    show ((-1 : Int) + ((xs.length + 1 : Nat) : Int)).toNat = xs.length
    omega
  rw [e1, e2, List.drop_zero, Nat.sub_zero, List.take_left']
  rfl
theorem eq_app {α : Type} {xs ys : List α} (n : Nat) (l : xs.length = n) (l' : ys.length = n) (h : ∀ (i : Nat) (x : α), xs[i]? = some x → ys[i]? = some x) : xs = ys := by
  refine List.ext_getElem? fun i => ?_
  by_cases c : i < n
  · have e : xs[i]? = some _ := List.getElem?_eq_getElem (by omega)
    rw [e, h i _ e]
  · rw [List.getElem?_eq_none (by omega), List.getElem?_eq_none (by omega)]
theorem idx_set {xs : List V} {k : Nat} {n : Int} (h : n = (k : Int)) (l : k < xs.length) : ixN xs.length n = some k := by
  subst h
  unfold ixN
  rw [if_pos (by omega), if_pos (by omega), Int.toNat_natCast]
theorem take_end {α : Type} {xs : List α} {n : Nat} {x : α} (l : xs.length = n + 1) (h : xs[n]? = some x) : xs = xs.take n ++ [x] := by
  have e := List.take_add_one (l := xs) (i := n)
  rw [h, List.take_of_length_le (by omega)] at e
  exact e
/-! ### an order -/
structure Ord (n : Nat) (r : List Int) : Prop where
  len : r.length = n
  lt : ∀ x ∈ r, 0 ≤ x ∧ x < (n : Int)
  nd : r.Nodup
  z : r[0]? = some 0
def rl (r : List Int) (x : Int) : Int := (r[x.toNat]?).getD 0
section
variable {n : Nat} {r : List Int}
theorem Ord.at (h : Ord n r) {x : Int} (x0 : 0 ≤ x) (x1 : x < n) : r[x.toNat]? = some (rl r x) := by
  have l : x.toNat < r.length := by rw [h.len]; omega
  unfold rl
  rw [List.getElem?_eq_getElem l]; rfl
theorem Ord.fl (h : Ord n r) (x : Int) (x0 : 0 ≤ x) (x1 : x < n) : 0 ≤ rl r x ∧ rl r x < n := h.lt _ (List.mem_of_getElem? (h.at x0 x1))
theorem Ord.fi (h : Ord n r) (x y : Int) (x0 : 0 ≤ x) (x1 : x < n) (y0 : 0 ≤ y) (y1 : y < n) (e : rl r x = rl r y) : x = y := by
  have lx : x.toNat < r.length := by rw [h.len]; omega
  have ly : y.toNat < r.length := by rw [h.len]; omega
  have ex := h.at x0 x1
  have ey := h.at y0 y1
  rw [List.getElem?_eq_getElem lx] at ex
  rw [List.getElem?_eq_getElem ly] at ey
  have e3 : r[x.toNat] = r[y.toNat] := by rw [Option.some.inj ex, Option.some.inj ey, e]
  rcases Nat.lt_trichotomy x.toNat y.toNat with l | l | l
  · exact absurd e3 (List.pairwise_iff_getElem.mp h.nd _ _ lx ly l)
  · omega
  · exact absurd e3.symm (List.pairwise_iff_getElem.mp h.nd _ _ ly lx l)
theorem Ord.f0 (h : Ord n r) : rl r 0 = 0 := by
  unfold rl
  rw [show (0 : Int).toNat = 0 from rfl, h.z]; rfl
end
theorem seq_ix {i : Int} {n : Nat} (h0 : 0 ≤ i) (h1 : i < n) : seqIndex? i n = some i.toNat := by
  unfold seqIndex?
  simp only [show ¬ (i < 0) from by omega, if_false, h0, h1, decide_true, Bool.and_self, if_true]
def sp_L_order : Sp := fun vs H Q _ => ∃ (F : Hp) (p : Addr) (n : Nat) (a b : Int), vs = [.ref p, .int n] ∧ Same F H ∧ F p = none ∧ H p = some (PurseO a b) ∧ 0 ≤ a ∧ 0 ≤ b ∧ 1 ≤ n ∧ n ≤ 4 ∧
  ∀ (F' H' : Hp) (c : Addr) (r : List Int) (a' b' : Int), Gr (muP p) F H F' H' → H' p = some (PurseO a' b') → 0 ≤ a' → 0 ≤ b' → F' c = some (.lst (r.map V.int)) → Ord n r → Q (.ref c) H'
theorem ok_L_order (t : Tx K mg) : FnOk P w K mg base CX0 2 t.a_L_order t.fd_L_order ["_law_purse_here", "_law_many"] sp_L_order := by
  refine t.F_L_order.ok sc_L_order (fun vs H Q E h => ?_) (fun cdv A outer s H vs Q E hr h => ?_)
  · obtain ⟨F, p, n, a, b, rfl, _⟩ := h
    rfl
  · obtain ⟨F, p, n, a, b, rfl, sF, fp, hp, ha, hb, n1, n4, q⟩ := h
    refine ⟨_, (pss_cons (ps_set (i := 2) sc_L_order.nd rfl (by first | exact Or.inl rfl | exact Or.inr rfl) (pe_listRg rfl (by rfl) t.n_list (prg_2 (by rfl) t.n_range pe_int (pv 1))))
      (pss_cons (ps_set (i := 3) sc_L_order.nd rfl (by first | exact Or.inl rfl | exact Or.inr rfl) (pe_lst (pa_cons pe_int pa_nil)))
      (pss_cons (ps_for PassesOwn.never rfl (pi_range2 (by rfl) t.n_range (pa_cons pe_int (pa_cons (pv 1) pa_nil))) (pg_name (i := 4) sc_L_order.nd rfl (by first | exact Or.inl rfl | exact Or.inr rfl)) (pss_one (ps_expr (pe_bm PySem.F.plainAttrs_list PySem.F.slot_list_append PySem.F.type_list_append mt_append (pv 3) (pa_cons (pe_bm PySem.F.plainAttrs_list PySem.F.slot_list_pop PySem.F.type_list_pop mt_popAt (pv 2) (pa_cons (pe_call (ok_L_draw t) (hr.mono (by decide)) (by rfl) t.m_L_draw t.F_L_draw.kp t.b_L_draw .nil pass0 (pa_cons (pv 0) (pa_cons (pe_callB (id := "len") call_lenQ (by rfl) t.n_len (by decide +kernel) (pa_cons (pv 2) pa_nil)) pa_nil))) pa_nil)) pa_nil)))))
      (pss_one (ps_ret (pv 3)))))), ?_⟩
    have g0 : Gr (muP p) F H F H := Gr.refl sF
    have e0 : rgV 1 n = (((List.range (n - 1)).map fun i : Nat => (1 : Int) + (i : Int))).map V.int := by
      unfold rgV
      rw [List.map_map, show ((n : Int) - 1).toNat = n - 1 by omega]; rfl
    refine ⟨_, rfl, 1, n, rfl, rfl, ⟨by decide, by decide, by omega, by omega, by omega⟩, fun L nL => ?_⟩
    rw [e0]
    have pL := ne_of_none hp nL
    have nd0 : ((List.range (n - 1)).map fun i : Nat => (1 : Int) + (i : Int)).Nodup := List.pairwise_map.mpr (List.nodup_range.imp fun {x y} h e => h (by omega))
    have lt0 : ∀ x ∈ ((List.range (n - 1)).map fun i : Nat => (1 : Int) + (i : Int)), 1 ≤ x ∧ x < (n : Int) := fun x m => by
      obtain ⟨i, hi, rfl⟩ := List.mem_map.mp m
      have := List.mem_range.mp hi
      omega
    have ll0 : ((List.range (n - 1)).map fun i : Nat => (1 : Int) + (i : Int)).length = n - 1 := by rw [List.length_map, List.length_range]
    generalize ((List.range (n - 1)).map fun i : Nat => (1 : Int) + (i : Int)) = ls at nd0 lt0 ll0 ⊢
    have g1 := g0.own (o := .lst (ls.map V.int)) nL
    have wL : Ow H F (upd H L (.lst (ls.map V.int))) L (.lst (ls.map V.int)) := Ow.mk1 g0 nL
    have hp1 := ln (u := .lst (ls.map V.int)) nL hp
    generalize upd H L (.lst (ls.map V.int)) = H1 at g1 wL hp1 ⊢
    refine ⟨one_le, fun D nD => ?_⟩
    have pD := ne_of_none hp1 nD
    have LD := wL.ne nD
    have g2 := g1.own (o := .lst [.int 0]) nD
    have wL2 := wL.own (u := .lst [.int 0]) nD
    have wD : Ow H F (upd H1 D (.lst [.int 0])) D (.lst (([0] : List Int).map V.int)) := Ow.mk1 g1 nD
    have hp2 := ln (u := .lst [.int 0]) nD hp1
    generalize upd H1 D (.lst [.int 0]) = H2 at g2 wL2 wD hp2 ⊢
    refine ⟨_, rfl, 1, n, rfl, ⟨by decide, by decide, by omega, by omega⟩, for_range (lo := 1) (n := ((n : Int) - 1).toNat) (fun i σ G => ∃ (xs rs : List Int) (a1 b1 : Int) (v4 : Option V), σ = [some (.ref p), some (.int n), some (.ref L), some (.ref D), v4] ∧ Gr (muP p) F H F G ∧ G p = some (PurseO a1 b1) ∧ 0 ≤ a1 ∧ 0 ≤ b1 ∧ Ow H F G L (.lst (xs.map V.int)) ∧ Ow H F G D (.lst (rs.map V.int)) ∧ xs.length + i = n - 1 ∧ rs.length = i + 1 ∧ (rs ++ xs).Nodup ∧ rs[0]? = some 0 ∧ ∀ x ∈ rs ++ xs, 0 ≤ x ∧ x < (n : Int))
      ⟨ls, [0], a, b, none, rfl, g2, hp2, ha, hb, wL2, wD, by omega, rfl, ?_, rfl, fun x m => ?_⟩ ?_ ?_⟩
    · rw [List.singleton_append, List.nodup_cons]
      exact ⟨fun m => by have := lt0 _ m; omega, nd0⟩
    · rw [List.singleton_append] at m
      rcases List.mem_cons.mp m with rfl | m
      · omega
      · have := lt0 x m; omega
    · rintro i σ G hi ⟨xs, rs, a1, b1, v4, rfl, g, hpG, ha1, hb1, w, wR, lx, lr, nd, r0, hx⟩
      have hi : i < n - 1 := by omega
      refine ⟨_, rfl, .inl ⟨rfl, _, SqL.of wR.h⟩, _, rfl, .inl ⟨rfl, _, SqL.of w.h⟩, _, rfl, _, rfl, L, xs.map V.int, rfl, .inl (SqL.of w.h), ?_⟩
      dsimp only
      rw [List.length_map]
      refine ⟨p, a1, b1, (xs.length : Int), rfl, hpG, ha1, hb1, by omega, by omega, fun d a2 b2 d0 d1 ha2 hb2 => ?_⟩
      have g3 := g.set (o := PurseO a2 b2) fp (.inr rfl)
      have w3 := w.other (u := PurseO a2 b2) (Ne.symm pL)
      have wR3 := wR.other (u := PurseO a2 b2) (Ne.symm pD)
      have hp3 : (upd G p (PurseO a2 b2)) p = some (PurseO a2 b2) := upd_same
      generalize upd G p (PurseO a2 b2) = G3 at g3 w3 wR3 hp3 ⊢
      have dl : d.toNat < xs.length := by omega
      refine ⟨L, xs.map V.int, d, d.toNat, .int (xs[d.toNat]'dl), rfl, rfl, w3.h, by omega, by omega, by rw [List.length_map]; exact seq_ix d0 d1, by rw [List.getElem?_map, List.getElem?_eq_getElem dl]; rfl, ?_⟩
      have eE : (xs.map V.int).eraseIdx d.toNat = (xs.eraseIdx d.toNat).map V.int := by
        rw [List.eraseIdx_eq_take_drop_succ, List.eraseIdx_eq_take_drop_succ, List.map_append, List.map_take, List.map_drop]
      rw [eE]
      have g4 := g3.set (o := .lst ((xs.eraseIdx d.toNat).map V.int)) w3.f (.inl w3.n)
      have w4 := w3.set (u := .lst ((xs.eraseIdx d.toNat).map V.int))
      have wR4 := wR3.other (u := .lst ((xs.eraseIdx d.toNat).map V.int)) (Ne.symm LD)
      have hp4 := (upd_ne (o := .lst ((xs.eraseIdx d.toNat).map V.int)) pL).trans hp3
      generalize upd G3 L (.lst ((xs.eraseIdx d.toNat).map V.int)) = G4 at g4 w4 wR4 hp4 ⊢
      refine ⟨D, _, _, rfl, rfl, wR4.h, by rw [List.length_map]; exact lt_size (by omega), ?_⟩
      have pm : (rs ++ [xs[d.toNat]'dl] ++ xs.eraseIdx d.toNat).Perm (rs ++ xs) := by
        rw [List.append_assoc]
        refine List.Perm.append_left rs ?_
        have e : xs = xs.take d.toNat ++ xs[d.toNat]'dl :: xs.drop (d.toNat + 1) := by
          rw [← List.drop_eq_getElem_cons dl, List.take_append_drop]
        rw [List.eraseIdx_eq_take_drop_succ]
        have z : (xs.take d.toNat ++ xs[d.toNat]'dl :: xs.drop (d.toNat + 1)).Perm (xs[d.toNat]'dl :: (xs.take d.toNat ++ xs.drop (d.toNat + 1))) := List.perm_middle
        rw [← e] at z
        exact z.symm
      refine ⟨xs.eraseIdx d.toNat, rs ++ [xs[d.toNat]'dl], a2, b2, _, rfl, g4.set wR4.f (.inl wR4.n), (upd_ne pD).trans hp4, ha2, hb2, w4.other LD, by rw [List.map_append]; exact wR4.set, by rw [List.length_eraseIdx_of_lt dl]; omega, by rw [List.length_append, lr]; rfl, pm.nodup_iff.mpr nd, by rw [List.getElem?_append_left (by omega)]; exact r0, fun x m => hx x (pm.mem_iff.mp m)⟩
    · rintro σ G ⟨xs, rs, a1, b1, v4, rfl, g, hpG, ha1, hb1, w, wR, lx, lr, nd, r0, hx⟩
      have lx : xs = [] := List.length_eq_zero_iff.mp (by omega)
      subst lx
      rw [List.append_nil] at nd hx
      have g5 := g.frz wR.h wR.n wR.f
      refine ⟨_, rfl, ?_⟩
      exact q _ _ D rs a1 b1 g5 hpG ha1 hb1 upd_same ⟨by omega, hx, nd, r0⟩
/-! ### a machine like another one -/
theorem Ord.ok {n : Nat} {r : List Int} (h : Ord n r) : OrdOk n r := by
  refine ⟨h.len, h.lt, fun k hk => ?_⟩
  have hk := List.mem_range.mp hk
  by_cases m : (k : Int) ∈ r
  · exact m
  · exfalso
    have nd : ((k : Int) :: r).Nodup := List.nodup_cons.mpr ⟨m, h.nd⟩
    have := nd.length_le_of_subset (l₂ := (List.range n).map fun i : Nat => (i : Int)) fun x j => by
      have b : 0 ≤ x ∧ x < (n : Int) := by
        rcases List.mem_cons.mp j with rfl | j
        · omega
        · exact h.lt x j
      exact List.mem_map.mpr ⟨x.toNat, List.mem_range.mpr (by omega), by omega⟩
    rw [List.length_cons, List.length_map, List.length_range, h.len] at this
    omega
def sp_L_like : Sp := fun vs H Q _ => ∃ (F : Hp) (p : Addr) (a b : Int) (m : V) (M : Mach) (R S : Nat), vs = [.ref p, m] ∧ Same F H ∧ F p = none ∧ H p = some (PurseO a b) ∧ 0 ≤ a ∧ 0 ≤ b ∧ Is F m M ∧ MOk M R S ∧
  ∀ (F' H' : Hp) (v : V) (N : Mach) (a' b' : Int), Gr (muP p) F H F' H' → H' p = some (PurseO a' b') → 0 ≤ a' → 0 ≤ b' → Is F' v N → MOk N R S → Q v H'
theorem ok_L_like (t : Tx K mg) : FnOk P w K mg base CX0 3 t.a_L_like t.fd_L_like ["_law_purse_here", "_law_machine_here"] sp_L_like := by
  refine t.F_L_like.ok sc_L_like (fun vs H Q E h => ?_) (fun cdv A outer s H vs Q E hr h => ?_)
  · obtain ⟨F, p, a, b, m, M, R, S, rfl, _⟩ := h
    rfl
  · obtain ⟨F, p, a, b, m, M, R, S, rfl, sF, fp, hp, ha, hb, hm, hM, q⟩ := h
    refine ⟨_, (pss_cons (ps_set (i := 2) sc_L_like.nd rfl (by first | exact Or.inl rfl | exact Or.inr rfl) (pe_call (ok_L_order t) (hr.mono (by decide)) (by rfl) t.m_L_order t.F_L_order.kp t.b_L_order .nil pass0 (pa_cons (pv 0) (pa_cons (pe_callB (id := "len") call_lenQ (by rfl) t.n_len (by decide +kernel) (pa_cons (pv 1) pa_nil)) pa_nil))))
      (pss_cons (ps_set (i := 3) sc_L_like.nd rfl (by first | exact Or.inl rfl | exact Or.inr rfl) (pe_call (ok_L_order t) (hr.mono (by decide)) (by rfl) t.m_L_order t.F_L_order.kp t.b_L_order .nil pass0 (pa_cons (pv 0) (pa_cons (pe_callB (id := "len") call_lenQ (by rfl) t.n_len (by decide +kernel) (pa_cons (pe_ix ix_list (pv 1) pe_int (fun _ _ => rfl)) pa_nil)) pa_nil))))
      (pss_one (ps_ret (pe_call (ok_L_named t) (hr.mono (by decide)) (by rfl) t.m_L_named t.F_L_named.kp t.b_L_named .nil pass0 (pa_cons (pv 1) (pa_cons (pv 2) (pa_cons (pv 3) (pa_cons (pe_op op_sub (pe_op op_mul pe_int (pe_call (ok_L_draw t) (hr.mono (by decide)) (by rfl) t.m_L_draw t.F_L_draw.kp t.b_L_draw .nil pass0 (pa_cons (pv 0) (pa_cons pe_int pa_nil)))) pe_int) pa_nil))))))))), ?_⟩
    have g0 : Gr (muP p) F H F H := Gr.refl sF
    obtain ⟨am, rv, rfl, ham, hrv⟩ := id hm
    have r1 := hM.r1
    have r4 := hM.r4
    have s2 := hM.s2
    have s4 := hM.s4
    have lr : rv.length = R := hrv.1.trans hM.len
    have hM0 : M[0]? = some (M[0]'(by rw [hM.len]; omega)) := List.getElem?_eq_getElem _
    generalize M[0]'(by rw [hM.len]; omega) = row0 at hM0
    obtain ⟨_, hx0, ra0, re0, rfl, hra0, hre0⟩ := hrv.get hM0
    have lre : re0.length = S := hre0.1.trans (hM.row row0 (List.mem_of_getElem? hM0))
    refine ⟨_, rfl, _, rfl, am, rv, rfl, .inl (SqL.of (sF _ _ ham)), F, p, R, a, b, congrArg (fun n : Nat => [V.ref p, V.int n]) lr, sF, fp, hp, ha, hb, r1, r4, fun F1 H1 c1 rs a1 b1 g1 hp1 ha1 hb1 hc1 o1 => ?_⟩
    refine ⟨_, rfl, _, rfl, am, rv, _, _, rfl, rfl, SqL.of (g1.fh _ _ (g1.ff _ _ ham)), atI_nat (j := 0) hx0, ra0, re0, rfl, .inl (SqL.of (g1.fh _ _ (g1.ff _ _ hra0))), F1, p, S, a1, b1, congrArg (fun n : Nat => [V.ref p, V.int n]) lre, g1.fh, g1.pf fp hp, hp1, ha1, hb1, by omega, s4, fun F2 H2 c2 ss a2 b2 g2 hp2 ha2 hb2 hc2 o2 => ?_⟩
    have t2 := g1.trans g2
    refine ⟨_, rfl, _, rfl, _, rfl, _, rfl, p, a2, b2, 2, rfl, hp2, ha2, hb2, by decide, by decide, fun d a3 b3 d0 d1 ha3 hb3 => ⟨_, _, rfl, rfl, .inl ⟨by decide, by decide⟩, _, _, rfl, rfl, ?_⟩⟩
    obtain ⟨t3, k3⟩ := t2.drw (a := a3) (b := b3) fp hp
    have hp3 : (upd H2 p (PurseO a3 b3)) p = some (PurseO a3 b3) := upd_same
    generalize upd H2 p (PurseO a3 b3) = H3 at t3 hp3 ⊢
    have irs : Is F2 (.ref c1) rs := ⟨c1, _, rfl, g2.ff _ _ hc1, intsA rs⟩
    have iss : Is F2 (.ref c2) ss := ⟨c2, _, rfl, hc2, intsA ss⟩
    have fin : ∀ tb : Bool, 2 * d - 1 = sideI tb → (∃ (F : Hp) (m : V) (ra sa : Addr) (M : Mach) (R S : Nat) (rs ss : List Int) (tb : Bool), [V.ref am, .ref c1, .ref c2, .int (2 * d - 1)] = [m, .ref ra, .ref sa, .int (sideI tb)] ∧ Same F H3 ∧ Is F m M ∧ MOk M R S ∧ Is F (.ref ra) rs ∧ Is F (.ref sa) ss ∧ OrdOk R rs ∧ OrdOk S ss ∧ ∀ (F' H' : Hp) (v : V), Gr mu0 F H3 F' H' → Is F' v (nmM M rs ss tb) → Q v H') := fun tb e =>
      ⟨F2, .ref am, c1, c2, M, R, S, rs, ss, tb, by rw [e], t3.fh, hm.up t2.ff, hM, irs, iss, o1.ok, o2.ok, fun F4 H4 v g4 i4 => q F4 H4 v _ a3 b3 (t3.trans g4.of0) (g4.fr _ _ hp3 (fun z => z)) ha3 hb3 i4 (nm_ok hM o1.ok o2.ok tb)⟩
    rcases (by omega : d = 0 ∨ d = 1) with rfl | rfl
    · exact fin true rfl
    · exact fin false rfl
/-! ### the next machine -/
def sp_L_next : Sp := fun vs H Q _ => ∃ (F : Hp) (p : Addr) (a b : Int) (l : Addr) (xs : List V) (Ms : List Mach), vs = [.ref p, .ref l] ∧ Same F H ∧ F p = none ∧ H p = some (PurseO a b) ∧ 0 ≤ a ∧ 0 ≤ b ∧ l ≠ p ∧ H l = some (.lst xs) ∧ IsAll F xs Ms ∧ xs.length ≤ 30 ∧ (∀ M ∈ Ms, ∃ R S, MOk M R S) ∧
  ∀ (F' H' : Hp) (v : V) (N : Mach) (R S : Nat) (a' b' : Int), Gr (muP p) F H F' H' → H' p = some (PurseO a' b') → 0 ≤ a' → 0 ≤ b' → Is F' v N → MOk N R S → Q v H'
theorem ok_L_next (t : Tx K mg) : FnOk P w K mg base CX0 4 t.a_L_next t.fd_L_next ["_law_purse_here", "_law_machines"] sp_L_next := by
  refine t.F_L_next.ok sc_L_next (fun vs H Q E h => ?_) (fun cdv A outer s H vs Q E hr h => ?_)
  · obtain ⟨F, p, a, b, l, xs, Ms, rfl, _⟩ := h
    rfl
  · obtain ⟨F, p, a, b, l, xs, Ms, rfl, sF, fp, hp, ha, hb, lp, hl, alx, lx, hMs, q⟩ := h
    refine ⟨_, (pss_cons (ps_set (i := 2) sc_L_next.nd rfl (by first | exact Or.inl rfl | exact Or.inr rfl) (pe_call (ok_L_draw t) (hr.mono (by decide)) (by rfl) t.m_L_draw t.F_L_draw.kp t.b_L_draw .nil pass0 (pa_cons (pv 0) (pa_cons pe_int pa_nil))))
      (pss_cons (ps_if (PW.pt (pw_or (pt_cmpR op_eq (pv 2) pe_int (nomark _)) (pw_or1 (pt_cmpR op_eq (pe_callB (id := "len") call_lenQ (by rfl) t.n_len (by decide +kernel) (pa_cons (pv 1) pa_nil)) pe_int (nomark _))))) (pss_one (ps_ret (pe_call (ok_L_machine t) (hr.mono (by decide)) (by rfl) t.m_L_machine t.F_L_machine.kp t.b_L_machine .nil pass0 (pa_cons (pv 0) (pa_cons (pe_op op_add pe_int (pe_call (ok_L_draw t) (hr.mono (by decide)) (by rfl) t.m_L_draw t.F_L_draw.kp t.b_L_draw .nil pass0 (pa_cons (pv 0) (pa_cons pe_int pa_nil)))) (pa_cons (pe_op op_add pe_int (pe_call (ok_L_draw t) (hr.mono (by decide)) (by rfl) t.m_L_draw t.F_L_draw.kp t.b_L_draw .nil pass0 (pa_cons (pv 0) (pa_cons pe_int pa_nil)))) pa_nil)))))) pss_nil)
      (pss_cons (ps_set (i := 3) sc_L_next.nd rfl (by first | exact Or.inl rfl | exact Or.inr rfl) (pe_call (ok_L_copy t) (hr.mono (by decide)) (by rfl) t.m_L_copy t.F_L_copy.kp t.b_L_copy .nil pass0 (pa_cons (pe_ix ix_list (pv 1) (pe_call (ok_L_draw t) (hr.mono (by decide)) (by rfl) t.m_L_draw t.F_L_draw.kp t.b_L_draw .nil pass0 (pa_cons (pv 0) (pa_cons (pe_callB (id := "len") call_lenQ (by rfl) t.n_len (by decide +kernel) (pa_cons (pv 1) pa_nil)) pa_nil))) (fun _ _ => rfl)) pa_nil)))
      (pss_cons (ps_if (pt_cmpR op_eq (pv 2) pe_int (nomark _)) (pss_cons (ps_set (i := 4) sc_L_next.nd rfl (by first | exact Or.inl rfl | exact Or.inr rfl) (pe_call (ok_L_draw t) (hr.mono (by decide)) (by rfl) t.m_L_draw t.F_L_draw.kp t.b_L_draw .nil pass0 (pa_cons (pv 0) (pa_cons (pe_callB (id := "len") call_lenQ (by rfl) t.n_len (by decide +kernel) (pa_cons (pv 3) pa_nil)) pa_nil))))
      (pss_cons (ps_set (i := 5) sc_L_next.nd rfl (by first | exact Or.inl rfl | exact Or.inr rfl) (pe_call (ok_L_draw t) (hr.mono (by decide)) (by rfl) t.m_L_draw t.F_L_draw.kp t.b_L_draw .nil pass0 (pa_cons (pv 0) (pa_cons (pe_callB (id := "len") call_lenQ (by rfl) t.n_len (by decide +kernel) (pa_cons (pe_ix ix_list (pv 3) pe_int (fun _ _ => rfl)) pa_nil)) pa_nil))))
      (pss_one (ps_asg (pe_ix ix_list (pe_lst (pa_cons (pe_tup pa_nil) (pa_cons (pe_tup (pa_cons pe_int (pa_cons pe_int (pa_cons pe_int pa_nil)))) (pa_cons (pe_tup (pa_cons pe_int (pa_cons (pe_un un_neg pe_int) (pa_cons (pv 4) pa_nil)))) pa_nil)))) (pe_call (ok_L_draw t) (hr.mono (by decide)) (by rfl) t.m_L_draw t.F_L_draw.kp t.b_L_draw .nil pass0 (pa_cons (pv 0) (pa_cons pe_int pa_nil))) (fun _ _ => rfl)) (pg_sub (pe_ix ix_list (pv 3) (pv 4) (fun _ _ => rfl)) (pv 5) set_list))))) pss_nil)
      (pss_one (ps_ret (pe_call (ok_L_like t) (hr.mono (by decide)) (by rfl) t.m_L_like t.F_L_like.kp t.b_L_like .nil pass0 (pa_cons (pv 0) (pa_cons (pv 3) pa_nil))))))))), ?_⟩
    have g0 : Gr (muP p) F H F H := Gr.refl sF
    refine ⟨_, rfl, p, a, b, 4, rfl, hp, ha, hb, by decide, by decide, fun d1 a1 b1 d10 d11 ha1 hb1 => ?_⟩
    obtain ⟨g1, _⟩ := g0.drw (a := a1) (b := b1) fp hp
    have hp1 : (upd H p (PurseO a1 b1)) p = some (PurseO a1 b1) := upd_same
    have hl1 : (upd H p (PurseO a1 b1)) l = some (.lst xs) := (upd_ne lp).trans hl
    generalize upd H p (PurseO a1 b1) = H1 at g1 hp1 hl1 ⊢
    refine ⟨_, rfl, rfl, _, rfl, ite2 (fun c => ?A) (fun c => ⟨_, rfl, l, xs, rfl, .inl (SqL.of hl1), rfl, _, rfl, ite2 (fun c2 => ?B) (fun c2 => ?C)⟩)⟩
    case A =>
      refine ⟨_, rfl, _, rfl, p, a1, b1, 4, rfl, hp1, ha1, hb1, by decide, by decide, fun d2 a2 b2 d20 d21 ha2 hb2 => ⟨_, _, rfl, rfl, ?_⟩⟩
      obtain ⟨g2, _⟩ := g1.drw (a := a2) (b := b2) fp hp
      refine ⟨_, rfl, p, a2, b2, 3, rfl, upd_same, ha2, hb2, by decide, by decide, fun d3 a3 b3 d30 d31 ha3 hb3 => ⟨_, _, rfl, rfl, ?_⟩⟩
      obtain ⟨g3, _⟩ := g2.drw (a := a3) (b := b3) fp hp
      have hp3 : (upd (upd H1 p (PurseO a2 b2)) p (PurseO a3 b3)) p = some (PurseO a3 b3) := upd_same
      generalize upd (upd H1 p (PurseO a2 b2)) p (PurseO a3 b3) = H3 at g3 hp3 ⊢
      have eR : ((1 + d2).toNat : Int) = 1 + d2 := Int.toNat_of_nonneg (by omega)
      have eS : ((2 + d3).toNat : Int) = 2 + d3 := Int.toNat_of_nonneg (by omega)
      generalize hR : (1 + d2).toNat = R at eR
      generalize hS : (2 + d3).toNat = S at eS
      dsimp only
      rw [← eR, ← eS]
      exact ⟨F, p, a3, b3, R, S, rfl, g3.fh, fp, hp3, ha3, hb3, by omega, by omega, by omega, by omega, fun F4 H4 m M a4 b4 g4 hp4 ha4 hb4 hM im => q F4 H4 m M R S a4 b4 (g3.trans g4) hp4 ha4 hb4 im hM⟩
    case B =>
      refine ⟨_, rfl, _, rfl, p, a1, b1, 4, rfl, hp1, ha1, hb1, by decide, by decide, fun d2 a2 b2 d20 d21 ha2 hb2 => ⟨_, _, rfl, rfl, ?_⟩⟩
      obtain ⟨g2, _⟩ := g1.drw (a := a2) (b := b2) fp hp
      refine ⟨_, rfl, p, a2, b2, 3, rfl, upd_same, ha2, hb2, by decide, by decide, fun d3 a3 b3 d30 d31 ha3 hb3 => ⟨_, _, rfl, rfl, ?_⟩⟩
      obtain ⟨g3, _⟩ := g2.drw (a := a3) (b := b3) fp hp
      have hp3 : (upd (upd H1 p (PurseO a2 b2)) p (PurseO a3 b3)) p = some (PurseO a3 b3) := upd_same
      generalize upd (upd H1 p (PurseO a2 b2)) p (PurseO a3 b3) = H3 at g3 hp3 ⊢
      have eR : ((1 + d2).toNat : Int) = 1 + d2 := Int.toNat_of_nonneg (by omega)
      have eS : ((2 + d3).toNat : Int) = 2 + d3 := Int.toNat_of_nonneg (by omega)
      generalize hR : (1 + d2).toNat = R at eR
      generalize hS : (2 + d3).toNat = S at eS
      dsimp only
      rw [← eR, ← eS]
      exact ⟨F, p, a3, b3, R, S, rfl, g3.fh, fp, hp3, ha3, hb3, by omega, by omega, by omega, by omega, fun F4 H4 m M a4 b4 g4 hp4 ha4 hb4 hM im => q F4 H4 m M R S a4 b4 (g3.trans g4) hp4 ha4 hb4 im hM⟩
    case C =>
      have c2 : xs.length ≠ 0 := fun z => c2 (by rw [z]; rfl)
      refine ⟨_, rfl, _, rfl, _, rfl, l, xs, rfl, .inl (SqL.of hl1), p, a1, b1, _, rfl, hp1, ha1, hb1, by omega, by omega, fun d2 a2 b2 d20 d21 ha2 hb2 => ?_⟩
      obtain ⟨g2, _⟩ := g1.drw (a := a2) (b := b2) fp hp
      have hp2 : (upd H1 p (PurseO a2 b2)) p = some (PurseO a2 b2) := upd_same
      have hl2 : (upd H1 p (PurseO a2 b2)) l = some (.lst xs) := (upd_ne lp).trans hl1
      generalize upd H1 p (PurseO a2 b2) = H2 at g2 hp2 hl2 ⊢
      obtain ⟨k2, rfl⟩ : ∃ z : Nat, d2 = (z : Int) := Int.eq_ofNat_of_zero_le d20
      have hk2 : xs[k2]? = some (xs[k2]'(by omega)) := List.getElem?_eq_getElem _
      generalize xs[k2]'(by omega) = y at hk2
      obtain ⟨N, hN, iN⟩ := alx.get' hk2
      obtain ⟨R, S, okN⟩ := hMs N (List.mem_of_getElem? hN)
      have lN := okN.len
      have r1 := okN.r1
      have r4 := okN.r4
      have s2 := okN.s2
      have s4 := okN.s4
      refine ⟨l, _, _, _, rfl, rfl, SqL.of hl2, atI_nat hk2, F, y, N, rfl, g2.fh, iN, by omega, fun G1 hd rs ess k1 x => ?_⟩
      have g3 := g2.trans k1.of0
      have hp3 := k1.fr _ _ hp2 (fun z => z)
      have x0 : MaG H F G1 hd rs ess N := ⟨⟨g2.th _ x.ow.n, x.ow.f, x.ow.h⟩, x.nd, x.ne, x.len, fun i r es h1 h2 => ⟨g2.th _ (x.rows i r es h1 h2).n, (x.rows i r es h1 h2).f, (x.rows i r es h1 h2).h⟩, x.dat⟩
      clear x k1
      have fin : ∀ {F4 H4 : Hp} {N' : Mach} {a4 b4 : Int} {ess4 : List (List V)}, Gr (muP p) F H F4 H4 → H4 p = some (PurseO a4 b4) → 0 ≤ a4 → 0 ≤ b4 → MaG H F4 H4 hd rs ess4 N' → MOk N' R S →
          (∃ (F : Hp) (p' : Addr) (a b : Int) (m : V) (M : Mach) (R S : Nat), [V.ref p, .ref hd] = [.ref p', m] ∧ Same F H4 ∧ F p' = none ∧ H4 p' = some (PurseO a b) ∧ 0 ≤ a ∧ 0 ≤ b ∧ Is F m M ∧ MOk M R S ∧
            ∀ (F' H' : Hp) (v : V) (N : Mach) (a' b' : Int), Gr (muP p') F H4 F' H' → H' p' = some (PurseO a' b') → 0 ≤ a' → 0 ≤ b' → Is F' v N → MOk N R S → Q v H') := fun g4 hp4 ha4 hb4 x4 ok4 => by
        obtain ⟨F5, g5, _, i5, _, _⟩ := x4.frz g4
        exact ⟨F5, p, _, _, .ref hd, _, R, S, rfl, g5.fh, g5.pf fp hp, hp4, ha4, hb4, i5, ok4, fun F' H' v N a' b' g6 hp6 ha6 hb6 i6 ok6 => q F' H' v N R S a' b' (g5.trans g6) hp6 ha6 hb6 i6 ok6⟩
      refine ⟨_, rfl, rfl, _, rfl, ite2 (fun c3 => ?_) (fun c3 => ⟨_, rfl, _, rfl, fin g3 hp3 ha2 hb2 x0 okN⟩)⟩
      have lrs : (rs.map V.ref).length = R := by rw [List.length_map, x0.len, x0.dat.1, lN]
      refine ⟨_, rfl, _, rfl, hd, _, rfl, .inl (SqL.of x0.ow.h), p, a2, b2, _, rfl, hp3, ha2, hb2, by omega, by omega, fun d4 a4 b4 d40 d41 ha4 hb4 => ?_⟩
      obtain ⟨g4, k4⟩ := g3.drw (a := a4) (b := b4) fp hp
      have x4 := x0.gr k4 (x0.off hp)
      have hp4 : (upd G1 p (PurseO a4 b4)) p = some (PurseO a4 b4) := upd_same
      generalize upd G1 p (PurseO a4 b4) = G4 at g4 x4 hp4 ⊢
      obtain ⟨k, rfl⟩ : ∃ z : Nat, d4 = (z : Int) := Int.eq_ofNat_of_zero_le d40
      obtain ⟨rz, esz, rowz, hrz, hez, hwz, wz, alz, mz⟩ := x4.slot (i := 0) (by omega)
      have lez : esz.length = S := alz.1.trans (okN.row rowz (List.mem_of_getElem? hwz))
      refine ⟨_, rfl, _, rfl, hd, _, _, _, rfl, rfl, SqL.of x4.ow.h, atI_nat (j := 0) mz, rz, esz, rfl, .inl (SqL.of wz.h), p, a4, b4, _, rfl, hp4, ha4, hb4, by omega, by omega, fun d5 a5 b5 d50 d51 ha5 hb5 => ?_⟩
      obtain ⟨g5, k5⟩ := g4.drw (a := a5) (b := b5) fp hp
      have x5 := x4.gr k5 (x4.off hp)
      have hp5 : (upd G4 p (PurseO a5 b5)) p = some (PurseO a5 b5) := upd_same
      generalize upd G4 p (PurseO a5 b5) = G5 at g5 x5 hp5 ⊢
      obtain ⟨sp, rfl⟩ : ∃ z : Nat, d5 = (z : Int) := Int.eq_ofNat_of_zero_le d50
      obtain ⟨r0, es0, row0, hr0, he0, hw0, w0, al0, m0⟩ := x5.slot (i := k) (by omega)
      have les : es0.length = S := al0.1.trans (okN.row row0 (List.mem_of_getElem? hw0))
      refine ⟨nil_le, fun t1 n1 => ?_⟩
      obtain ⟨F6, g6, h6, s6, c6⟩ : ∃ F6, Gr (muP p) F H F6 (upd G5 t1 (.tup [])) ∧ F6 t1 = some (.tup []) ∧ Same F F6 ∧ Gr mu0 F G5 F6 (upd G5 t1 (.tup [])) := ⟨_, g5.new n1, upd_same, sm_new (Same.refl F) (g5.fh.free n1), (Gr.refl (mu := mu0) g5.fh).new n1⟩
      have x6 := x5.gr c6 (fun c z => z.elim)
      have hp6 := c6.fr _ _ hp5 (fun z => z)
      have j6 : Is F6 (.ref t1) Ent.emp := ⟨t1, rfl, h6⟩
      generalize upd G5 t1 (.tup []) = G6 at g6 x6 c6 hp6 ⊢
      refine ⟨three_le, fun t2 n2 => ?_⟩
      obtain ⟨F7, g7, h7, s7, c7⟩ : ∃ F7, Gr (muP p) F H F7 (upd G6 t2 (.tup [.int 0, .int 1, .int 0])) ∧ F7 t2 = some (.tup [.int 0, .int 1, .int 0]) ∧ Same F6 F7 ∧ Gr mu0 F6 G6 F7 (upd G6 t2 (.tup [.int 0, .int 1, .int 0])) := ⟨_, g6.new n2, upd_same, sm_new (Same.refl F6) (g6.fh.free n2), (Gr.refl (mu := mu0) g6.fh).new n2⟩
      have x7 := x6.gr c7 (fun c z => z.elim)
      have hp7 := c7.fr _ _ hp6 (fun z => z)
      have j7 : Is F7 (.ref t2) (Ent.go 0 1 0) := ⟨t2, rfl, h7⟩
      have j6 := j6.up s7
      generalize upd G6 t2 (.tup [.int 0, .int 1, .int 0]) = G7 at g7 x7 c7 hp7 ⊢
      refine ⟨_, rfl, _, rfl, three_le, fun t3 n3 => ?_⟩
      obtain ⟨F8, g8, h8, s8, c8⟩ : ∃ F8, Gr (muP p) F H F8 (upd G7 t3 (.tup [.int 1, .int (-1), .int (k : Nat)])) ∧ F8 t3 = some (.tup [.int 1, .int (-1), .int (k : Nat)]) ∧ Same F7 F8 ∧ Gr mu0 F7 G7 F8 (upd G7 t3 (.tup [.int 1, .int (-1), .int (k : Nat)])) := ⟨_, g7.new n3, upd_same, sm_new (Same.refl F7) (g7.fh.free n3), (Gr.refl (mu := mu0) g7.fh).new n3⟩
      have x8 := x7.gr c8 (fun c z => z.elim)
      have hp8 := c8.fr _ _ hp7 (fun z => z)
      have j8 : Is F8 (.ref t3) (Ent.go 1 (-1) (k : Nat)) := ⟨t3, rfl, h8⟩
      have j6 := j6.up s8
      have j7 := j7.up s8
      generalize upd G7 t3 (.tup [.int 1, .int (-1), .int (k : Nat)]) = G8 at g8 x8 c8 hp8 ⊢
      refine ⟨three_le, fun L nL => ?_⟩
      have g9 := g8.own (o := .lst [.ref t1, .ref t2, .ref t3]) nL
      have x9 := x8.gr ((Gr.refl (mu := mu0) g8.fh).own (o := .lst [.ref t1, .ref t2, .ref t3]) nL) (fun c z => z.elim)
      have hp9 := ln (u := .lst [.ref t1, .ref t2, .ref t3]) nL hp8
      have hL9 : (upd G8 L (.lst [.ref t1, .ref t2, .ref t3])) L = some (.lst [.ref t1, .ref t2, .ref t3]) := upd_same
      have pL : L ≠ p := (ne_of_none hp8 nL).symm
      generalize upd G8 L (.lst [.ref t1, .ref t2, .ref t3]) = G9 at g9 x9 hp9 hL9 ⊢
      refine ⟨_, rfl, p, a5, b5, 3, rfl, hp9, ha5, hb5, by decide, by decide, fun d6 a6 b6 d60 d61 ha6 hb6 => ?_⟩
      obtain ⟨gA, kA⟩ := g9.drw (a := a6) (b := b6) fp hp
      have xA := x9.gr kA (x9.off hp)
      have hpA : (upd G9 p (PurseO a6 b6)) p = some (PurseO a6 b6) := upd_same
      have hLA : (upd G9 p (PurseO a6 b6)) L = some (.lst [.ref t1, .ref t2, .ref t3]) := (upd_ne pL).trans hL9
      generalize upd G9 p (PurseO a6 b6) = GA at gA xA hpA hLA ⊢
      obtain ⟨tv, e1, hat, ie1, oe1⟩ : ∃ (tv : V) (e1 : Ent), atI [V.ref t1, V.ref t2, V.ref t3] d6 = some tv ∧ Is F8 tv e1 ∧ EOk R S e1 := by
        rcases (by omega : d6 = 0 ∨ d6 = 1 ∨ d6 = 2) with rfl | rfl | rfl
        · exact ⟨_, _, rfl, j6, ⟨fun p w r z => by cases z⟩⟩
        · exact ⟨_, _, rfl, j7, ⟨fun p w r z => by cases z; exact ⟨⟨by omega, by omega⟩, .inr rfl, by omega, by omega⟩⟩⟩
        · exact ⟨_, _, rfl, j8, ⟨fun p w r z => by cases z; exact ⟨⟨by omega, by omega⟩, .inl rfl, by omega, by omega⟩⟩⟩
      have wA := xA.rows _ _ _ hr0 he0
      refine ⟨L, _, _, _, rfl, rfl, SqL.of hLA, hat, ?_⟩
      refine ⟨_, rfl, _, rfl, hd, _, _, _, rfl, rfl, SqL.of xA.ow.h, atI_nat m0, _, rfl, r0, es0, _, sp, rfl, rfl, wA.h, idx_set (k := sp) rfl (by omega), ?_⟩
      have gD := gA.set (o := .lst (es0.set sp tv)) wA.f (.inl wA.n)
      have xD := xA.put (j := sp) hr0 he0 hw0 ie1
      have pr : p ≠ r0 := fun z => by rw [z] at hp; rw [wA.n] at hp; cases hp
      have hpD := (upd_ne (o := .lst (es0.set sp tv)) pr).trans hpA
      refine ⟨_, rfl, _, rfl, fin gD hpD ha6 hb6 xD ?_⟩
      refine ⟨okN.r1, okN.r4, okN.s2, okN.s4, by rw [List.length_set]; exact okN.len, fun r hr => ?_, fun r hr e he => ?_⟩
      · rcases List.mem_or_eq_of_mem_set hr with hr | rfl
        · exact okN.row r hr
        · rw [List.length_set]; exact okN.row row0 (List.mem_of_getElem? hw0)
      · rcases List.mem_or_eq_of_mem_set hr with hr | rfl
        · exact okN.ent r hr e he
        · rcases List.mem_or_eq_of_mem_set he with he | rfl
          · exact okN.ent row0 (List.mem_of_getElem? hw0) e he
          · exact oe1
/-! ### alike: groups -/
theorem u65 {k : Nat} {A : Around} (r : Room k A) : A.units + 65 < cLine := by have := r.un; omega
/-- Python's first form of a machine -/
def lfM (M : Mach) : Mach := minL M (allM M M.length (M.headD []).length)
theorem MOk.hd {M : Mach} {R S : Nat} (h : MOk M R S) : M.length = R ∧ (M.headD []).length = S := by
  refine ⟨h.len, ?_⟩
  cases M with
  | nil =>
    have h1 := h.len
    have h2 := h.r1
    have h1 : 0 = R := h1
    omega
  | cons r l => exact h.row r List.mem_cons_self
theorem lfM_eq {M : Mach} {R S : Nat} (h : MOk M R S) : lfM M = minL M (allM M R S) := by
  unfold lfM
  rw [h.hd.1, h.hd.2]
theorem lfM_ok {M : Mach} {R S : Nat} (h : MOk M R S) : MOk (lfM M) R S := by
  rw [lfM_eq h]; exact least_ok h
section
variable {α : Type} [DecidableEq α]
/-- the group of the i-th, where it is the first of it -/
def grpA (L : List α) (i : Nat) : List (List Int) := match L[i]? with
  | none => []
  | some x => if x ∈ L.take i then [] else [((List.range L.length).filter fun k => decide (L[k]? = some x)).map fun k : Nat => (k : Int)]
def grp (L : List α) (n : Nat) : List (List Int) := (List.range n).flatMap (grpA L)
theorem grp_succ (L : List α) (n : Nat) : grp L (n + 1) = grp L n ++ grpA L n := by
  unfold grp
  rw [List.range_succ, List.flatMap_append]
  show _ ++ (grpA L n ++ []) = _
  rw [List.append_nil]
def grpK (L : List α) (x : α) (n : Nat) : List Int := ((List.range n).filter fun k => decide (L[k]? = some x)).map fun k : Nat => (k : Int)
theorem grpK_succ (L : List α) (x : α) (n : Nat) : grpK L x (n + 1) = grpK L x n ++ (if L[n]? = some x then [(n : Int)] else []) := by
  unfold grpK
  rw [List.range_succ, List.filter_append, List.map_append]
  congr 1
  by_cases c : L[n]? = some x <;> simp [c]
theorem grpK_len (L : List α) (x : α) (n : Nat) : (grpK L x n).length ≤ n := by
  unfold grpK
  rw [List.length_map]
  exact Nat.le_trans (List.length_filter_le _ _) (by rw [List.length_range]; exact Nat.le_refl _)
theorem grp_len (L : List α) : ∀ n, (grp L n).length ≤ n
  | 0 => Nat.le_refl _
  | n + 1 => by
    rw [grp_succ, List.length_append]
    have := grp_len L n
    have h : (grpA L n).length ≤ 1 := by
      unfold grpA
      split
      · exact Nat.zero_le _
      · split
        · exact Nat.zero_le _
        · exact Nat.le_refl _
    omega
theorem grpA_at {L : List α} {i : Nat} {x : α} (h : L[i]? = some x) : grpA L i = if x ∈ L.take i then [] else [grpK L x L.length] := by
  unfold grpA grpK
  rw [h]
theorem grp_map {β : Type} [DecidableEq β] {f : α → β} (hf : ∀ a b, f a = f b → a = b) (L : List α) (n : Nat) : grp (L.map f) n = grp L n := by
  unfold grp
  congr 1
  funext i
  unfold grpA
  rw [List.getElem?_map]
  cases e : L[i]? with
  | none => rfl
  | some x =>
    show (if f x ∈ (L.map f).take i then [] else _) = if x ∈ L.take i then [] else _
    have m : f x ∈ (L.map f).take i ↔ x ∈ L.take i := by
      rw [← List.map_take, List.mem_map]
      exact ⟨fun ⟨y, hy, ey⟩ => by rw [← hf _ _ ey]; exact hy, fun h => ⟨x, h, rfl⟩⟩
    by_cases c : x ∈ L.take i
    · rw [if_pos c, if_pos (m.mpr c)]
    · rw [if_neg c, if_neg (fun z => c (m.mp z)), List.length_map]
      congr 2
      refine List.filter_congr fun k _ => ?_
      rw [List.getElem?_map]
      refine decide_eq_decide.mpr ⟨fun h => ?_, fun h => by rw [h]; rfl⟩
      obtain ⟨y, hy, ey⟩ := Option.map_eq_some_iff.mp h
      rw [hy, hf _ _ ey]
end
theorem any_eqv {α : Type} [Dat α] (x : α) (l : List α) : ((l.map Dat.py).any fun z => PyData.eqv z (Dat.py x)) = true ↔ x ∈ l := by
  rw [List.any_eq_true]
  constructor
  · rintro ⟨z, hz, e⟩
    obtain ⟨y, hy, rfl⟩ := List.mem_map.mp hz
    rw [← (Dat.eqv y x).mp e]; exact hy
  · intro h
    exact ⟨_, List.mem_map.mpr ⟨x, h, rfl⟩, (Dat.eqv x x).mpr rfl⟩
/-- x not in xs, of data -/
theorem notin_dat {α : Type} [Dat α] {K : PySem.W.Frag} {H : Hp} {v w : V} {x : α} {l : List α} {Q : VK} (hx : Is H v x) (hl : Is H w l) (q1 : x ∈ l → Q (.bl false) H) (q2 : x ∉ l → Q (.bl true) H) (hd : Dat.dep α + 1 ≤ 64 := by decide) : rNotInD K v w H Q := by
  refine ⟨Dat.py x, l.map Dat.py, Dat.dp hx, Dat.dp (d := l) hl, ?_, ?_, ?_⟩
  · show (PyData.canLay0 _ && decide _) = true
    rw [Dat.can, decide_eq_true (Nat.le_trans (Dat.depth x) (by omega))]; rfl
  · show (PyData.canLay0 (Dat.py l) && decide ((Dat.py l).depth ≤ 64)) = true
    rw [Dat.can, decide_eq_true (Nat.le_trans (Dat.depth l) hd)]; rfl
  · cases e : ((l.map Dat.py).any fun z => PyData.eqv z (Dat.py x)) with
    | true => exact q1 ((any_eqv x l).mp e)
    | false => exact q2 fun m => by rw [(any_eqv x l).mpr m] at e; cases e
def sp_groups : Sp := fun vs H Q _ => ∃ (F : Hp) (m : V) (Ms : List Mach), vs = [m] ∧ Same F H ∧ Is F m Ms ∧ Ms.length ≤ 30 ∧ (∀ M ∈ Ms, ∃ R S, MOk M R S) ∧
  ∀ (F' H' : Hp) (u : Addr) (rs : List Addr) (ess : List (List V)), Gr mu0 F H F' H' → MaG H F' H' u rs ess (grp (Ms.map lfM) Ms.length) → Q (.ref u) H'
theorem ok_groups (t : Tx K mg) : FnOk P w K mg base CX0 5 t.a_groups t.fd_groups ["machines"] sp_groups := by
  refine t.F_groups.ok sc_groups (fun vs H Q E h => ?_) (fun cdv A outer s H vs Q E hr h => ?_)
  · obtain ⟨F, m, Ms, rfl, _⟩ := h
    rfl
  · obtain ⟨F, m, Ms, rfl, sF, hm, lMs, hMs, q⟩ := h
    refine ⟨_, (pss_cons (ps_set (i := 1) sc_groups.nd rfl (by first | exact Or.inl rfl | exact Or.inr rfl) (pe_lc (own := [("machine", 2)]) (g := gName 2) (tt := tYes) rfl sc_groups.nd (pi_list (pv 0)) (blkOk_by (N := N_groups) (sc := defScope s_groups) (by decide +kernel)) (fun _ _ _ _ _ => (pg_name (i := 2) sc_groups.nd rfl (by first | exact Or.inl rfl | exact Or.inr rfl))) (fun _ _ _ _ _ => pts_nil) (fun _ _ _ _ _ => (pe_call (ok_least_form t) (hr.mono (by decide)) (by rfl) t.m_least_form t.F_least_form.kp t.b_least_form .nil pass0 (pa_cons (pv 2) pa_nil)))))
      (pss_cons (ps_set (i := 3) sc_groups.nd rfl (by first | exact Or.inl rfl | exact Or.inr rfl) (pe_lst pa_nil))
      (pss_cons (ps_for PassesOwn.never rfl (pi_enum (by rfl) t.n_enumerate (pa_cons (pv 1) pa_nil)) (pg_tup rfl (pgs_cons (pg_name (i := 4) sc_groups.nd rfl (by first | exact Or.inl rfl | exact Or.inr rfl)) (pgs_cons (pg_name (i := 5) sc_groups.nd rfl (by first | exact Or.inl rfl | exact Or.inr rfl)) pgs_nil))) (pss_one (ps_if (pt_cmpR (op_notInD (u65 hr)) (pv 5) (pe_slice sl_list (pv 1) po_none (po_some (pv 4))) (by rfl)) (pss_one (ps_expr (pe_bm PySem.F.plainAttrs_list PySem.F.slot_list_append PySem.F.type_list_append mt_append (pv 3) (pa_cons (pe_lc (own := [("k", 6)]) (g := gName 6) rfl sc_groups.nd (pi_range1 (by rfl) t.n_range (pa_cons (pe_callB (id := "len") call_lenQ (by rfl) t.n_len (by decide +kernel) (pa_cons (pv 1) pa_nil)) pa_nil)) (blkOk_by (N := N_groups) (sc := defScope s_groups) (by decide +kernel)) (fun _ _ _ _ _ => (pg_name (i := 6) sc_groups.nd rfl (by first | exact Or.inl rfl | exact Or.inr rfl))) (fun _ _ _ _ _ => (pts_one (pt_cmpR (orK (K := K) (r := rEqD) rfl (op_eqD hr.units)) (pe_ix (ixK (K := K) (r := rIxL) rfl ix_list) (pv 1) (pv 6) (fun _ _ => rfl)) (pv 5) (nomark _)))) (fun _ _ _ _ _ => (pv 6))) pa_nil)))) pss_nil)))
      (pss_one (ps_ret (pv 3)))))), ?_⟩
    have g0 : Gr mu0 F H F H := Gr.refl sF
    obtain ⟨am, xs, rfl, ham, alx⟩ := hm
    have lx := alx.1
    refine ⟨_, rfl, am, rfl, ⟨_, SqL.of (sF _ _ ham)⟩, fun D nD => lc_list (K := K) (a := am) (xs := xs) (fun i G => ∃ (F1 : Hp) (zs : List V), Gr mu0 F H F1 G ∧ Ow H F1 G D (.lst zs) ∧ IsAll F1 zs ((Ms.take i).map lfM) ∧ zs.length ≤ i)
      ⟨F, [], g0.own nD, Ow.mk1 g0 nD, All2.nil, Nat.le_refl _⟩ (fun i G _ ⟨F1, _, g, _⟩ => SqL.of (g.fh _ _ (g.ff _ _ ham))) ?_ ?_⟩
    · rintro i y G hi ⟨F1, zs, g, w, al, lz⟩
      obtain ⟨M, hMi, iM⟩ := alx.get' hi
      have il : i < xs.length := (List.getElem?_eq_some_iff.mp hi).1
      obtain ⟨R, S, okM⟩ := hMs M (List.mem_of_getElem? hMi)
      refine ⟨rfl, yes ⟨_, rfl, F1, y, M, R, S, rfl, g.fh, iM.up g.ff, okM, fun F2 G2 u rs ess g2 x2 => ?_⟩⟩
      rw [← lfM_eq okM] at x2
      have t2 := g.trans g2
      have w2 := w.call g2 (fun z => z)
      have x3 : MaG H F2 G2 u rs ess (lfM M) := ⟨⟨g.th _ x2.ow.n, x2.ow.f, x2.ow.h⟩, x2.nd, x2.ne, x2.len, fun i r es h1 h2 => ⟨g.th _ (x2.rows i r es h1 h2).n, (x2.rows i r es h1 h2).f, (x2.rows i r es h1 h2).h⟩, x2.dat⟩
      obtain ⟨F3, g3, s3, i3, same3, _⟩ := x3.frz t2
      have offD : D ≠ u ∧ D ∉ rs := by
        have e := w.h
        refine ⟨fun z => ?_, fun z => ?_⟩
        · rw [z, x2.ow.n] at e; cases e
        · obtain ⟨es, wr⟩ := x2.row z
          rw [wr.n] at e; cases e
      have w3 : Ow H F3 G2 D (.lst zs) := ⟨w2.n, by rw [same3 D offD.1 offD.2]; exact w2.f, w2.h⟩
      refine ⟨zs, w3.h, lt_size (by omega), F3, zs ++ [.ref u], g3.set w3.f (.inl w3.n), w3.set, ?_, by rw [List.length_append]; show zs.length + 1 ≤ _; omega⟩
      rw [map_tk hMi]
      exact (IsAll.up (IsAll.up al g2.ff) s3).app (All2.one i3)
    rintro G ⟨F1, zs, g, w, al, lz⟩
    rw [lx, List.take_length] at al
    obtain ⟨F2, g2, hD, s2⟩ : ∃ F2, Gr mu0 F H F2 G ∧ F2 D = some (.lst zs) ∧ Same F1 F2 := ⟨_, g.frz w.h w.n w.f, upd_same, sm_new (Same.refl F1) w.f⟩
    have al2 := IsAll.up al s2
    generalize eL : Ms.map lfM = L at al2 q
    have lL : L.length = Ms.length := by rw [← eL, List.length_map]
    have lzL : zs.length = L.length := al2.1
    rw [← lL] at q
    refine ⟨nil_le, fun U nU => ?_⟩
    have g3 := g2.own (o := .lst []) nU
    have w3 : Ow H F2 (upd G U (.lst [])) U (.lst []) := Ow.mk1 g2 nU
    generalize upd G U (.lst []) = G3 at g3 w3 ⊢
    refine ⟨_, rfl, D, _, rfl, SqL.of (g3.fh _ _ hD), for_it walk_enum (fun j σ W => ∃ (F4 : Hp) (rs : List Addr) (ess : List (List V)) (v4 v5 : Option V), σ = [some (.ref am), some (.ref D), none, some (.ref U), v4, v5, none] ∧ Gr mu0 F H F4 W ∧ Same F2 F4 ∧ MaG H F4 W U rs ess (grp L j))
      ⟨F2, [], [], none, none, rfl, g3, Same.refl F2, ⟨w3, List.nodup_nil, (fun z => nomatch z), rfl, fun i r es h _ => (by cases h), All2.nil⟩⟩ (fun j σ W _ ⟨F4, _, _, _, _, _, g, s, _⟩ => SqL.of (g.fh _ _ (s _ _ hD))) ?_ ?_⟩
    · rintro j pr σ W W' hj ⟨F4, rs, ess, v4, v5, rfl, g4, s4, x4⟩ ⟨T, x0, z0, rfl, nT, rfl, ex0, ey0⟩
      have ex0 : x0 = .int (j : Nat) := (Option.some.inj ex0).symm
      subst ex0
      have ey0 : zs[j]? = some z0 := ey0
      have jl : j < zs.length := (List.getElem?_eq_some_iff.mp ey0).1
      obtain ⟨B, hBj, iB⟩ := al2.get' ey0
      have gT := g4.own (o := .tup [.int (j : Nat), z0]) nT
      have xT := x4.gr ((Gr.refl (mu := mu0) g4.fh).own (o := .tup [.int (j : Nat), z0]) nT) (fun c z => z.elim)
      have hT : (upd W T (.tup [.int (j : Nat), z0])) T = some (.tup [.int (j : Nat), z0]) := upd_same
      generalize upd W T (.tup [.int (j : Nat), z0]) = W1 at gT xT hT ⊢
      refine ⟨T, _, rfl, SqT.of hT, rfl, _, _, rfl, _, _, rfl, rfl, ?_⟩
      refine ⟨_, rfl, _, rfl, _, rfl, _, rfl, D, zs, rfl, SqL.of (gT.fh _ _ (s4 _ _ hD)), fun p1 n1 => ?_⟩
      rw [cut_take]
      have g5 := gT.own (o := .lst (zs.take j)) n1
      have x5 := xT.gr ((Gr.refl (mu := mu0) gT.fh).own (o := .lst (zs.take j)) n1) (fun c z => z.elim)
      refine notin_dat (x := B) (l := L.take j) (((iB.up s4).up g5.fh)) ⟨p1, _, rfl, upd_same, IsAll.up (IsAll.up (al2.take j) s4) g5.fh⟩ (fun c => ?_) (fun c => ?_)
      · generalize upd W1 p1 (.lst (zs.take j)) = W2 at g5 x5 ⊢
        refine ⟨_, rfl, ifF rfl ⟨F4, rs, ess, _, _, rfl, g5, s4, ?_⟩⟩
        rw [grp_succ, grpA_at hBj, if_pos c, List.append_nil]
        exact x5
      · generalize upd W1 p1 (.lst (zs.take j)) = W2 at g5 x5 ⊢
        refine ⟨_, rfl, ifT rfl ?_⟩
        refine ⟨_, rfl, .inl ⟨rfl, _, SqL.of x5.ow.h⟩, _, rfl, D, zs, rfl, .inl (SqL.of (g5.fh _ _ (s4 _ _ hD))), (zs.length : Int), rfl, by omega, by omega, fun C nC => lc_range (lo := 0) (n := ((zs.length : Int)).toNat) (fun k W3 => Gr mu0 F4 W2 F4 W3 ∧ Ow W2 F4 W3 C (.lst ((grpK L B k).map V.int))) ⟨(Gr.refl g5.fh).own nC, Ow.mk1 (Gr.refl (mu := mu0) g5.fh) nC⟩ ?_ ?_⟩
        · rintro k W3 hk ⟨g6, w6⟩
          have kl : k < zs.length := by omega
          have hzk : zs[k]? = some (zs[k]'kl) := List.getElem?_eq_getElem kl
          generalize zs[k]'kl = zk at hzk
          obtain ⟨Bk, hBk, iBk⟩ := al2.get' hzk
          rw [show (0 + (k : Int)) = (k : Int) by omega]
          have gz := fun {c o} (e : F2 c = some o) => g6.fh _ _ (s4 _ _ e)
          refine ⟨rfl, _, rfl, _, rfl, D, zs, _, _, rfl, rfl, SqL.of (gz hD), atI_nat hzk, _, rfl, eq_dat (a := Bk) (b := B) ((iBk.up s4).up g6.fh) ((iB.up s4).up g6.fh) ⟨_, rfl, ?_⟩⟩
          have lg := grpK_len L B k
          by_cases c2 : Bk = B
          · refine ifT (decide_eq_true c2) ⟨_, rfl, _, w6.h, by rw [List.length_map]; exact lt_size (by omega), ?_⟩
            rw [grpK_succ, hBk, c2, if_pos rfl, List.map_append]
            exact ⟨g6.set w6.f (.inl w6.n), w6.set⟩
          · refine ifF (decide_eq_false c2) ?_
            rw [grpK_succ, hBk, if_neg (fun z => c2 (Option.some.inj z)), List.append_nil]
            exact ⟨g6, w6⟩
        · rintro W3 ⟨g6, w6⟩
          rw [Int.toNat_natCast, lzL] at w6
          have t6 := g5.trans g6
          have x6 := x5.gr g6 (fun c z => z.elim)
          have w7 : Ow H F4 W3 C (.lst ((grpK L B L.length).map V.int)) := ⟨g5.th _ w6.n, w6.f, w6.h⟩
          have lg := grp_len L j
          have off : C ≠ U ∧ C ∉ rs := x5.offn w6.n
          refine ⟨U, _, _, rfl, rfl, x6.ow.h, by rw [List.length_map, x6.len, x6.dat.1]; exact lt_size (by omega), ?_⟩
          have e1 : rs.map V.ref ++ [V.ref C] = (rs ++ [C]).map V.ref := by rw [List.map_append]; rfl
          rw [e1]
          refine ⟨F4, rs ++ [C], ess ++ [(grpK L B L.length).map V.int], _, _, rfl, t6.set x6.ow.f (.inl x6.ow.n), s4, ?_⟩
          rw [grp_succ, grpA_at hBj, if_neg c]
          exact x6.add w7 off (intsA _)
    · rintro σ W ⟨F4, rs, ess, v4, v5, rfl, g4, s4, x4⟩
      rw [show zs.length = L.length from lzL] at x4
      exact ⟨_, rfl, q F4 W U rs ess g4 x4⟩
def keyT (B : Mach) : T3 Int Int Mach := ⟨B.length, (B.headD []).length, B⟩
theorem keyT_inj (a b : Mach) (h : keyT a = keyT b) : a = b := by
  have : (keyT a).c = (keyT b).c := by rw [h]
  exact this
def sp_size_of : Sp := fun vs H Q _ => ∃ (F : Hp) (m : V) (M : Mach) (R S : Nat), vs = [m] ∧ Same F H ∧ Is F m M ∧ MOk M R S ∧ ∀ (F' H' : Hp) (u : V), Gr mu0 F H F' H' → Is F' u (⟨R, S⟩ : T2 Int Int) → Q u H'
theorem ok_size_of (t : Tx K mg) : FnOk P w K mg base CX0 1 t.a_size_of t.fd_size_of ["machine"] sp_size_of := by
  refine t.F_size_of.ok sc_size_of (fun vs H Q E h => ?_) (fun cdv A outer s H vs Q E hr h => ?_)
  · obtain ⟨F, m, M, R, S, rfl, _⟩ := h
    rfl
  · obtain ⟨F, m, M, R, S, rfl, sF, hm, hM, q⟩ := h
    refine ⟨_, (pss_one (ps_ret (pe_tup (pa_cons (pe_callB (id := "len") call_lenQ (by rfl) t.n_len (by decide +kernel) (pa_cons (pv 0) pa_nil)) (pa_cons (pe_callB (id := "len") call_lenQ (by rfl) t.n_len (by decide +kernel) (pa_cons (pe_ix ix_list (pv 0) pe_int (fun _ _ => rfl)) pa_nil)) pa_nil))))), ?_⟩
    obtain ⟨am, rv, rfl, ham, hrv⟩ := id hm
    have lr : rv.length = R := hrv.1.trans hM.len
    have hM0 : M[0]? = some (M[0]'(by have := hM.len; have := hM.r1; omega)) := List.getElem?_eq_getElem _
    generalize M[0]'(by have := hM.len; have := hM.r1; omega) = row0 at hM0
    obtain ⟨_, hx0, ra0, re0, rfl, hra0, hre0⟩ := hrv.get hM0
    have lre : re0.length = S := hre0.1.trans (hM.row row0 (List.mem_of_getElem? hM0))
    refine ⟨_, rfl, am, rv, rfl, .inl (SqL.of (sF _ _ ham)), _, rfl, am, rv, _, _, rfl, rfl, SqL.of (sF _ _ ham), atI_nat (j := 0) hx0, ra0, re0, rfl, .inl (SqL.of (sF _ _ hra0)), two_le, fun t1 n1 => ?_⟩
    rw [lr, lre]
    exact q _ _ (.ref t1) ((Gr.refl sF).new n1) ⟨t1, _, _, rfl, upd_same, rfl, rfl⟩
def sp_are_alike : Sp := fun vs H Q _ => ∃ (F : Hp) (m n : V) (M N : Mach) (R S R' S' : Nat), vs = [m, n] ∧ Same F H ∧ Is F m M ∧ MOk M R S ∧ Is F n N ∧ MOk N R' S' ∧ ∀ (F' H' : Hp), Gr mu0 F H F' H' → Q (.bl (decide (lfM M = lfM N))) H'
theorem ok_are_alike (t : Tx K mg) : FnOk P w K mg base CX0 5 t.a_are_alike t.fd_are_alike ["one", "other"] sp_are_alike := by
  refine t.F_are_alike.ok sc_are_alike (fun vs H Q E h => ?_) (fun cdv A outer s H vs Q E hr h => ?_)
  · obtain ⟨F, m, n, M, N, R, S, R', S', rfl, _⟩ := h
    rfl
  · obtain ⟨F, m, n, M, N, R, S, R', S', rfl, sF, hm, hM, hn, hN, q⟩ := h
    refine ⟨_, (pss_cons (ps_expr (pe_call (ok_must_machine t) (hr.mono (by decide)) (by rfl) t.m_must_machine t.F_must_machine.kp t.b_must_machine .nil pass0 (pa_cons (pv 0) pa_nil)))
      (pss_cons (ps_expr (pe_call (ok_must_machine t) (hr.mono (by decide)) (by rfl) t.m_must_machine t.F_must_machine.kp t.b_must_machine .nil pass0 (pa_cons (pv 1) pa_nil)))
      (pss_one (ps_ret (pe_and (pe_cmpR (op_eqD hr.units) (pe_call (ok_size_of t) (hr.mono (by decide)) (by rfl) t.m_size_of t.F_size_of.kp t.b_size_of .nil pass0 (pa_cons (pv 0) pa_nil)) (pe_call (ok_size_of t) (hr.mono (by decide)) (by rfl) t.m_size_of t.F_size_of.kp t.b_size_of .nil pass0 (pa_cons (pv 1) pa_nil)) (nomark _)) (pe_one (pe_cmpR (op_eqD hr.units) (pe_call (ok_least_form t) (hr.mono (by decide)) (by rfl) t.m_least_form t.F_least_form.kp t.b_least_form .nil pass0 (pa_cons (pv 0) pa_nil)) (pe_call (ok_least_form t) (hr.mono (by decide)) (by rfl) t.m_least_form t.F_least_form.kp t.b_least_form .nil pass0 (pa_cons (pv 1) pa_nil)) (nomark _)))))))), ?_⟩
    refine ⟨_, rfl, F, m, M, R, S, rfl, sF, hm, hM, fun H1 g1 => ?_⟩
    refine ⟨_, rfl, F, n, N, R', S', rfl, g1.fh, hn, hN, fun H2 g2 => ?_⟩
    have t2 := g1.trans g2
    refine ⟨_, rfl, F, m, M, R, S, rfl, t2.fh, hm, hM, fun F3 H3 u3 g3 i3 => ?_⟩
    have t3 := t2.trans g3
    refine ⟨_, rfl, F3, n, N, R', S', rfl, t3.fh, hn.up t3.ff, hN, fun F4 H4 u4 g4 i4 => ?_⟩
    have t4 := t3.trans g4
    refine eq_dat (a := (⟨R, S⟩ : T2 Int Int)) (b := ⟨R', S'⟩) ((i3.up g4.ff).up t4.fh) (i4.up t4.fh) ⟨_, rfl, ?_⟩
    by_cases c : (⟨R, S⟩ : T2 Int Int) = ⟨R', S'⟩
    · refine ifT (decide_eq_true c) ?_
      refine ⟨_, rfl, F4, m, M, R, S, rfl, t4.fh, hm.up t4.ff, hM, fun F5 H5 u5 rs5 es5 g5 x5 => ?_⟩
      have t5 := t4.trans g5
      refine ⟨_, rfl, F5, n, N, R', S', rfl, t5.fh, hn.up t5.ff, hN, fun F6 H6 u6 rs6 es6 g6 x6 => ?_⟩
      have t6 := t5.trans g6
      have y5 := x5.gr g6 (fun c z => z.elim)
      rw [← lfM_eq hM] at y5
      rw [← lfM_eq hN] at x6
      exact eq_dat (a := lfM M) (b := lfM N) (y5.isH t6.fh) (x6.isH t6.fh) (q _ _ t6)
    · refine ifF (decide_eq_false c) ?_
      have z := q _ _ t4
      rw [decide_eq_false (fun e => c ?_)] at z
      · exact z
      · have h1 := (lfM_ok hM).hd
        have h2 := (lfM_ok hN).hd
        rw [e] at h1
        have e1 : R = R' := h1.1.symm.trans h2.1
        have e2 : S = S' := h1.2.symm.trans h2.2
        rw [e1, e2]
/-! ### the law -/
theorem pl_ints {F : Hp} {v : V} {l : List (List Int)} (h : Is F v l) : Pl F 5 v := (pl_all (n := 1) (fun v r h => pl_all (n := 0) (fun v i h => by rw [show v = .int i from h]; exact .inl ⟨_, rfl⟩) h) h).next.next.next
theorem MaG.re {α : Type} [Dat α] {H H0 F1 H1 : Hp} {m : Addr} {rs : List Addr} {ess : List (List V)} {M : List (List α)} (x : MaG H F1 H1 m rs ess M) (h : ∀ c, H c = none → H0 c = none) : MaG H0 F1 H1 m rs ess M :=
  ⟨⟨h _ x.ow.n, x.ow.f, x.ow.h⟩, x.nd, x.ne, x.len, fun i r es h1 h2 => ⟨h _ (x.rows i r es h1 h2).n, (x.rows i r es h1 h2).f, (x.rows i r es h1 h2).h⟩, x.dat⟩
/-- a list of ours beside a list of lists that is frozen now -/
theorem Ow.keep {α : Type} [Dat α] {H F1 F2 G Hb : Hp} {D m : Addr} {rs : List Addr} {ess : List (List V)} {M : List (List α)} {o : HO} (w : Ow H F1 G D o) (x : MaG Hb F1 G m rs ess M) (hD : ∃ u, Hb D = some u) (same : ∀ c, c ≠ m → c ∉ rs → F2 c = F1 c) : Ow H F2 G D o := by
  obtain ⟨u, e⟩ := hD
  have off : D ≠ m ∧ D ∉ rs := by
    refine ⟨fun z => ?_, fun z => ?_⟩
    · rw [z, x.ow.n] at e; cases e
    · obtain ⟨es, wr⟩ := x.row z
      rw [wr.n] at e; cases e
  exact ⟨w.n, by rw [same D off.1 off.2]; exact w.f, w.h⟩
def sp_law (K : PySem.W.Frag) : Sp := fun vs H Q _ => ∃ (a : Addr) (ns : List Int), vs = [.ref a] ∧ SqL K H a (ns.map V.int) ∧ ns.length ≤ 63 ∧ ∀ H', Q (.bl true) H'
theorem ok_law (t : Tx K mg) : FnOk P w K mg base CX0 7 t.a_law t.fd_law ["_law_script"] (sp_law K) := by
  refine t.F_law.ok sc_law (fun vs H Q E h => ?_) (fun cdv A outer s H vs Q E hr h => ?_)
  · obtain ⟨a, ns, rfl, _⟩ := h
    rfl
  · obtain ⟨a, ns, rfl, hS, hn, q⟩ := h
    refine ⟨_, (pss_cons (ps_set (i := 1) sc_law.nd rfl (by first | exact Or.inl rfl | exact Or.inr rfl) (pe_call (ok_L_purse t) (hr.mono (by decide)) (by rfl) t.m_L_purse t.F_L_purse.kp t.b_L_purse .nil pass0 (pa_cons (pv 0) pa_nil)))
      (pss_cons (ps_set (i := 2) sc_law.nd rfl (by first | exact Or.inl rfl | exact Or.inr rfl) (pe_lst pa_nil))
      (pss_cons (ps_for PassesOwn.never rfl (pi_range1 (by rfl) t.n_range (pa_cons (pe_op op_add pe_int (pe_call (ok_L_draw t) (hr.mono (by decide)) (by rfl) t.m_L_draw t.F_L_draw.kp t.b_L_draw .nil pass0 (pa_cons (pv 1) (pa_cons (pe_ix ix_list (pe_lst (pa_cons pe_int (pa_cons pe_int (pa_cons pe_int (pa_cons pe_int pa_nil))))) (pe_call (ok_L_draw t) (hr.mono (by decide)) (by rfl) t.m_L_draw t.F_L_draw.kp t.b_L_draw .nil pass0 (pa_cons (pv 1) (pa_cons pe_int pa_nil))) (fun _ _ => rfl)) pa_nil)))) pa_nil)) (pg_name (i := 3) sc_law.nd rfl (by first | exact Or.inl rfl | exact Or.inr rfl)) (pss_one (ps_expr (pe_bm PySem.F.plainAttrs_list PySem.F.slot_list_append PySem.F.type_list_append mt_append (pv 2) (pa_cons (pe_call (ok_L_next t) (hr.mono (by decide)) (by rfl) t.m_L_next t.F_L_next.kp t.b_L_next .nil pass0 (pa_cons (pv 1) (pa_cons (pv 2) pa_nil))) pa_nil)))))
      (pss_cons (ps_set (i := 4) sc_law.nd rfl (by first | exact Or.inl rfl | exact Or.inr rfl) (pe_lc (own := [("_law_machine_here", 5)]) (g := gName 5) (tt := tYes) rfl sc_law.nd (pi_list (pv 2)) (blkOk_by (N := N_law) (sc := defScope s_law) (by decide +kernel)) (fun _ _ _ _ _ => (pg_name (i := 5) sc_law.nd rfl (by first | exact Or.inl rfl | exact Or.inr rfl))) (fun _ _ _ _ _ => pts_nil) (fun _ _ _ _ _ => (pe_tup (pa_cons (pe_callB (id := "len") (crK (K := K) (r := rLenQ) rfl call_lenQ) (by rfl) t.n_len (by decide +kernel) (pa_cons (pv 5) pa_nil)) (pa_cons (pe_callB (id := "len") (crK (K := K) (r := rLenQ) rfl call_lenQ) (by rfl) t.n_len (by decide +kernel) (pa_cons (pe_ix (ixK (K := K) (r := rIxL) rfl ix_list) (pv 5) pe_int (fun _ _ => rfl)) pa_nil)) (pa_cons (pe_call (ok_least_form t) (hr.mono (by decide)) (by rfl) t.m_least_form t.F_least_form.kp t.b_least_form .nil pass0 (pa_cons (pv 5) pa_nil)) pa_nil)))))))
      (pss_cons (ps_setLc (i := 6) (own := [("_law_machine_here", 5)]) (g := gName 5) (tt := tYes) rfl sc_law.nd rfl rfl (sw_true rfl rfl rfl (by decide +kernel)) (pi_list (pv 2)) (blkOk_by (N := N_law) (sc := defScope s_law) (by decide +kernel)) (fun _ _ _ _ _ => (pg_name (i := 5) sc_law.nd rfl (by first | exact Or.inl rfl | exact Or.inr rfl))) (fun _ _ _ _ _ => pts_nil) (fun _ _ _ _ _ => (pe_call (ok_L_copy t) (hr.mono (by decide)) (by rfl) t.m_L_copy t.F_L_copy.kp t.b_L_copy .nil pass0 (pa_cons (pv 5) pa_nil))))
      (pss_cons (ps_set (i := 7) sc_law.nd rfl (by first | exact Or.inl rfl | exact Or.inr rfl) (pe_lst pa_nil))
      (pss_cons (ps_for PassesOwn.never rfl (pi_range1 (by rfl) t.n_range (pa_cons (pe_callB (id := "len") call_lenQ (by rfl) t.n_len (by decide +kernel) (pa_cons (pv 4) pa_nil)) pa_nil)) (pg_name (i := 3) sc_law.nd rfl (by first | exact Or.inl rfl | exact Or.inr rfl)) (pss_one (ps_if (pt_cmpR (op_notInD (u65 hr)) (pe_ix ix_list (pv 4) (pv 3) (fun _ _ => rfl)) (pe_slice sl_list (pv 4) po_none (po_some (pv 3))) (by rfl)) (pss_one (ps_expr (pe_bm PySem.F.plainAttrs_list PySem.F.slot_list_append PySem.F.type_list_append mt_append (pv 7) (pa_cons (pe_lc (own := [("_law_j", 8)]) (g := gName 8) rfl sc_law.nd (pi_range1 (by rfl) t.n_range (pa_cons (pe_callB (id := "len") call_lenQ (by rfl) t.n_len (by decide +kernel) (pa_cons (pv 4) pa_nil)) pa_nil)) (blkOk_by (N := N_law) (sc := defScope s_law) (by decide +kernel)) (fun _ _ _ _ _ => (pg_name (i := 8) sc_law.nd rfl (by first | exact Or.inl rfl | exact Or.inr rfl))) (fun _ _ _ _ _ => (pts_one (pt_cmpR (orK (K := K) (r := rEqD) rfl (op_eqD hr.units)) (pe_ix (ixK (K := K) (r := rIxL) rfl ix_list) (pv 4) (pv 8) (fun _ _ => rfl)) (pe_ix (ixK (K := K) (r := rIxL) rfl ix_list) (pv 4) (pv 3) (fun _ _ => rfl)) (nomark _)))) (fun _ _ _ _ _ => (pv 8))) pa_nil)))) pss_nil)))
      (pss_cons (ps_for PassesOwn.never rfl (pi_range1 (by rfl) t.n_range (pa_cons pe_int pa_nil)) (pg_name (i := 9) sc_law.nd rfl (by first | exact Or.inl rfl | exact Or.inr rfl)) (pss_cons (ps_set (i := 10) sc_law.nd rfl (by first | exact Or.inl rfl | exact Or.inr rfl) (pe_call (ok_groups t) (hr.mono (by decide)) (by rfl) t.m_groups t.F_groups.kp t.b_groups .nil pass0 (pa_cons (pv 6) pa_nil)))
      (pss_cons (ps_if (PW.pt (pw_or (pt_not (pt_val (pe_callB (id := "isinstance") call_isi (by rfl) t.n_isinstance (by decide +kernel) (pa_cons (pv 10) (pa_cons (pe_bltn (v := .ty "list") (by rfl) t.n_list (by decide +kernel) rfl) pa_nil))))) (pw_or (pt_not (pt_val (pe_call (ok_L_plainly t) (hr.mono (by decide)) (by rfl) t.m_L_plainly t.F_L_plainly.kp t.b_L_plainly .nil pass0 (pa_cons (pv 10) pa_nil)))) (pw_or (pt_cmpR (op_neD hr.units) (pv 10) (pv 7) (nomark _)) (pw_or1 (pt_cmpR (op_neD hr.units) (pv 6) (pv 2) (nomark _))))))) (pss_one (ps_ret pe_bl)) pss_nil)
      (pss_cons (ps_for PassesOwn.never rfl (pi_enum (by rfl) t.n_enumerate (pa_cons (pv 10) pa_nil)) (pg_tup rfl (pgs_cons (pg_name (i := 3) sc_law.nd rfl (by first | exact Or.inl rfl | exact Or.inr rfl)) (pgs_cons (pg_name (i := 11) sc_law.nd rfl (by first | exact Or.inl rfl | exact Or.inr rfl)) pgs_nil))) (pss_one (ps_expr (pe_bm PySem.F.plainAttrs_list PySem.F.slot_list_append PySem.F.type_list_append mt_append (pv 11) (pa_cons (pe_op op_add pe_int (pv 3)) pa_nil)))))
      (pss_one (ps_if (pt_cmpR (op_neD hr.units) (pv 10) (pe_lc (own := [("_law_k", 3)]) (g := gName 3) (tt := tYes) rfl sc_law.nd (pi_range1 (by rfl) t.n_range (pa_cons (pe_callB (id := "len") call_lenQ (by rfl) t.n_len (by decide +kernel) (pa_cons (pv 7) pa_nil)) pa_nil)) (blkOk_by (N := N_law) (sc := defScope s_law) (by decide +kernel)) (fun _ _ _ _ _ => (pg_name (i := 3) sc_law.nd rfl (by first | exact Or.inl rfl | exact Or.inr rfl))) (fun _ _ _ _ _ => pts_nil) (fun _ _ _ _ _ => (pe_op op_cat (pe_ix (ixK (K := K) (r := rIxL) rfl ix_list) (pv 7) (pv 3) (fun _ _ => rfl)) (pe_lst (pa_cons (pe_op op_add pe_int (pv 3)) pa_nil))))) (nomark _)) (pss_one (ps_ret pe_bl)) pss_nil))))))
      (pss_cons (ps_set (i := 12) sc_law.nd rfl (by first | exact Or.inl rfl | exact Or.inr rfl) (pe_call (ok_L_draw t) (hr.mono (by decide)) (by rfl) t.m_L_draw t.F_L_draw.kp t.b_L_draw .nil pass0 (pa_cons (pv 1) (pa_cons (pe_callB (id := "len") call_lenQ (by rfl) t.n_len (by decide +kernel) (pa_cons (pv 2) pa_nil)) pa_nil))))
      (pss_cons (ps_for PassesOwn.never rfl (pi_range1 (by rfl) t.n_range (pa_cons (pe_callB (id := "len") call_lenQ (by rfl) t.n_len (by decide +kernel) (pa_cons (pv 2) pa_nil)) pa_nil)) (pg_name (i := 13) sc_law.nd rfl (by first | exact Or.inl rfl | exact Or.inr rfl)) (pss_cons (ps_set (i := 14) sc_law.nd rfl (by first | exact Or.inl rfl | exact Or.inr rfl) (pe_call (ok_are_alike t) (hr.mono (by decide)) (by rfl) t.m_are_alike t.F_are_alike.kp t.b_are_alike .nil pass0 (pa_cons (pe_ix ix_list (pv 6) (pv 12) (fun _ _ => rfl)) (pa_cons (pe_ix ix_list (pv 6) (pv 13) (fun _ _ => rfl)) pa_nil))))
      (pss_one (ps_if (PW.pt (pw_or (pt_not (pt_val (pe_callB (id := "isinstance") call_isi (by rfl) t.n_isinstance (by decide +kernel) (pa_cons (pv 14) (pa_cons (pe_bltn (v := .ty "bool") (by rfl) t.n_bool (by decide +kernel) rfl) pa_nil))))) (pw_or (pt_cmpR op_ne (pv 14) (pe_cmpR (op_eqD hr.units) (pe_ix ix_list (pv 4) (pv 12) (fun _ _ => rfl)) (pe_ix ix_list (pv 4) (pv 13) (fun _ _ => rfl)) (nomark _)) (nomark _)) (pw_or1 (pt_cmpR (op_neD hr.units) (pv 6) (pv 2) (nomark _)))))) (pss_one (ps_ret pe_bl)) pss_nil))))
      (pss_one (ps_ret (pe_cmpR (op_eqD hr.units) (pe_call (ok_groups t) (hr.mono (by decide)) (by rfl) t.m_groups t.F_groups.kp t.b_groups .nil pass0 (pa_cons (pe_lst pa_nil) pa_nil)) (pe_lst pa_nil) (nomark _)))))))))))))), ?_⟩
    refine ⟨_, rfl, a, ns, rfl, hS, hn, fun a0 b0 p H1 ha0 hb0 s1 np hp1 => ?_⟩
    have g1 : Gr (muP p) H H1 H H1 := Gr.refl s1
    refine ⟨nil_le, fun LM nLM => ?_⟩
    have pLM : LM ≠ p := (ne_of_none hp1 nLM).symm
    have g2 := g1.own (o := .lst []) nLM
    have w2 : Ow H1 H (upd H1 LM (.lst [])) LM (.lst []) := Ow.mk1 g1 nLM
    have hp2 := ln (u := .lst []) nLM hp1
    generalize upd H1 LM (.lst []) = H2 at g2 w2 hp2 ⊢
    refine ⟨_, rfl, le_size (by show 4 ≤ 1000000; decide), fun L4 n4 => ?_⟩
    have g3 := g2.own (o := .lst [.int 8, .int 8, .int 8, .int 20]) n4
    have w3 := w2.own (u := .lst [.int 8, .int 8, .int 8, .int 20]) n4
    have hp3 := ln (u := .lst [.int 8, .int 8, .int 8, .int 20]) n4 hp2
    have hL4 : (upd H2 L4 (.lst [.int 8, .int 8, .int 8, .int 20])) L4 = some (.lst [.int 8, .int 8, .int 8, .int 20]) := upd_same
    have pL4 : L4 ≠ p := (ne_of_none hp2 n4).symm
    generalize upd H2 L4 (.lst [.int 8, .int 8, .int 8, .int 20]) = H3 at g3 w3 hp3 hL4 ⊢
    refine ⟨_, rfl, p, a0, b0, 4, rfl, hp3, ha0, hb0, by decide, by decide, fun d1 a1 b1 d10 d11 ha1 hb1 => ?_⟩
    obtain ⟨g4, k4⟩ := g3.drw (a := a1) (b := b1) np hp1
    have w4 := w3.call k4 pLM
    have hp4 : (upd H3 p (PurseO a1 b1)) p = some (PurseO a1 b1) := upd_same
    have hL5 : (upd H3 p (PurseO a1 b1)) L4 = some (.lst [.int 8, .int 8, .int 8, .int 20]) := (upd_ne pL4).trans hL4
    generalize upd H3 p (PurseO a1 b1) = H4 at g4 w4 hp4 hL5 ⊢
    obtain ⟨mx, hat, mx0, mx1⟩ : ∃ mx : Int, atI [V.int 8, V.int 8, V.int 8, V.int 20] d1 = some (.int mx) ∧ 0 < mx ∧ mx ≤ 20 := by
      rcases (by omega : d1 = 0 ∨ d1 = 1 ∨ d1 = 2 ∨ d1 = 3) with rfl | rfl | rfl | rfl
      · exact ⟨8, rfl, by decide, by decide⟩
      · exact ⟨8, rfl, by decide, by decide⟩
      · exact ⟨8, rfl, by decide, by decide⟩
      · exact ⟨20, rfl, by decide, by decide⟩
    refine ⟨L4, _, _, _, rfl, rfl, SqL.of hL5, hat, p, a1, b1, mx, rfl, hp4, ha1, hb1, by omega, by omega, fun d2 a2 b2 d20 d21 ha2 hb2 => ⟨_, _, rfl, rfl, ?_⟩⟩
    obtain ⟨g5, k5⟩ := g4.drw (a := a2) (b := b2) np hp1
    have w5 := w4.call k5 pLM
    have hp5 : (upd H4 p (PurseO a2 b2)) p = some (PurseO a2 b2) := upd_same
    generalize upd H4 p (PurseO a2 b2) = H5 at g5 w5 hp5 ⊢
    refine ⟨1 + d2, rfl, by omega, by omega, for_range (lo := 0) (n := (1 + d2).toNat) (fun i σ G => ∃ (F : Hp) (u z : Int) (xs : List V) (Ms : List Mach) (v3 : Option V), σ = [some (.ref a), some (.ref p), some (.ref LM), v3, none, none, none, none, none, none, none, none, none, none, none] ∧ Gr (muP p) H H1 F G ∧ G p = some (PurseO u z) ∧ 0 ≤ u ∧ 0 ≤ z ∧ Ow H1 F G LM (.lst xs) ∧ IsAll F xs Ms ∧ xs.length = i ∧ ∀ M ∈ Ms, ∃ R S, MOk M R S)
      ⟨H, a2, b2, [], [], none, rfl, g5, hp5, ha2, hb2, w5, All2.nil, rfl, fun M z => nomatch z⟩ ?_ ?_⟩
    · rintro i σ G hi ⟨F, u, z, xs, Ms, v3, rfl, g, hpG, hu, hz, w, al, lx, oks⟩
      refine ⟨_, rfl, .inl ⟨rfl, _, SqL.of w.h⟩, _, rfl, _, rfl, F, p, u, z, LM, xs, Ms, rfl, g.fh, g.pf np hp1, hpG, hu, hz, pLM, w.h, al, by omega, oks, fun F6 H6 v N R S a6 b6 g6 hp6 ha6 hb6 iN okN => ?_⟩
      have w6 := w.call g6 pLM
      have t6 := g.trans g6
      refine ⟨LM, _, _, rfl, rfl, w6.h, lt_size (by omega), ?_⟩
      refine ⟨F6, a6, b6, xs ++ [v], Ms ++ [N], _, rfl, t6.set w6.f (.inl (g1.th _ w6.n)), by rw [upd_ne pLM.symm]; exact hp6, ha6, hb6, w6.set, (IsAll.up al g6.ff).app (All2.one iN), by rw [List.length_append, lx]; rfl, fun M m => ?_⟩
      rcases List.mem_append.mp m with m | m
      · exact oks M m
      · rw [List.mem_singleton.mp m]; exact ⟨R, S, okN⟩
    rintro σ G ⟨F, u, z, xs, Ms, v3, rfl, g, hpG, hu, hz, w, al, lx, oks⟩
    obtain ⟨F7, g7, hLM, s7⟩ : ∃ F7, Gr (muP p) H H1 F7 G ∧ F7 LM = some (.lst xs) ∧ Same F F7 := ⟨_, g.frz w.h w.n w.f, upd_same, sm_new (Same.refl F) w.f⟩
    have al7 := IsAll.up al s7
    have lMs : xs.length = Ms.length := al7.1
    have lM1 : 1 ≤ Ms.length := by omega
    have lM20 : Ms.length ≤ 20 := by omega
    have iMs : Is F7 (.ref LM) Ms := ⟨LM, xs, rfl, hLM, al7⟩
    -- the keys
    refine ⟨_, rfl, LM, rfl, ⟨_, SqL.of (g7.fh _ _ hLM)⟩, fun D nD => lc_list (K := K) (a := LM) (xs := xs) (fun i W => ∃ (F8 : Hp) (zs : List V), Gr mu0 F7 G F8 W ∧ Ow G F8 W D (.lst zs) ∧ IsAll F8 zs ((Ms.take i).map fun M => keyT (lfM M)) ∧ zs.length ≤ i)
      ⟨F7, [], (Gr.refl g7.fh).own nD, Ow.mk1 (Gr.refl (mu := mu0) g7.fh) nD, All2.nil, Nat.le_refl _⟩ (fun i W _ ⟨F8, _, g, _⟩ => SqL.of (g.fh _ _ (g.ff _ _ hLM))) ?_ ?_⟩
    · rintro i y W hi ⟨F8, zs, g8, w8, al8, lz⟩
      obtain ⟨M, hMi, iM⟩ := al7.get' hi
      have il : i < xs.length := (List.getElem?_eq_some_iff.mp hi).1
      obtain ⟨R, S, okM⟩ := oks M (List.mem_of_getElem? hMi)
      obtain ⟨am, rv, rfl, ham, hrv⟩ := id (iM.up g8.ff)
      have lr : rv.length = R := hrv.1.trans okM.len
      have hM0 : M[0]? = some (M[0]'(by have := okM.len; have := okM.r1; omega)) := List.getElem?_eq_getElem _
      generalize M[0]'(by have := okM.len; have := okM.r1; omega) = row0 at hM0
      obtain ⟨_, hx0, ra0, re0, rfl, hra0, hre0⟩ := hrv.get hM0
      have lre : re0.length = S := hre0.1.trans (okM.row row0 (List.mem_of_getElem? hM0))
      refine ⟨rfl, yes ⟨_, rfl, am, rv, rfl, .inl (SqL.of (g8.fh _ _ ham)), _, rfl, am, rv, _, _, rfl, rfl, SqL.of (g8.fh _ _ ham), atI_nat (j := 0) hx0, ra0, re0, rfl, .inl (SqL.of (g8.fh _ _ hra0)), _, rfl, F8, .ref am, M, R, S, rfl, g8.fh, iM.up g8.ff, okM, fun F9 W9 u9 rs ess g9 x9 => ⟨three_le, fun t9 n9 => ?_⟩⟩⟩
      rw [← lfM_eq okM] at x9
      rw [lr, lre]
      obtain ⟨FA, gA, sA, iA, same, _⟩ := x9.frz g9
      have tA := g8.trans gA
      have w9 := (w8.call g9 (fun z => z)).keep x9 ⟨_, w8.h⟩ same
      have gB := tA.new (o := .tup [.int (R : Int), .int (S : Int), .ref u9]) n9
      have sB := sm_new (o := .tup [.int (R : Int), .int (S : Int), .ref u9]) (Same.refl FA) (tA.fh.free n9)
      have wB := w9.new (u := .tup [.int (R : Int), .int (S : Int), .ref u9]) n9
      refine ⟨zs, wB.h, lt_size (by omega), _, zs ++ [.ref t9], gB.set wB.f (.inl wB.n), wB.set, ?_, by rw [List.length_append]; show zs.length + 1 ≤ _; omega⟩
      rw [map_tk hMi]
      refine (IsAll.up (IsAll.up al8 gA.ff) sB).app (All2.one ⟨t9, _, _, _, rfl, upd_same, ?_, ?_, iA.up sB⟩)
      · show V.int _ = V.int ((lfM M).length : Nat)
        rw [(lfM_ok okM).hd.1]
      · show V.int _ = V.int (((lfM M).headD []).length : Nat)
        rw [(lfM_ok okM).hd.2]
    rintro W ⟨F8, zs, g8, w8, al8, lz⟩
    rw [lMs, List.take_length, show Ms.map (fun M => keyT (lfM M)) = (Ms.map lfM).map keyT by rw [List.map_map]; rfl] at al8
    obtain ⟨F9, g9, hD, s9⟩ : ∃ F9, Gr mu0 F7 G F9 W ∧ F9 D = some (.lst zs) ∧ Same F8 F9 := ⟨_, g8.frz w8.h w8.n w8.f, upd_same, sm_new (Same.refl F8) w8.f⟩
    have al9 := IsAll.up al8 s9
    have t9 := g7.trans g9.of0
    have hpW := g9.fr _ _ hpG (fun z => z)
    generalize eL : Ms.map lfM = L at al9
    have lL : L.length = Ms.length := by rw [← eL, List.length_map]
    have lzL : zs.length = L.length := by rw [al9.1, List.length_map]
    have hLM9 := g9.ff _ _ hLM
    have alM9 := IsAll.up al7 g9.ff
    clear g8 w8 al8 lz s9
    -- copies
    refine ⟨_, rfl, LM, rfl, ⟨_, SqL.of (t9.fh _ _ hLM9)⟩, fun C nC => lc_list (K := K) (a := LM) (xs := xs) (fun i W2 => ∃ (F8 : Hp) (cs : List V), Gr mu0 F9 W F8 W2 ∧ Ow W F8 W2 C (.lst cs) ∧ IsAll F8 cs (Ms.take i) ∧ cs.length ≤ i)
      ⟨F9, [], (Gr.refl t9.fh).own nC, Ow.mk1 (Gr.refl (mu := mu0) t9.fh) nC, All2.nil, Nat.le_refl _⟩ (fun i W2 _ ⟨F8, _, g, _⟩ => SqL.of (g.fh _ _ (g.ff _ _ hLM9))) ?_ ?_⟩
    · rintro i y W2 hi ⟨F8, cs, g8, w8, al8, lz⟩
      obtain ⟨M, hMi, iM⟩ := alM9.get' hi
      have il : i < xs.length := (List.getElem?_eq_some_iff.mp hi).1
      obtain ⟨R, S, okM⟩ := oks M (List.mem_of_getElem? hMi)
      refine ⟨rfl, yes ⟨_, rfl, F8, y, M, rfl, g8.fh, iM.up g8.ff, by rw [okM.len]; have := okM.r4; omega, fun W3 u9 rs ess gx x9 => ?_⟩⟩
      obtain ⟨FA, gA, sA, iA, same, _⟩ := x9.frz gx
      have tA := g8.trans gA
      have w9 := (w8.call gx (fun z => z)).keep x9 ⟨_, w8.h⟩ same
      refine ⟨cs, w9.h, lt_size (by omega), FA, cs ++ [.ref u9], tA.set w9.f (.inl w9.n), w9.set, ?_, by rw [List.length_append]; show cs.length + 1 ≤ _; omega⟩
      rw [List.take_add_one, hMi]
      exact (IsAll.up al8 sA).app (All2.one iA)
    rintro W2 ⟨F8, cs, g8, w8, al8, lz⟩
    rw [lMs, List.take_length] at al8
    obtain ⟨FC, gC, hC, sC⟩ : ∃ FC, Gr mu0 F9 W FC W2 ∧ FC C = some (.lst cs) ∧ Same F8 FC := ⟨_, g8.frz w8.h w8.n w8.f, upd_same, sm_new (Same.refl F8) w8.f⟩
    have alC := IsAll.up al8 sC
    have lcs : cs.length = Ms.length := alC.1
    have tC := t9.trans gC.of0
    have hpC := gC.fr _ _ hpW (fun z => z)
    have hDC := gC.ff _ _ hD
    have alK := IsAll.up al9 gC.ff
    have iMC : Is FC (.ref LM) Ms := ⟨LM, xs, rfl, gC.ff _ _ hLM9, IsAll.up alM9 gC.ff⟩
    have iC : Is FC (.ref C) Ms := ⟨C, cs, rfl, hC, alC⟩
    have hLMC := gC.ff _ _ hLM9
    clear g8 w8 al8 lz sC g9 gC
    -- what is due
    refine ⟨nil_le, fun U nU => ?_⟩
    have gU := (Gr.refl (mu := mu0) tC.fh).own (o := .lst []) nU
    have wU : Ow W2 FC (upd W2 U (.lst [])) U (.lst []) := Ow.mk1 (Gr.refl (mu := mu0) tC.fh) nU
    refine ⟨_, rfl, D, zs, rfl, .inl (SqL.of (gU.fh _ _ hDC)), (zs.length : Int), rfl, by omega, by omega, for_range (lo := 0) (n := ((zs.length : Int)).toNat) (fun j σ W3 => ∃ (F4 : Hp) (rs : List Addr) (ess : List (List V)) (v3 : Option V), σ = [some (.ref a), some (.ref p), some (.ref LM), v3, some (.ref D), none, some (.ref C), some (.ref U), none, none, none, none, none, none, none] ∧ Gr mu0 FC W2 F4 W3 ∧ MaG W2 F4 W3 U rs ess (grp L j))
      ⟨FC, [], [], _, rfl, gU, ⟨wU, List.nodup_nil, (fun z => nomatch z), rfl, fun i r es h _ => (by cases h), All2.nil⟩⟩ ?_ ?_⟩
    · rintro j σ W3 hj ⟨F4, rs, ess, v3, rfl, g4, x4⟩
      have jl : j < zs.length := by omega
      have hzj : zs[j]? = some (zs[j]'jl) := List.getElem?_eq_getElem jl
      generalize zs[j]'jl = zj at hzj
      obtain ⟨Kj, hKj, iKj⟩ := alK.get' hzj
      rw [List.getElem?_map] at hKj
      obtain ⟨B, hBj, rfl⟩ := Option.map_eq_some_iff.mp hKj
      rw [show (0 + (j : Int)) = (j : Int) by omega]
      refine ⟨_, rfl, _, rfl, D, zs, _, _, rfl, rfl, SqL.of (g4.fh _ _ (g4.ff _ _ hDC)), atI_nat hzj, _, rfl, _, rfl, _, rfl, D, zs, rfl, SqL.of (g4.fh _ _ (g4.ff _ _ hDC)), fun p1 n1 => ?_⟩
      rw [cut_take]
      have g5 := g4.own (o := .lst (zs.take j)) n1
      have x5 := x4.gr ((Gr.refl (mu := mu0) g4.fh).own (o := .lst (zs.take j)) n1) (fun c z => z.elim)
      have mk : keyT B ∈ (L.map keyT).take j ↔ B ∈ L.take j := by
        rw [← List.map_take, List.mem_map]
        exact ⟨fun ⟨y, hy, ey⟩ => by rw [← keyT_inj _ _ ey]; exact hy, fun h => ⟨B, h, rfl⟩⟩
      refine notin_dat (x := keyT B) (l := (L.map keyT).take j) ((iKj.up g4.ff).up g5.fh) ⟨p1, _, rfl, upd_same, IsAll.up (IsAll.up (alK.take j) g4.ff) g5.fh⟩ (fun c => ?_) (fun c => ?_)
      · generalize upd W3 p1 (.lst (zs.take j)) = W4 at g5 x5 ⊢
        refine ⟨_, rfl, ifF rfl ⟨F4, rs, ess, _, rfl, g5, ?_⟩⟩
        rw [grp_succ, grpA_at hBj, if_pos (mk.mp c), List.append_nil]
        exact x5
      · generalize upd W3 p1 (.lst (zs.take j)) = W4 at g5 x5 ⊢
        have hDC5 := g5.fh _ _ (g4.ff _ _ hDC)
        refine ⟨_, rfl, ifT rfl ?_⟩
        refine ⟨_, rfl, .inl ⟨rfl, _, SqL.of x5.ow.h⟩, _, rfl, D, zs, rfl, .inl (SqL.of hDC5), (zs.length : Int), rfl, by omega, by omega, fun C2 nC2 => lc_range (lo := 0) (n := ((zs.length : Int)).toNat) (fun k W5 => Gr mu0 F4 W4 F4 W5 ∧ Ow W4 F4 W5 C2 (.lst ((grpK L B k).map V.int))) ⟨(Gr.refl g5.fh).own nC2, Ow.mk1 (Gr.refl (mu := mu0) g5.fh) nC2⟩ ?_ ?_⟩
        · rintro k W5 hk ⟨g6, w6⟩
          have kl : k < zs.length := by omega
          have hzk : zs[k]? = some (zs[k]'kl) := List.getElem?_eq_getElem kl
          generalize zs[k]'kl = zk at hzk
          obtain ⟨Kk, hKk, iKk⟩ := alK.get' hzk
          rw [List.getElem?_map] at hKk
          obtain ⟨Bk, hBk, rfl⟩ := Option.map_eq_some_iff.mp hKk
          rw [show (0 + (k : Int)) = (k : Int) by omega]
          have gz := fun {c o} (e : FC c = some o) => g6.fh _ _ (g4.ff _ _ e)
          refine ⟨rfl, _, rfl, _, rfl, D, zs, _, _, rfl, rfl, SqL.of (gz hDC), atI_nat hzk, _, rfl, _, rfl, D, zs, _, _, rfl, rfl, SqL.of (gz hDC), atI_nat hzj, eq_dat (a := keyT Bk) (b := keyT B) ((iKk.up g4.ff).up g6.fh) ((iKj.up g4.ff).up g6.fh) ⟨_, rfl, ?_⟩⟩
          have lg := grpK_len L B k
          by_cases c2 : Bk = B
          · refine ifT (decide_eq_true (by rw [c2])) ⟨_, rfl, _, w6.h, by rw [List.length_map]; exact lt_size (by omega), ?_⟩
            rw [grpK_succ, hBk, c2, if_pos rfl, List.map_append]
            exact ⟨g6.set w6.f (.inl w6.n), w6.set⟩
          · refine ifF (decide_eq_false (fun z => c2 (keyT_inj _ _ z))) ?_
            rw [grpK_succ, hBk, if_neg (fun z => c2 (Option.some.inj z)), List.append_nil]
            exact ⟨g6, w6⟩
        · rintro W5 ⟨g6, w6⟩
          rw [Int.toNat_natCast, lzL] at w6
          have t6 := g5.trans g6
          have x6 := x5.gr g6 (fun c z => z.elim)
          have w7 : Ow W2 F4 W5 C2 (.lst ((grpK L B L.length).map V.int)) := ⟨g5.th _ w6.n, w6.f, w6.h⟩
          have lg := grp_len L j
          have off : C2 ≠ U ∧ C2 ∉ rs := x5.offn w6.n
          refine ⟨U, _, _, rfl, rfl, x6.ow.h, by rw [List.length_map, x6.len, x6.dat.1]; exact lt_size (by omega), ?_⟩
          have e1 : rs.map V.ref ++ [V.ref C2] = (rs ++ [C2]).map V.ref := by rw [List.map_append]; rfl
          rw [e1]
          refine ⟨F4, rs ++ [C2], ess ++ [(grpK L B L.length).map V.int], _, rfl, t6.set x6.ow.f (.inl x6.ow.n), ?_⟩
          rw [grp_succ, grpA_at hBj, if_neg (fun z => c (mk.mpr z))]
          exact x6.add w7 off (intsA _)
    rintro σ W3 ⟨F4, rs, ess, v3, rfl, g4, x4⟩
    rw [Int.toNat_natCast, lzL] at x4
    obtain ⟨FU, gU2, sU, iU, _, _⟩ := x4.frz g4
    have tU := tC.trans gU2.of0
    have hpU := gU2.fr _ _ hpC (fun z => z)
    have iMU := iMC.up gU2.ff
    have iCU := iC.up gU2.ff
    have alKU := IsAll.up alK gU2.ff
    have hDU := gU2.ff _ _ hDC
    have hLMU := gU2.ff _ _ hLMC
    have hCU := gU2.ff _ _ hC
    have alCU := IsAll.up alC gU2.ff
    generalize eG : grp L L.length = Gs at iU
    have lGs : Gs.length ≤ 20 := by rw [← eG]; have := grp_len L L.length; omega
    clear g4 x4 sU gU2 gU wU
    refine ⟨2, rfl, by decide, by decide, for_range (lo := 0) (n := 2) (fun i σ G => ∃ (F : Hp) (v3 v9 v10 v11 : Option V), σ = [some (.ref a), some (.ref p), some (.ref LM), v3, some (.ref D), none, some (.ref C), some (.ref U), none, v9, v10, v11, none, none, none] ∧ Gr (muP p) H H1 F G ∧ Same FU F ∧ G p = some (PurseO u z)) ⟨FU, _, none, none, none, rfl, tU, Same.refl FU, hpU⟩ ?_ ?_⟩
    · rintro i σ G hi ⟨F, v3, v9, v10, v11, rfl, g, sF, hpG⟩
      refine ⟨_, rfl, F, .ref C, Ms, rfl, g.fh, iCU.up sF, by omega, oks, fun F3 G3 u3 rs3 ess3 g3 y3 => ?_⟩
      rw [eL, show Ms.length = L.length from lL.symm, eG] at y3
      have t3 := g.trans g3.of0
      have hp3 := g3.fr _ _ hpG (fun z => z)
      have up3 : ∀ c o, FU c = some o → F3 c = some o := fun c o e => g3.ff _ _ (sF _ _ e)
      have i3 := y3.isH t3.fh
      refine ⟨_, rfl, _, _, _, _, true, rfl, .ty "list", .base (.lst y3.ow.h), kt_list, _, rfl, ifF rfl ?_⟩
      refine ⟨_, rfl, G3, .ref u3, rfl, Same.refl G3, pl_ints i3, fun G4 g4 => ⟨_, rfl, ifF rfl ?_⟩⟩
      have k4 := gr_same t3.fh (gr_up g4)
      have t4 := t3.trans k4.of0
      have hp4 := g4.fr _ _ hp3 (fun z => z)
      have y4 := y3.gr k4 (fun c z => z.elim)
      refine ⟨_, rfl, _, rfl, ne_dat (a := Gs) (b := Gs) (y4.isH t4.fh) ((iU.up up3).up t4.fh) ⟨_, rfl, ifF (by rw [decide_eq_true rfl]; rfl) ?_⟩⟩
      refine ⟨_, rfl, _, rfl, ne_dat (a := Ms) (b := Ms) ((iCU.up up3).up t4.fh) ((iMU.up up3).up t4.fh) ⟨_, rfl, ifF (by rw [decide_eq_true rfl]; rfl) ?_⟩⟩
      have gG : Gr mu0 F G F3 G4 := g3.trans k4
      refine ⟨_, rfl, u3, _, rfl, SqL.of y4.ow.h, for_it walk_enum (fun j σ W => ∃ (F5 : Hp) (ess5 : List (List V)) (G5 : List (List Int)) (w3 w11 : Option V), σ = [some (.ref a), some (.ref p), some (.ref LM), w3, some (.ref D), none, some (.ref C), some (.ref U), none, some (.int (0 + (i : Int))), some (.ref u3), w11, none, none, none] ∧ Gr mu0 F G F5 W ∧ Same F3 F5 ∧ MaG G F5 W u3 rs3 ess5 G5 ∧ G5.length = Gs.length ∧ ∀ (i : Nat) (row : List Int), Gs[i]? = some row → G5[i]? = some (if i < j then row ++ [100 + (i : Int)] else row))
        ⟨F3, ess3, Gs, _, _, rfl, gG, Same.refl F3, y4, rfl, fun i row h => by rw [if_neg (Nat.not_lt_zero _)]; exact h⟩ (fun j σ W _ ⟨F5, ess5, G5, _, _, _, _, _, y5, _⟩ => SqL.of y5.ow.h) ?_ ?_⟩
      · rintro j pr σ W W' hj ⟨F5, ess5, G5, w3, w11, rfl, g5, s5, y5, l5, hG5⟩ ⟨T, x0, z0, rfl, nT, rfl, ex0, ey0⟩
        have ex0 : x0 = .int (j : Nat) := (Option.some.inj ex0).symm
        subst ex0
        obtain ⟨r, hr, rfl⟩ : ∃ r, rs3[j]? = some r ∧ z0 = .ref r := by
          have ey0 : (rs3.map V.ref)[j]? = some z0 := ey0
          rw [List.getElem?_map] at ey0
          obtain ⟨r, h, e⟩ := Option.map_eq_some_iff.mp ey0
          exact ⟨r, h, e.symm⟩
        have lr3 : rs3.length = Gs.length := by rw [y5.len, y5.dat.1, l5]
        have jR : j < Gs.length := by have := (List.getElem?_eq_some_iff.mp hr).1; omega
        have hBj : Gs[j]? = some (Gs[j]'(by omega)) := List.getElem?_eq_getElem _
        generalize Gs[j]'(by omega) = row at hBj
        have hB5j := hG5 j row hBj
        rw [if_neg (Nat.lt_irrefl _)] at hB5j
        have gT := g5.own (o := .tup [.int (j : Nat), .ref r]) nT
        have yT := y5.gr ((Gr.refl (mu := mu0) g5.fh).own (o := .tup [.int (j : Nat), .ref r]) nT) (fun c z => z.elim)
        have hT : (upd W T (.tup [.int (j : Nat), .ref r])) T = some (.tup [.int (j : Nat), .ref r]) := upd_same
        generalize upd W T (.tup [.int (j : Nat), .ref r]) = W1 at gT yT hT ⊢
        obtain ⟨r', es, h1, h2, w, al⟩ := yT.at hB5j
        rw [hr] at h1
        cases h1
        have lrow : row.length ≤ 20 := by
          have m := List.mem_of_getElem? hBj
          rw [← eG] at m
          obtain ⟨q', _, m⟩ := List.mem_flatMap.mp m
          unfold grpA at m
          split at m
          · cases m
          · split at m
            · cases m
            · rw [List.mem_singleton.mp m]
              have := grpK_len L (by assumption) L.length
              exact Nat.le_trans this (by omega)
        have les : es.length ≤ 20 := by rw [al.1]; exact lrow
        refine ⟨T, _, rfl, SqT.of hT, rfl, _, _, rfl, _, _, rfl, rfl, ?_⟩
        refine ⟨_, rfl, .inl ⟨rfl, _, SqL.of w.h⟩, _, rfl, _, _, rfl, rfl, r, _, _, rfl, rfl, w.h, lt_size (by omega), ?_⟩
        have y7 := yT.rep (es' := es ++ [.int (100 + (j : Int))]) hr h2 (al.app (All2.one rfl))
        refine ⟨F5, _, _, _, _, rfl, gT.set w.f (.inl w.n), s5, y7, by rw [List.length_set]; exact l5, fun i row' h => ?_⟩
        by_cases e : j = i
        · subst e
          rw [hBj] at h
          cases h
          rw [List.getElem?_set_self (by omega), if_pos (Nat.lt_succ_self _)]
        · rw [List.getElem?_set_ne e, hG5 i row' h]
          by_cases c : i < j
          · rw [if_pos c, if_pos (by omega)]
          · rw [if_neg c, if_neg (by omega)]
      · rintro σ W ⟨F5, ess5, G5, w3, w11, rfl, g5, s5, y5, l5, hG5⟩
        have lr3 : rs3.length = Gs.length := by rw [y5.len, y5.dat.1, l5]
        have hG5 : ∀ (i : Nat) (row : List Int), Gs[i]? = some row → G5[i]? = some (row ++ [100 + (i : Int)]) := fun i row h => by
          have z := hG5 i row h
          rwa [if_pos (by have := (List.getElem?_eq_some_iff.mp h).1; rw [List.length_map]; omega)] at z
        have t5 := g.trans g5.of0
        have up5 : ∀ c o, FU c = some o → F5 c = some o := fun c o e => s5 _ _ (up3 c o e)
        obtain ⟨_, us, eu, hU5, alU5⟩ := iU.up up5
        cases eu
        have lus : us.length = Gs.length := alU5.1
        refine ⟨_, rfl, _, rfl, U, us, rfl, .inl (SqL.of (t5.fh _ _ hU5)), (us.length : Int), rfl, by omega, by omega, fun D2 nD2 => lc_range (lo := 0) (n := ((us.length : Int)).toNat) (fun i W2 => ∃ (F6 : Hp) (zs : List V), Gr mu0 F5 W F6 W2 ∧ Ow W F6 W2 D2 (.lst zs) ∧ IsAll F6 zs (G5.take i) ∧ zs.length ≤ i)
          ⟨F5, [], (Gr.refl t5.fh).own nD2, Ow.mk1 (Gr.refl (mu := mu0) t5.fh) nD2, All2.nil, Nat.le_refl _⟩ ?_ ?_⟩
        · rintro k W2 hk ⟨F6, zs2, g6, w6, al6, lz6⟩
          have kl : k < us.length := by omega
          have hk1 : us[k]? = some (us[k]'kl) := List.getElem?_eq_getElem kl
          generalize us[k]'kl = uk at hk1
          obtain ⟨row, hrow, irow⟩ := alU5.get' hk1
          have hG5k := hG5 k row hrow
          obtain ⟨ra, re, rfl, hra, hre⟩ := irow
          rw [show (0 + (k : Int)) = (k : Int) by omega]
          refine ⟨rfl, yes ⟨_, rfl, _, rfl, U, us, _, _, rfl, rfl, SqL.of (g6.fh _ _ (g6.ff _ _ hU5)), atI_nat hk1, _, rfl, _, _, rfl, rfl, one_le, fun p2 m2 => ?_⟩⟩
          have g7 := g6.own (o := .lst [.int (100 + (k : Int))]) m2
          have w7 := w6.own (u := .lst [.int (100 + (k : Int))]) m2
          have lre : re.length ≤ 1000 := by
            rw [hre.1]
            have m := List.mem_of_getElem? hrow
            rw [← eG] at m
            obtain ⟨q', _, m⟩ := List.mem_flatMap.mp m
            unfold grpA at m
            split at m
            · cases m
            · split at m
              · cases m
              · rw [List.mem_singleton.mp m]
                have := grpK_len L (by assumption) L.length
                exact Nat.le_trans this (by omega)
          refine ⟨ra, p2, _, _, rfl, rfl, g7.fh _ _ (g6.ff _ _ hra), upd_same, le_size (by show re.length + 1 ≤ 1000000; omega), fun p3 m3 => ?_⟩
          have g8 := g7.new (o := .lst (re ++ [.int (100 + (k : Int))])) m3
          have w8 := w7.new (u := .lst (re ++ [.int (100 + (k : Int))])) m3
          have s8 := sm_new (o := .lst (re ++ [.int (100 + (k : Int))])) (Same.refl F6) (g7.fh.free m3)
          refine ⟨zs2, w8.h, lt_size (by omega), _, zs2 ++ [.ref p3], g8.set w8.f (.inl w8.n), w8.set, ?_, by rw [List.length_append]; show zs2.length + 1 ≤ _; omega⟩
          rw [List.take_add_one, hG5k]
          exact (IsAll.up al6 s8).app (All2.one ⟨p3, _, rfl, upd_same, (IsAll.up (IsAll.up hre g6.ff) s8).app (All2.one rfl)⟩)
        rintro W2 ⟨F6, zs2, g6, w6, al6, lz6⟩
        rw [Int.toNat_natCast, lus, ← l5, List.take_length] at al6
        have t6 := t5.trans g6.of0
        have y6 := y5.gr g6 (fun c z => z.elim)
        refine ne_dat (a := G5) (b := G5) (y6.isH t6.fh) ⟨D2, zs2, rfl, w6.h, IsAll.up al6 t6.fh⟩ ⟨_, rfl, ifF (by rw [decide_eq_true rfl]; rfl) ?_⟩
        exact ⟨F6, _, _, _, _, rfl, t6, fun c o e => g6.ff _ _ (up5 c o e), (g5.trans g6).fr _ _ hpG (fun z => z)⟩
    rintro σ G ⟨F, v3, v9, v10, v11, rfl, g, sF, hpG⟩
    have hLMF := sF _ _ hLMU
    refine ⟨_, rfl, _, rfl, LM, xs, rfl, .inl (SqL.of (g.fh _ _ hLMF)), p, u, z, _, rfl, hpG, hu, hz, by omega, by omega, fun d3 a3 b3 d30 d31 ha3 hb3 => ?_⟩
    obtain ⟨g3, _⟩ := g.drw (a := a3) (b := b3) np hp1
    generalize upd G p (PurseO a3 b3) = G3 at g3 ⊢
    obtain ⟨k3, rfl⟩ : ∃ z : Nat, d3 = (z : Int) := Int.eq_ofNat_of_zero_le d30
    have at1 : ∀ k : Nat, k < xs.length → ∃ (x1 zk : V) (M1 : Mach) (R S : Nat), cs[k]? = some x1 ∧ zs[k]? = some zk ∧ Is FU x1 M1 ∧ MOk M1 R S ∧ Is FU zk (keyT (lfM M1)) := fun k hk => by
      have h1 : cs[k]? = some (cs[k]'(by omega)) := List.getElem?_eq_getElem _
      have h2 : zs[k]? = some (zs[k]'(by omega)) := List.getElem?_eq_getElem _
      generalize cs[k]'(by omega) = x1 at h1
      generalize zs[k]'(by omega) = zk at h2
      obtain ⟨M1, hM1, i1⟩ := alCU.get' h1
      obtain ⟨R, S, ok1⟩ := oks M1 (List.mem_of_getElem? hM1)
      obtain ⟨K1, hK1, iK1⟩ := alKU.get' h2
      rw [List.getElem?_map, ← eL, List.getElem?_map, hM1] at hK1
      cases hK1
      exact ⟨x1, zk, M1, R, S, h1, h2, i1, ok1, iK1⟩
    obtain ⟨x1, z1, M1, R1, S1, hc1, hz1, i1, ok1, iz1⟩ := at1 k3 (by omega)
    refine ⟨_, rfl, LM, xs, rfl, .inl (SqL.of (g3.fh _ _ hLMF)), (xs.length : Int), rfl, by omega, by omega, for_range (lo := 0) (n := ((xs.length : Int)).toNat) (fun i σ W => ∃ (F6 : Hp) (v13 v14 : Option V), σ = [some (.ref a), some (.ref p), some (.ref LM), v3, some (.ref D), none, some (.ref C), some (.ref U), none, v9, v10, v11, some (.int (k3 : Nat)), v13, v14] ∧ Gr (muP p) H H1 F6 W ∧ Same FU F6) ⟨F, none, none, rfl, g3, sF⟩ ?_ ?_⟩
    · rintro i σ W hi ⟨F6, v13, v14, rfl, g6, s6⟩
      obtain ⟨x2, z2, M2, R2, S2, hc2, hz2, i2, ok2, iz2⟩ := at1 i (by omega)
      rw [show (0 + (i : Int)) = (i : Int) by omega]
      have hC6 := g6.fh _ _ (s6 _ _ hCU)
      refine ⟨_, rfl, _, rfl, C, cs, _, _, rfl, rfl, SqL.of hC6, atI_nat hc1, _, rfl, _, rfl, C, cs, _, _, rfl, rfl, SqL.of hC6, atI_nat hc2, F6, x1, x2, M1, M2, R1, S1, R2, S2, rfl, g6.fh, i1.up s6, ok1, i2.up s6, ok2, fun F8 W8 g8 => ?_⟩
      have t8 := g6.trans g8.of0
      have s8 : ∀ c o, FU c = some o → F8 c = some o := fun c o e => g8.ff _ _ (s6 _ _ e)
      have hD8 := t8.fh _ _ (s8 _ _ hDU)
      have e : decide (keyT (lfM M1) = keyT (lfM M2)) = decide (lfM M1 = lfM M2) := decide_eq_decide.mpr ⟨keyT_inj _ _, fun z => by rw [z]⟩
      refine ⟨_, rfl, _, _, _, _, true, rfl, .ty "bool", .base (.bl _), kit_ty (by decide +kernel), _, rfl, ifF rfl ?_⟩
      refine ⟨_, rfl, _, rfl, _, rfl, D, zs, _, _, rfl, rfl, SqL.of hD8, atI_nat hz1, _, rfl, _, rfl, D, zs, _, _, rfl, rfl, SqL.of hD8, atI_nat hz2, eq_dat (a := keyT (lfM M1)) (b := keyT (lfM M2)) ((iz1.up s8).up t8.fh) ((iz2.up s8).up t8.fh) ?_⟩
      rw [e]
      refine ⟨rfl, _, rfl, ifF (by rw [decide_eq_true rfl]; rfl) ?_⟩
      refine ⟨_, rfl, _, rfl, ne_dat (a := Ms) (b := Ms) ((iCU.up s8).up t8.fh) ((iMU.up s8).up t8.fh) ⟨_, rfl, ifF (by rw [decide_eq_true rfl]; rfl) ?_⟩⟩
      exact ⟨F8, _, _, rfl, t8, s8⟩
    · rintro σ W ⟨F6, v13, v14, rfl, g6, s6⟩
      refine ⟨nil_le, fun l1 n1 => ?_⟩
      have g7 := g6.new (o := .lst []) n1
      have i7 : Is (upd F6 l1 (.lst [])) (.ref l1) ([] : List Mach) := ⟨l1, [], rfl, upd_same, All2.nil⟩
      refine ⟨_, .ref l1, [], rfl, g7.fh, i7, Nat.zero_le _, (fun M m => nomatch m), fun F8 W8 u8 rs8 es8 g8 y8 => ?_⟩
      have t8 := g7.trans g8.of0
      refine ⟨nil_le, fun l2 n2 => ?_⟩
      have g9 := t8.own (o := .lst []) n2
      have y9 := y8.gr ((Gr.refl (mu := mu0) t8.fh).own (o := .lst []) n2) (fun c z => z.elim)
      refine eq_dat (a := ([] : List (List Int))) (b := []) (y9.isH g9.fh) ⟨l2, [], rfl, upd_same, All2.nil⟩ ?_
      rw [decide_eq_true rfl]
      exact q _

end
def all_tx {K : PySem.W.Frag} {h : Heap} {mg : Str → Option Value} {a_L_mixed a_L_purse a_L_draw a_L_copy a_is_entry a_is_machine a_must_machine a_orders a_named a_least_form a_groups a_size_of a_are_alike a_L_order a_L_named a_L_like a_L_machine a_L_next a_L_plainly a_law C_NoMachine : Addr} {od_L_mixed an_L_mixed od_L_purse an_L_purse od_L_draw an_L_draw od_L_copy an_L_copy od_is_entry an_is_entry od_is_machine an_is_machine od_must_machine an_must_machine od_orders an_orders od_named an_named od_least_form an_least_form od_groups an_groups od_size_of an_size_of od_are_alike an_are_alike od_L_order an_L_order od_L_named an_L_named od_L_like an_L_like od_L_machine an_L_machine od_L_next an_L_next od_L_plainly an_L_plainly od_law an_law : Option Addr} {sl_L_mixed sl_L_purse sl_L_draw sl_L_copy sl_is_entry sl_is_machine sl_must_machine sl_orders sl_named sl_least_form sl_groups sl_size_of sl_are_alike sl_L_order sl_L_named sl_L_like sl_L_machine sl_L_next sl_L_plainly sl_law : Array (Option Value)} {oc_L_mixed kV_L_mixed dc_L_mixed pm_L_mixed cd_L_mixed ct_L_mixed oc_L_purse kV_L_purse dc_L_purse pm_L_purse cd_L_purse ct_L_purse oc_L_draw kV_L_draw dc_L_draw pm_L_draw cd_L_draw ct_L_draw oc_L_copy kV_L_copy dc_L_copy pm_L_copy cd_L_copy ct_L_copy oc_is_entry kV_is_entry dc_is_entry pm_is_entry cd_is_entry ct_is_entry oc_is_machine kV_is_machine dc_is_machine pm_is_machine cd_is_machine ct_is_machine oc_must_machine kV_must_machine dc_must_machine pm_must_machine cd_must_machine ct_must_machine oc_orders kV_orders dc_orders pm_orders cd_orders ct_orders oc_named kV_named dc_named pm_named cd_named ct_named oc_least_form kV_least_form dc_least_form pm_least_form cd_least_form ct_least_form oc_groups kV_groups dc_groups pm_groups cd_groups ct_groups oc_size_of kV_size_of dc_size_of pm_size_of cd_size_of ct_size_of oc_are_alike kV_are_alike dc_are_alike pm_are_alike cd_are_alike ct_are_alike oc_L_order kV_L_order dc_L_order pm_L_order cd_L_order ct_L_order oc_L_named kV_L_named dc_L_named pm_L_named cd_L_named ct_L_named oc_L_like kV_L_like dc_L_like pm_L_like cd_L_like ct_L_like oc_L_machine kV_L_machine dc_L_machine pm_L_machine cd_L_machine ct_L_machine oc_L_next kV_L_next dc_L_next pm_L_next cd_L_next ct_L_next oc_L_plainly kV_L_plainly dc_L_plainly pm_L_plainly cd_L_plainly ct_L_plainly oc_law kV_law dc_law pm_law cd_law ct_law : Value} {tk_MOST_ROWS tk_MOST_SIGNS : Tok} (X : K.In h) (G : h.Ns mainGlobals mg)
    (n_NoMachine : PySem.W.nsIn K mainGlobals "NoMachine" = some (some (.ref C_NoMachine)))
    (n_L_mixed : PySem.W.nsIn K mainGlobals "_law_mixed" = some (some (.ref a_L_mixed)))
    (l_L_mixed : K.lookup a_L_mixed = some ⟨oc_L_mixed, od_L_mixed, .func (PySem.W.fnOf "_law_mixed" "_law_mixed" (defArgs s_L_mixed) (defBody s_L_mixed) (defScope s_L_mixed) .none kV_L_mixed dc_L_mixed pm_L_mixed an_L_mixed cd_L_mixed ct_L_mixed), sl_L_mixed⟩)
    (c_L_mixed : PySem.W.codeIn K cd_L_mixed "_law_mixed" = true)
    (k_L_mixed : PySem.W.keepIn K (.ref a_L_mixed) = true)
    (n_L_purse : PySem.W.nsIn K mainGlobals "_law_purse" = some (some (.ref a_L_purse)))
    (l_L_purse : K.lookup a_L_purse = some ⟨oc_L_purse, od_L_purse, .func (PySem.W.fnOf "_law_purse" "_law_purse" (defArgs s_L_purse) (defBody s_L_purse) (defScope s_L_purse) .none kV_L_purse dc_L_purse pm_L_purse an_L_purse cd_L_purse ct_L_purse), sl_L_purse⟩)
    (c_L_purse : PySem.W.codeIn K cd_L_purse "_law_purse" = true)
    (k_L_purse : PySem.W.keepIn K (.ref a_L_purse) = true)
    (n_L_draw : PySem.W.nsIn K mainGlobals "_law_draw" = some (some (.ref a_L_draw)))
    (l_L_draw : K.lookup a_L_draw = some ⟨oc_L_draw, od_L_draw, .func (PySem.W.fnOf "_law_draw" "_law_draw" (defArgs s_L_draw) (defBody s_L_draw) (defScope s_L_draw) .none kV_L_draw dc_L_draw pm_L_draw an_L_draw cd_L_draw ct_L_draw), sl_L_draw⟩)
    (c_L_draw : PySem.W.codeIn K cd_L_draw "_law_draw" = true)
    (k_L_draw : PySem.W.keepIn K (.ref a_L_draw) = true)
    (n_L_copy : PySem.W.nsIn K mainGlobals "_law_copy" = some (some (.ref a_L_copy)))
    (l_L_copy : K.lookup a_L_copy = some ⟨oc_L_copy, od_L_copy, .func (PySem.W.fnOf "_law_copy" "_law_copy" (defArgs s_L_copy) (defBody s_L_copy) (defScope s_L_copy) .none kV_L_copy dc_L_copy pm_L_copy an_L_copy cd_L_copy ct_L_copy), sl_L_copy⟩)
    (c_L_copy : PySem.W.codeIn K cd_L_copy "_law_copy" = true)
    (k_L_copy : PySem.W.keepIn K (.ref a_L_copy) = true)
    (n_is_entry : PySem.W.nsIn K mainGlobals "is_entry" = some (some (.ref a_is_entry)))
    (l_is_entry : K.lookup a_is_entry = some ⟨oc_is_entry, od_is_entry, .func (PySem.W.fnOf "is_entry" "is_entry" (defArgs s_is_entry) (defBody s_is_entry) (defScope s_is_entry) .none kV_is_entry dc_is_entry pm_is_entry an_is_entry cd_is_entry ct_is_entry), sl_is_entry⟩)
    (c_is_entry : PySem.W.codeIn K cd_is_entry "is_entry" = true)
    (k_is_entry : PySem.W.keepIn K (.ref a_is_entry) = true)
    (n_is_machine : PySem.W.nsIn K mainGlobals "is_machine" = some (some (.ref a_is_machine)))
    (l_is_machine : K.lookup a_is_machine = some ⟨oc_is_machine, od_is_machine, .func (PySem.W.fnOf "is_machine" "is_machine" (defArgs s_is_machine) (defBody s_is_machine) (defScope s_is_machine) .none kV_is_machine dc_is_machine pm_is_machine an_is_machine cd_is_machine ct_is_machine), sl_is_machine⟩)
    (c_is_machine : PySem.W.codeIn K cd_is_machine "is_machine" = true)
    (k_is_machine : PySem.W.keepIn K (.ref a_is_machine) = true)
    (n_must_machine : PySem.W.nsIn K mainGlobals "must_machine" = some (some (.ref a_must_machine)))
    (l_must_machine : K.lookup a_must_machine = some ⟨oc_must_machine, od_must_machine, .func (PySem.W.fnOf "must_machine" "must_machine" (defArgs s_must_machine) (defBody s_must_machine) (defScope s_must_machine) .none kV_must_machine dc_must_machine pm_must_machine an_must_machine cd_must_machine ct_must_machine), sl_must_machine⟩)
    (c_must_machine : PySem.W.codeIn K cd_must_machine "must_machine" = true)
    (k_must_machine : PySem.W.keepIn K (.ref a_must_machine) = true)
    (n_orders : PySem.W.nsIn K mainGlobals "orders" = some (some (.ref a_orders)))
    (l_orders : K.lookup a_orders = some ⟨oc_orders, od_orders, .func (PySem.W.fnOf "orders" "orders" (defArgs s_orders) (defBody s_orders) (defScope s_orders) .none kV_orders dc_orders pm_orders an_orders cd_orders ct_orders), sl_orders⟩)
    (c_orders : PySem.W.codeIn K cd_orders "orders" = true)
    (k_orders : PySem.W.keepIn K (.ref a_orders) = true)
    (n_named : PySem.W.nsIn K mainGlobals "named" = some (some (.ref a_named)))
    (l_named : K.lookup a_named = some ⟨oc_named, od_named, .func (PySem.W.fnOf "named" "named" (defArgs s_named) (defBody s_named) (defScope s_named) .none kV_named dc_named pm_named an_named cd_named ct_named), sl_named⟩)
    (c_named : PySem.W.codeIn K cd_named "named" = true)
    (k_named : PySem.W.keepIn K (.ref a_named) = true)
    (n_least_form : PySem.W.nsIn K mainGlobals "least_form" = some (some (.ref a_least_form)))
    (l_least_form : K.lookup a_least_form = some ⟨oc_least_form, od_least_form, .func (PySem.W.fnOf "least_form" "least_form" (defArgs s_least_form) (defBody s_least_form) (defScope s_least_form) .none kV_least_form dc_least_form pm_least_form an_least_form cd_least_form ct_least_form), sl_least_form⟩)
    (c_least_form : PySem.W.codeIn K cd_least_form "least_form" = true)
    (k_least_form : PySem.W.keepIn K (.ref a_least_form) = true)
    (n_groups : PySem.W.nsIn K mainGlobals "groups" = some (some (.ref a_groups)))
    (l_groups : K.lookup a_groups = some ⟨oc_groups, od_groups, .func (PySem.W.fnOf "groups" "groups" (defArgs s_groups) (defBody s_groups) (defScope s_groups) .none kV_groups dc_groups pm_groups an_groups cd_groups ct_groups), sl_groups⟩)
    (c_groups : PySem.W.codeIn K cd_groups "groups" = true)
    (k_groups : PySem.W.keepIn K (.ref a_groups) = true)
    (n_size_of : PySem.W.nsIn K mainGlobals "size_of" = some (some (.ref a_size_of)))
    (l_size_of : K.lookup a_size_of = some ⟨oc_size_of, od_size_of, .func (PySem.W.fnOf "size_of" "size_of" (defArgs s_size_of) (defBody s_size_of) (defScope s_size_of) .none kV_size_of dc_size_of pm_size_of an_size_of cd_size_of ct_size_of), sl_size_of⟩)
    (c_size_of : PySem.W.codeIn K cd_size_of "size_of" = true)
    (k_size_of : PySem.W.keepIn K (.ref a_size_of) = true)
    (n_are_alike : PySem.W.nsIn K mainGlobals "are_alike" = some (some (.ref a_are_alike)))
    (l_are_alike : K.lookup a_are_alike = some ⟨oc_are_alike, od_are_alike, .func (PySem.W.fnOf "are_alike" "are_alike" (defArgs s_are_alike) (defBody s_are_alike) (defScope s_are_alike) .none kV_are_alike dc_are_alike pm_are_alike an_are_alike cd_are_alike ct_are_alike), sl_are_alike⟩)
    (c_are_alike : PySem.W.codeIn K cd_are_alike "are_alike" = true)
    (k_are_alike : PySem.W.keepIn K (.ref a_are_alike) = true)
    (n_L_order : PySem.W.nsIn K mainGlobals "_law_order" = some (some (.ref a_L_order)))
    (l_L_order : K.lookup a_L_order = some ⟨oc_L_order, od_L_order, .func (PySem.W.fnOf "_law_order" "_law_order" (defArgs s_L_order) (defBody s_L_order) (defScope s_L_order) .none kV_L_order dc_L_order pm_L_order an_L_order cd_L_order ct_L_order), sl_L_order⟩)
    (c_L_order : PySem.W.codeIn K cd_L_order "_law_order" = true)
    (k_L_order : PySem.W.keepIn K (.ref a_L_order) = true)
    (n_L_named : PySem.W.nsIn K mainGlobals "_law_named" = some (some (.ref a_L_named)))
    (l_L_named : K.lookup a_L_named = some ⟨oc_L_named, od_L_named, .func (PySem.W.fnOf "_law_named" "_law_named" (defArgs s_L_named) (defBody s_L_named) (defScope s_L_named) .none kV_L_named dc_L_named pm_L_named an_L_named cd_L_named ct_L_named), sl_L_named⟩)
    (c_L_named : PySem.W.codeIn K cd_L_named "_law_named" = true)
    (k_L_named : PySem.W.keepIn K (.ref a_L_named) = true)
    (n_L_like : PySem.W.nsIn K mainGlobals "_law_like" = some (some (.ref a_L_like)))
    (l_L_like : K.lookup a_L_like = some ⟨oc_L_like, od_L_like, .func (PySem.W.fnOf "_law_like" "_law_like" (defArgs s_L_like) (defBody s_L_like) (defScope s_L_like) .none kV_L_like dc_L_like pm_L_like an_L_like cd_L_like ct_L_like), sl_L_like⟩)
    (c_L_like : PySem.W.codeIn K cd_L_like "_law_like" = true)
    (k_L_like : PySem.W.keepIn K (.ref a_L_like) = true)
    (n_L_machine : PySem.W.nsIn K mainGlobals "_law_machine" = some (some (.ref a_L_machine)))
    (l_L_machine : K.lookup a_L_machine = some ⟨oc_L_machine, od_L_machine, .func (PySem.W.fnOf "_law_machine" "_law_machine" (defArgs s_L_machine) (defBody s_L_machine) (defScope s_L_machine) .none kV_L_machine dc_L_machine pm_L_machine an_L_machine cd_L_machine ct_L_machine), sl_L_machine⟩)
    (c_L_machine : PySem.W.codeIn K cd_L_machine "_law_machine" = true)
    (k_L_machine : PySem.W.keepIn K (.ref a_L_machine) = true)
    (n_L_next : PySem.W.nsIn K mainGlobals "_law_next" = some (some (.ref a_L_next)))
    (l_L_next : K.lookup a_L_next = some ⟨oc_L_next, od_L_next, .func (PySem.W.fnOf "_law_next" "_law_next" (defArgs s_L_next) (defBody s_L_next) (defScope s_L_next) .none kV_L_next dc_L_next pm_L_next an_L_next cd_L_next ct_L_next), sl_L_next⟩)
    (c_L_next : PySem.W.codeIn K cd_L_next "_law_next" = true)
    (k_L_next : PySem.W.keepIn K (.ref a_L_next) = true)
    (n_L_plainly : PySem.W.nsIn K mainGlobals "_law_plainly" = some (some (.ref a_L_plainly)))
    (l_L_plainly : K.lookup a_L_plainly = some ⟨oc_L_plainly, od_L_plainly, .func (PySem.W.fnOf "_law_plainly" "_law_plainly" (defArgs s_L_plainly) (defBody s_L_plainly) (defScope s_L_plainly) .none kV_L_plainly dc_L_plainly pm_L_plainly an_L_plainly cd_L_plainly ct_L_plainly), sl_L_plainly⟩)
    (c_L_plainly : PySem.W.codeIn K cd_L_plainly "_law_plainly" = true)
    (k_L_plainly : PySem.W.keepIn K (.ref a_L_plainly) = true)
    (n_law : PySem.W.nsIn K mainGlobals "law" = some (some (.ref a_law)))
    (l_law : K.lookup a_law = some ⟨oc_law, od_law, .func (PySem.W.fnOf "law" "law" (defArgs s_law) (defBody s_law) (defScope s_law) .none kV_law dc_law pm_law an_law cd_law ct_law), sl_law⟩)
    (c_law : PySem.W.codeIn K cd_law "law" = true)
    (k_law : PySem.W.keepIn K (.ref a_law) = true)
    (n_MOST_ROWS : PySem.W.nsIn K mainGlobals "MOST_ROWS" = some (some (.int 4 tk_MOST_ROWS)))
    (n_MOST_SIGNS : PySem.W.nsIn K mainGlobals "MOST_SIGNS" = some (some (.int 4 tk_MOST_SIGNS)))
    (z_range : PySem.W.nsIn K mainGlobals "range" = some none)
    (z_len : PySem.W.nsIn K mainGlobals "len" = some none)
    (z_list : PySem.W.nsIn K mainGlobals "list" = some none)
    (z_all : PySem.W.nsIn K mainGlobals "all" = some none)
    (z_min : PySem.W.nsIn K mainGlobals "min" = some none)
    (z_enumerate : PySem.W.nsIn K mainGlobals "enumerate" = some none)
    (z_isinstance : PySem.W.nsIn K mainGlobals "isinstance" = some none)
    (z_tuple : PySem.W.nsIn K mainGlobals "tuple" = some none)
    (z_str : PySem.W.nsIn K mainGlobals "str" = some none)
    (z_int : PySem.W.nsIn K mainGlobals "int" = some none)
    (z_bool : PySem.W.nsIn K mainGlobals "bool" = some none) : Tx K mg where
  a_L_mixed := a_L_mixed
  fd_L_mixed := PySem.W.fnOf "_law_mixed" "_law_mixed" (defArgs s_L_mixed) (defBody s_L_mixed) (defScope s_L_mixed) .none kV_L_mixed dc_L_mixed pm_L_mixed an_L_mixed cd_L_mixed ct_L_mixed
  F_L_mixed := fun_mk l_L_mixed c_L_mixed k_L_mixed
  b_L_mixed := (fun_mk (st := s_L_mixed) l_L_mixed c_L_mixed k_L_mixed).binds (ps := ["_law_cell", "_law_k"]) fun _ _ _ _ _ _ us hl => match us, hl with | [_, _], _ => rfl
  m_L_mixed := PySem.W.mg_of X G n_L_mixed
  a_L_purse := a_L_purse
  fd_L_purse := PySem.W.fnOf "_law_purse" "_law_purse" (defArgs s_L_purse) (defBody s_L_purse) (defScope s_L_purse) .none kV_L_purse dc_L_purse pm_L_purse an_L_purse cd_L_purse ct_L_purse
  F_L_purse := fun_mk l_L_purse c_L_purse k_L_purse
  b_L_purse := (fun_mk (st := s_L_purse) l_L_purse c_L_purse k_L_purse).binds (ps := ["_law_script"]) fun _ _ _ _ _ _ us hl => match us, hl with | [_], _ => rfl
  m_L_purse := PySem.W.mg_of X G n_L_purse
  a_L_draw := a_L_draw
  fd_L_draw := PySem.W.fnOf "_law_draw" "_law_draw" (defArgs s_L_draw) (defBody s_L_draw) (defScope s_L_draw) .none kV_L_draw dc_L_draw pm_L_draw an_L_draw cd_L_draw ct_L_draw
  F_L_draw := fun_mk l_L_draw c_L_draw k_L_draw
  b_L_draw := (fun_mk (st := s_L_draw) l_L_draw c_L_draw k_L_draw).binds (ps := ["_law_purse_here", "_law_out_of"]) fun _ _ _ _ _ _ us hl => match us, hl with | [_, _], _ => rfl
  m_L_draw := PySem.W.mg_of X G n_L_draw
  a_L_copy := a_L_copy
  fd_L_copy := PySem.W.fnOf "_law_copy" "_law_copy" (defArgs s_L_copy) (defBody s_L_copy) (defScope s_L_copy) .none kV_L_copy dc_L_copy pm_L_copy an_L_copy cd_L_copy ct_L_copy
  F_L_copy := fun_mk l_L_copy c_L_copy k_L_copy
  b_L_copy := (fun_mk (st := s_L_copy) l_L_copy c_L_copy k_L_copy).binds (ps := ["_law_machine_here"]) fun _ _ _ _ _ _ us hl => match us, hl with | [_], _ => rfl
  m_L_copy := PySem.W.mg_of X G n_L_copy
  a_is_entry := a_is_entry
  fd_is_entry := PySem.W.fnOf "is_entry" "is_entry" (defArgs s_is_entry) (defBody s_is_entry) (defScope s_is_entry) .none kV_is_entry dc_is_entry pm_is_entry an_is_entry cd_is_entry ct_is_entry
  F_is_entry := fun_mk l_is_entry c_is_entry k_is_entry
  b_is_entry := (fun_mk (st := s_is_entry) l_is_entry c_is_entry k_is_entry).binds (ps := ["entry", "rows", "signs"]) fun _ _ _ _ _ _ us hl => match us, hl with | [_, _, _], _ => rfl
  m_is_entry := PySem.W.mg_of X G n_is_entry
  a_is_machine := a_is_machine
  fd_is_machine := PySem.W.fnOf "is_machine" "is_machine" (defArgs s_is_machine) (defBody s_is_machine) (defScope s_is_machine) .none kV_is_machine dc_is_machine pm_is_machine an_is_machine cd_is_machine ct_is_machine
  F_is_machine := fun_mk l_is_machine c_is_machine k_is_machine
  b_is_machine := (fun_mk (st := s_is_machine) l_is_machine c_is_machine k_is_machine).binds (ps := ["machine"]) fun _ _ _ _ _ _ us hl => match us, hl with | [_], _ => rfl
  m_is_machine := PySem.W.mg_of X G n_is_machine
  a_must_machine := a_must_machine
  fd_must_machine := PySem.W.fnOf "must_machine" "must_machine" (defArgs s_must_machine) (defBody s_must_machine) (defScope s_must_machine) .none kV_must_machine dc_must_machine pm_must_machine an_must_machine cd_must_machine ct_must_machine
  F_must_machine := fun_mk l_must_machine c_must_machine k_must_machine
  b_must_machine := (fun_mk (st := s_must_machine) l_must_machine c_must_machine k_must_machine).binds (ps := ["machine"]) fun _ _ _ _ _ _ us hl => match us, hl with | [_], _ => rfl
  m_must_machine := PySem.W.mg_of X G n_must_machine
  a_orders := a_orders
  fd_orders := PySem.W.fnOf "orders" "orders" (defArgs s_orders) (defBody s_orders) (defScope s_orders) .none kV_orders dc_orders pm_orders an_orders cd_orders ct_orders
  F_orders := fun_mk l_orders c_orders k_orders
  b_orders := (fun_mk (st := s_orders) l_orders c_orders k_orders).binds (ps := ["many"]) fun _ _ _ _ _ _ us hl => match us, hl with | [_], _ => rfl
  m_orders := PySem.W.mg_of X G n_orders
  a_named := a_named
  fd_named := PySem.W.fnOf "named" "named" (defArgs s_named) (defBody s_named) (defScope s_named) .none kV_named dc_named pm_named an_named cd_named ct_named
  F_named := fun_mk l_named c_named k_named
  b_named := (fun_mk (st := s_named) l_named c_named k_named).binds (ps := ["machine", "rows", "signs", "turned"]) fun _ _ _ _ _ _ us hl => match us, hl with | [_, _, _, _], _ => rfl
  m_named := PySem.W.mg_of X G n_named
  a_least_form := a_least_form
  fd_least_form := PySem.W.fnOf "least_form" "least_form" (defArgs s_least_form) (defBody s_least_form) (defScope s_least_form) .none kV_least_form dc_least_form pm_least_form an_least_form cd_least_form ct_least_form
  F_least_form := fun_mk l_least_form c_least_form k_least_form
  b_least_form := (fun_mk (st := s_least_form) l_least_form c_least_form k_least_form).binds (ps := ["machine"]) fun _ _ _ _ _ _ us hl => match us, hl with | [_], _ => rfl
  m_least_form := PySem.W.mg_of X G n_least_form
  a_groups := a_groups
  fd_groups := PySem.W.fnOf "groups" "groups" (defArgs s_groups) (defBody s_groups) (defScope s_groups) .none kV_groups dc_groups pm_groups an_groups cd_groups ct_groups
  F_groups := fun_mk l_groups c_groups k_groups
  b_groups := (fun_mk (st := s_groups) l_groups c_groups k_groups).binds (ps := ["machines"]) fun _ _ _ _ _ _ us hl => match us, hl with | [_], _ => rfl
  m_groups := PySem.W.mg_of X G n_groups
  a_size_of := a_size_of
  fd_size_of := PySem.W.fnOf "size_of" "size_of" (defArgs s_size_of) (defBody s_size_of) (defScope s_size_of) .none kV_size_of dc_size_of pm_size_of an_size_of cd_size_of ct_size_of
  F_size_of := fun_mk l_size_of c_size_of k_size_of
  b_size_of := (fun_mk (st := s_size_of) l_size_of c_size_of k_size_of).binds (ps := ["machine"]) fun _ _ _ _ _ _ us hl => match us, hl with | [_], _ => rfl
  m_size_of := PySem.W.mg_of X G n_size_of
  a_are_alike := a_are_alike
  fd_are_alike := PySem.W.fnOf "are_alike" "are_alike" (defArgs s_are_alike) (defBody s_are_alike) (defScope s_are_alike) .none kV_are_alike dc_are_alike pm_are_alike an_are_alike cd_are_alike ct_are_alike
  F_are_alike := fun_mk l_are_alike c_are_alike k_are_alike
  b_are_alike := (fun_mk (st := s_are_alike) l_are_alike c_are_alike k_are_alike).binds (ps := ["one", "other"]) fun _ _ _ _ _ _ us hl => match us, hl with | [_, _], _ => rfl
  m_are_alike := PySem.W.mg_of X G n_are_alike
  a_L_order := a_L_order
  fd_L_order := PySem.W.fnOf "_law_order" "_law_order" (defArgs s_L_order) (defBody s_L_order) (defScope s_L_order) .none kV_L_order dc_L_order pm_L_order an_L_order cd_L_order ct_L_order
  F_L_order := fun_mk l_L_order c_L_order k_L_order
  b_L_order := (fun_mk (st := s_L_order) l_L_order c_L_order k_L_order).binds (ps := ["_law_purse_here", "_law_many"]) fun _ _ _ _ _ _ us hl => match us, hl with | [_, _], _ => rfl
  m_L_order := PySem.W.mg_of X G n_L_order
  a_L_named := a_L_named
  fd_L_named := PySem.W.fnOf "_law_named" "_law_named" (defArgs s_L_named) (defBody s_L_named) (defScope s_L_named) .none kV_L_named dc_L_named pm_L_named an_L_named cd_L_named ct_L_named
  F_L_named := fun_mk l_L_named c_L_named k_L_named
  b_L_named := (fun_mk (st := s_L_named) l_L_named c_L_named k_L_named).binds (ps := ["_law_machine_here", "_law_rows", "_law_signs", "_law_side"]) fun _ _ _ _ _ _ us hl => match us, hl with | [_, _, _, _], _ => rfl
  m_L_named := PySem.W.mg_of X G n_L_named
  a_L_like := a_L_like
  fd_L_like := PySem.W.fnOf "_law_like" "_law_like" (defArgs s_L_like) (defBody s_L_like) (defScope s_L_like) .none kV_L_like dc_L_like pm_L_like an_L_like cd_L_like ct_L_like
  F_L_like := fun_mk l_L_like c_L_like k_L_like
  b_L_like := (fun_mk (st := s_L_like) l_L_like c_L_like k_L_like).binds (ps := ["_law_purse_here", "_law_machine_here"]) fun _ _ _ _ _ _ us hl => match us, hl with | [_, _], _ => rfl
  m_L_like := PySem.W.mg_of X G n_L_like
  a_L_machine := a_L_machine
  fd_L_machine := PySem.W.fnOf "_law_machine" "_law_machine" (defArgs s_L_machine) (defBody s_L_machine) (defScope s_L_machine) .none kV_L_machine dc_L_machine pm_L_machine an_L_machine cd_L_machine ct_L_machine
  F_L_machine := fun_mk l_L_machine c_L_machine k_L_machine
  b_L_machine := (fun_mk (st := s_L_machine) l_L_machine c_L_machine k_L_machine).binds (ps := ["_law_purse_here", "_law_rows", "_law_signs"]) fun _ _ _ _ _ _ us hl => match us, hl with | [_, _, _], _ => rfl
  m_L_machine := PySem.W.mg_of X G n_L_machine
  a_L_next := a_L_next
  fd_L_next := PySem.W.fnOf "_law_next" "_law_next" (defArgs s_L_next) (defBody s_L_next) (defScope s_L_next) .none kV_L_next dc_L_next pm_L_next an_L_next cd_L_next ct_L_next
  F_L_next := fun_mk l_L_next c_L_next k_L_next
  b_L_next := (fun_mk (st := s_L_next) l_L_next c_L_next k_L_next).binds (ps := ["_law_purse_here", "_law_machines"]) fun _ _ _ _ _ _ us hl => match us, hl with | [_, _], _ => rfl
  m_L_next := PySem.W.mg_of X G n_L_next
  a_L_plainly := a_L_plainly
  fd_L_plainly := PySem.W.fnOf "_law_plainly" "_law_plainly" (defArgs s_L_plainly) (defBody s_L_plainly) (defScope s_L_plainly) .none kV_L_plainly dc_L_plainly pm_L_plainly an_L_plainly cd_L_plainly ct_L_plainly
  F_L_plainly := fun_mk l_L_plainly c_L_plainly k_L_plainly
  b_L_plainly := (fun_mk (st := s_L_plainly) l_L_plainly c_L_plainly k_L_plainly).binds (ps := ["_law_found"]) fun _ _ _ _ _ _ us hl => match us, hl with | [_], _ => rfl
  m_L_plainly := PySem.W.mg_of X G n_L_plainly
  a_law := a_law
  fd_law := PySem.W.fnOf "law" "law" (defArgs s_law) (defBody s_law) (defScope s_law) .none kV_law dc_law pm_law an_law cd_law ct_law
  F_law := fun_mk l_law c_law k_law
  b_law := (fun_mk (st := s_law) l_law c_law k_law).binds (ps := ["_law_script"]) fun _ _ _ _ _ _ us hl => match us, hl with | [_], _ => rfl
  m_law := PySem.W.mg_of X G n_law
  C_NoMachine := C_NoMachine
  m_NoMachine := PySem.W.mg_of X G n_NoMachine
  tk_MOST_ROWS := tk_MOST_ROWS
  m_MOST_ROWS := PySem.W.mg_of X G n_MOST_ROWS
  tk_MOST_SIGNS := tk_MOST_SIGNS
  m_MOST_SIGNS := PySem.W.mg_of X G n_MOST_SIGNS
  n_range := PySem.W.mg_none_of X G z_range
  n_len := PySem.W.mg_none_of X G z_len
  n_list := PySem.W.mg_none_of X G z_list
  n_all := PySem.W.mg_none_of X G z_all
  n_min := PySem.W.mg_none_of X G z_min
  n_enumerate := PySem.W.mg_none_of X G z_enumerate
  n_isinstance := PySem.W.mg_none_of X G z_isinstance
  n_tuple := PySem.W.mg_none_of X G z_tuple
  n_str := PySem.W.mg_none_of X G z_str
  n_int := PySem.W.mg_none_of X G z_int
  n_bool := PySem.W.mg_none_of X G z_bool
theorem all_mk {l : PySem.W.OpenLaw} {w : World} {K : PySem.W.Frag} {h : Heap} {mg : Str → Option Value} {fa : Addr} (X : K.In h) (G : h.Ns mainGlobals mg) (hfa : mg "law" = some (.ref fa)) (t : Tx K mg)
    (hb : ∃ (kV dc pm : Value) (an : Option Addr) (cd ct : Value), t.fd_law = PySem.W.fnOf "law" "law" (defArgs s_law) (defBody s_law) (defScope s_law) .none kV dc pm an cd ct) :
    ∃ fd : FuncData, (∀ (s : Shared) (v : Value), BindsTo s fd ⟨[v], []⟩ [("_law_script", v)]) ∧ ∀ base : Heap, K.In base → base.Ns mainGlobals mg → FnOk l.prog w K mg base CX0 7 fa fd ["_law_script"] (sp_law K) := by
  have e := hfa.symm.trans t.m_law
  cases e
  refine ⟨t.fd_law, fun s v => ?_, fun base _ _ => ok_law t⟩
  obtain ⟨kV, dc, pm, an, cd, ct, e⟩ := hb
  rw [e]
  exact .of_eq rfl
theorem walk {l : PySem.W.OpenLaw} {q : Program} {loose : List Str} {XP : (Str → Option Value) → Heap → Prop} {YP : World → Heap → Prop} {d : DefRec} {K : Params → PySem.W.Frag} (hn : l.most = some 63) (hdf : d.params.defaults = [])
    (hY : ∀ (w : World) (h : Heap), YP w h → (K w.params).In h)
    (F : ∀ (w : World) (mg : Str → Option Value) (fa : Addr) (h : Heap), (K w.params).In h → h.Ns mainGlobals mg → mg d.name = some (.ref fa) →
      ∃ fd : FuncData, (∀ (s : Shared) (u : Value), BindsTo s fd ⟨[u], []⟩ [("_law_script", u)]) ∧ ∀ base : Heap, (K w.params).In base → base.Ns mainGlobals mg → FnOk l.prog w (K w.params) mg base CX0 7 fa fd ["_law_script"] (sp_law (K w.params))) :
    PySem.W.WalkO q loose XP YP l.row.toRowW d [] (fun f vs => PySem.call f vs) :=
  L2.walk_of (n := 63) (k := 7) (x := "_law_script") (CX := fun _ => CX0) (sp := fun w => sp_law (K w.params)) hn (by decide) hdf ⟨rfl, by decide, by decide⟩ hY F (fun _ _ a ns hl _ hS => ⟨a, ns, rfl, hS, hl, fun _ => rfl⟩) fun _ _ _ _ _ z => z
theorem all_go {l : PySem.W.OpenLaw} {w : World} {K : PySem.W.Frag} {h : Heap} {mg : Str → Option Value} {fa : Addr} {a_L_mixed a_L_purse a_L_draw a_L_copy a_is_entry a_is_machine a_must_machine a_orders a_named a_least_form a_groups a_size_of a_are_alike a_L_order a_L_named a_L_like a_L_machine a_L_next a_L_plainly a_law C_NoMachine : Addr} {od_L_mixed an_L_mixed od_L_purse an_L_purse od_L_draw an_L_draw od_L_copy an_L_copy od_is_entry an_is_entry od_is_machine an_is_machine od_must_machine an_must_machine od_orders an_orders od_named an_named od_least_form an_least_form od_groups an_groups od_size_of an_size_of od_are_alike an_are_alike od_L_order an_L_order od_L_named an_L_named od_L_like an_L_like od_L_machine an_L_machine od_L_next an_L_next od_L_plainly an_L_plainly od_law an_law : Option Addr} {sl_L_mixed sl_L_purse sl_L_draw sl_L_copy sl_is_entry sl_is_machine sl_must_machine sl_orders sl_named sl_least_form sl_groups sl_size_of sl_are_alike sl_L_order sl_L_named sl_L_like sl_L_machine sl_L_next sl_L_plainly sl_law : Array (Option Value)} {oc_L_mixed kV_L_mixed dc_L_mixed pm_L_mixed cd_L_mixed ct_L_mixed oc_L_purse kV_L_purse dc_L_purse pm_L_purse cd_L_purse ct_L_purse oc_L_draw kV_L_draw dc_L_draw pm_L_draw cd_L_draw ct_L_draw oc_L_copy kV_L_copy dc_L_copy pm_L_copy cd_L_copy ct_L_copy oc_is_entry kV_is_entry dc_is_entry pm_is_entry cd_is_entry ct_is_entry oc_is_machine kV_is_machine dc_is_machine pm_is_machine cd_is_machine ct_is_machine oc_must_machine kV_must_machine dc_must_machine pm_must_machine cd_must_machine ct_must_machine oc_orders kV_orders dc_orders pm_orders cd_orders ct_orders oc_named kV_named dc_named pm_named cd_named ct_named oc_least_form kV_least_form dc_least_form pm_least_form cd_least_form ct_least_form oc_groups kV_groups dc_groups pm_groups cd_groups ct_groups oc_size_of kV_size_of dc_size_of pm_size_of cd_size_of ct_size_of oc_are_alike kV_are_alike dc_are_alike pm_are_alike cd_are_alike ct_are_alike oc_L_order kV_L_order dc_L_order pm_L_order cd_L_order ct_L_order oc_L_named kV_L_named dc_L_named pm_L_named cd_L_named ct_L_named oc_L_like kV_L_like dc_L_like pm_L_like cd_L_like ct_L_like oc_L_machine kV_L_machine dc_L_machine pm_L_machine cd_L_machine ct_L_machine oc_L_next kV_L_next dc_L_next pm_L_next cd_L_next ct_L_next oc_L_plainly kV_L_plainly dc_L_plainly pm_L_plainly cd_L_plainly ct_L_plainly oc_law kV_law dc_law pm_law cd_law ct_law : Value} {tk_MOST_ROWS tk_MOST_SIGNS : Tok} (X : K.In h) (G : h.Ns mainGlobals mg) (hfa : mg "law" = some (.ref fa))
    (n_NoMachine : PySem.W.nsIn K mainGlobals "NoMachine" = some (some (.ref C_NoMachine)))
    (n_L_mixed : PySem.W.nsIn K mainGlobals "_law_mixed" = some (some (.ref a_L_mixed)))
    (l_L_mixed : K.lookup a_L_mixed = some ⟨oc_L_mixed, od_L_mixed, .func (PySem.W.fnOf "_law_mixed" "_law_mixed" (defArgs s_L_mixed) (defBody s_L_mixed) (defScope s_L_mixed) .none kV_L_mixed dc_L_mixed pm_L_mixed an_L_mixed cd_L_mixed ct_L_mixed), sl_L_mixed⟩)
    (c_L_mixed : PySem.W.codeIn K cd_L_mixed "_law_mixed" = true)
    (k_L_mixed : PySem.W.keepIn K (.ref a_L_mixed) = true)
    (n_L_purse : PySem.W.nsIn K mainGlobals "_law_purse" = some (some (.ref a_L_purse)))
    (l_L_purse : K.lookup a_L_purse = some ⟨oc_L_purse, od_L_purse, .func (PySem.W.fnOf "_law_purse" "_law_purse" (defArgs s_L_purse) (defBody s_L_purse) (defScope s_L_purse) .none kV_L_purse dc_L_purse pm_L_purse an_L_purse cd_L_purse ct_L_purse), sl_L_purse⟩)
    (c_L_purse : PySem.W.codeIn K cd_L_purse "_law_purse" = true)
    (k_L_purse : PySem.W.keepIn K (.ref a_L_purse) = true)
    (n_L_draw : PySem.W.nsIn K mainGlobals "_law_draw" = some (some (.ref a_L_draw)))
    (l_L_draw : K.lookup a_L_draw = some ⟨oc_L_draw, od_L_draw, .func (PySem.W.fnOf "_law_draw" "_law_draw" (defArgs s_L_draw) (defBody s_L_draw) (defScope s_L_draw) .none kV_L_draw dc_L_draw pm_L_draw an_L_draw cd_L_draw ct_L_draw), sl_L_draw⟩)
    (c_L_draw : PySem.W.codeIn K cd_L_draw "_law_draw" = true)
    (k_L_draw : PySem.W.keepIn K (.ref a_L_draw) = true)
    (n_L_copy : PySem.W.nsIn K mainGlobals "_law_copy" = some (some (.ref a_L_copy)))
    (l_L_copy : K.lookup a_L_copy = some ⟨oc_L_copy, od_L_copy, .func (PySem.W.fnOf "_law_copy" "_law_copy" (defArgs s_L_copy) (defBody s_L_copy) (defScope s_L_copy) .none kV_L_copy dc_L_copy pm_L_copy an_L_copy cd_L_copy ct_L_copy), sl_L_copy⟩)
    (c_L_copy : PySem.W.codeIn K cd_L_copy "_law_copy" = true)
    (k_L_copy : PySem.W.keepIn K (.ref a_L_copy) = true)
    (n_is_entry : PySem.W.nsIn K mainGlobals "is_entry" = some (some (.ref a_is_entry)))
    (l_is_entry : K.lookup a_is_entry = some ⟨oc_is_entry, od_is_entry, .func (PySem.W.fnOf "is_entry" "is_entry" (defArgs s_is_entry) (defBody s_is_entry) (defScope s_is_entry) .none kV_is_entry dc_is_entry pm_is_entry an_is_entry cd_is_entry ct_is_entry), sl_is_entry⟩)
    (c_is_entry : PySem.W.codeIn K cd_is_entry "is_entry" = true)
    (k_is_entry : PySem.W.keepIn K (.ref a_is_entry) = true)
    (n_is_machine : PySem.W.nsIn K mainGlobals "is_machine" = some (some (.ref a_is_machine)))
    (l_is_machine : K.lookup a_is_machine = some ⟨oc_is_machine, od_is_machine, .func (PySem.W.fnOf "is_machine" "is_machine" (defArgs s_is_machine) (defBody s_is_machine) (defScope s_is_machine) .none kV_is_machine dc_is_machine pm_is_machine an_is_machine cd_is_machine ct_is_machine), sl_is_machine⟩)
    (c_is_machine : PySem.W.codeIn K cd_is_machine "is_machine" = true)
    (k_is_machine : PySem.W.keepIn K (.ref a_is_machine) = true)
    (n_must_machine : PySem.W.nsIn K mainGlobals "must_machine" = some (some (.ref a_must_machine)))
    (l_must_machine : K.lookup a_must_machine = some ⟨oc_must_machine, od_must_machine, .func (PySem.W.fnOf "must_machine" "must_machine" (defArgs s_must_machine) (defBody s_must_machine) (defScope s_must_machine) .none kV_must_machine dc_must_machine pm_must_machine an_must_machine cd_must_machine ct_must_machine), sl_must_machine⟩)
    (c_must_machine : PySem.W.codeIn K cd_must_machine "must_machine" = true)
    (k_must_machine : PySem.W.keepIn K (.ref a_must_machine) = true)
    (n_orders : PySem.W.nsIn K mainGlobals "orders" = some (some (.ref a_orders)))
    (l_orders : K.lookup a_orders = some ⟨oc_orders, od_orders, .func (PySem.W.fnOf "orders" "orders" (defArgs s_orders) (defBody s_orders) (defScope s_orders) .none kV_orders dc_orders pm_orders an_orders cd_orders ct_orders), sl_orders⟩)
    (c_orders : PySem.W.codeIn K cd_orders "orders" = true)
    (k_orders : PySem.W.keepIn K (.ref a_orders) = true)
    (n_named : PySem.W.nsIn K mainGlobals "named" = some (some (.ref a_named)))
    (l_named : K.lookup a_named = some ⟨oc_named, od_named, .func (PySem.W.fnOf "named" "named" (defArgs s_named) (defBody s_named) (defScope s_named) .none kV_named dc_named pm_named an_named cd_named ct_named), sl_named⟩)
    (c_named : PySem.W.codeIn K cd_named "named" = true)
    (k_named : PySem.W.keepIn K (.ref a_named) = true)
    (n_least_form : PySem.W.nsIn K mainGlobals "least_form" = some (some (.ref a_least_form)))
    (l_least_form : K.lookup a_least_form = some ⟨oc_least_form, od_least_form, .func (PySem.W.fnOf "least_form" "least_form" (defArgs s_least_form) (defBody s_least_form) (defScope s_least_form) .none kV_least_form dc_least_form pm_least_form an_least_form cd_least_form ct_least_form), sl_least_form⟩)
    (c_least_form : PySem.W.codeIn K cd_least_form "least_form" = true)
    (k_least_form : PySem.W.keepIn K (.ref a_least_form) = true)
    (n_groups : PySem.W.nsIn K mainGlobals "groups" = some (some (.ref a_groups)))
    (l_groups : K.lookup a_groups = some ⟨oc_groups, od_groups, .func (PySem.W.fnOf "groups" "groups" (defArgs s_groups) (defBody s_groups) (defScope s_groups) .none kV_groups dc_groups pm_groups an_groups cd_groups ct_groups), sl_groups⟩)
    (c_groups : PySem.W.codeIn K cd_groups "groups" = true)
    (k_groups : PySem.W.keepIn K (.ref a_groups) = true)
    (n_size_of : PySem.W.nsIn K mainGlobals "size_of" = some (some (.ref a_size_of)))
    (l_size_of : K.lookup a_size_of = some ⟨oc_size_of, od_size_of, .func (PySem.W.fnOf "size_of" "size_of" (defArgs s_size_of) (defBody s_size_of) (defScope s_size_of) .none kV_size_of dc_size_of pm_size_of an_size_of cd_size_of ct_size_of), sl_size_of⟩)
    (c_size_of : PySem.W.codeIn K cd_size_of "size_of" = true)
    (k_size_of : PySem.W.keepIn K (.ref a_size_of) = true)
    (n_are_alike : PySem.W.nsIn K mainGlobals "are_alike" = some (some (.ref a_are_alike)))
    (l_are_alike : K.lookup a_are_alike = some ⟨oc_are_alike, od_are_alike, .func (PySem.W.fnOf "are_alike" "are_alike" (defArgs s_are_alike) (defBody s_are_alike) (defScope s_are_alike) .none kV_are_alike dc_are_alike pm_are_alike an_are_alike cd_are_alike ct_are_alike), sl_are_alike⟩)
    (c_are_alike : PySem.W.codeIn K cd_are_alike "are_alike" = true)
    (k_are_alike : PySem.W.keepIn K (.ref a_are_alike) = true)
    (n_L_order : PySem.W.nsIn K mainGlobals "_law_order" = some (some (.ref a_L_order)))
    (l_L_order : K.lookup a_L_order = some ⟨oc_L_order, od_L_order, .func (PySem.W.fnOf "_law_order" "_law_order" (defArgs s_L_order) (defBody s_L_order) (defScope s_L_order) .none kV_L_order dc_L_order pm_L_order an_L_order cd_L_order ct_L_order), sl_L_order⟩)
    (c_L_order : PySem.W.codeIn K cd_L_order "_law_order" = true)
    (k_L_order : PySem.W.keepIn K (.ref a_L_order) = true)
    (n_L_named : PySem.W.nsIn K mainGlobals "_law_named" = some (some (.ref a_L_named)))
    (l_L_named : K.lookup a_L_named = some ⟨oc_L_named, od_L_named, .func (PySem.W.fnOf "_law_named" "_law_named" (defArgs s_L_named) (defBody s_L_named) (defScope s_L_named) .none kV_L_named dc_L_named pm_L_named an_L_named cd_L_named ct_L_named), sl_L_named⟩)
    (c_L_named : PySem.W.codeIn K cd_L_named "_law_named" = true)
    (k_L_named : PySem.W.keepIn K (.ref a_L_named) = true)
    (n_L_like : PySem.W.nsIn K mainGlobals "_law_like" = some (some (.ref a_L_like)))
    (l_L_like : K.lookup a_L_like = some ⟨oc_L_like, od_L_like, .func (PySem.W.fnOf "_law_like" "_law_like" (defArgs s_L_like) (defBody s_L_like) (defScope s_L_like) .none kV_L_like dc_L_like pm_L_like an_L_like cd_L_like ct_L_like), sl_L_like⟩)
    (c_L_like : PySem.W.codeIn K cd_L_like "_law_like" = true)
    (k_L_like : PySem.W.keepIn K (.ref a_L_like) = true)
    (n_L_machine : PySem.W.nsIn K mainGlobals "_law_machine" = some (some (.ref a_L_machine)))
    (l_L_machine : K.lookup a_L_machine = some ⟨oc_L_machine, od_L_machine, .func (PySem.W.fnOf "_law_machine" "_law_machine" (defArgs s_L_machine) (defBody s_L_machine) (defScope s_L_machine) .none kV_L_machine dc_L_machine pm_L_machine an_L_machine cd_L_machine ct_L_machine), sl_L_machine⟩)
    (c_L_machine : PySem.W.codeIn K cd_L_machine "_law_machine" = true)
    (k_L_machine : PySem.W.keepIn K (.ref a_L_machine) = true)
    (n_L_next : PySem.W.nsIn K mainGlobals "_law_next" = some (some (.ref a_L_next)))
    (l_L_next : K.lookup a_L_next = some ⟨oc_L_next, od_L_next, .func (PySem.W.fnOf "_law_next" "_law_next" (defArgs s_L_next) (defBody s_L_next) (defScope s_L_next) .none kV_L_next dc_L_next pm_L_next an_L_next cd_L_next ct_L_next), sl_L_next⟩)
    (c_L_next : PySem.W.codeIn K cd_L_next "_law_next" = true)
    (k_L_next : PySem.W.keepIn K (.ref a_L_next) = true)
    (n_L_plainly : PySem.W.nsIn K mainGlobals "_law_plainly" = some (some (.ref a_L_plainly)))
    (l_L_plainly : K.lookup a_L_plainly = some ⟨oc_L_plainly, od_L_plainly, .func (PySem.W.fnOf "_law_plainly" "_law_plainly" (defArgs s_L_plainly) (defBody s_L_plainly) (defScope s_L_plainly) .none kV_L_plainly dc_L_plainly pm_L_plainly an_L_plainly cd_L_plainly ct_L_plainly), sl_L_plainly⟩)
    (c_L_plainly : PySem.W.codeIn K cd_L_plainly "_law_plainly" = true)
    (k_L_plainly : PySem.W.keepIn K (.ref a_L_plainly) = true)
    (n_law : PySem.W.nsIn K mainGlobals "law" = some (some (.ref a_law)))
    (l_law : K.lookup a_law = some ⟨oc_law, od_law, .func (PySem.W.fnOf "law" "law" (defArgs s_law) (defBody s_law) (defScope s_law) .none kV_law dc_law pm_law an_law cd_law ct_law), sl_law⟩)
    (c_law : PySem.W.codeIn K cd_law "law" = true)
    (k_law : PySem.W.keepIn K (.ref a_law) = true)
    (n_MOST_ROWS : PySem.W.nsIn K mainGlobals "MOST_ROWS" = some (some (.int 4 tk_MOST_ROWS)))
    (n_MOST_SIGNS : PySem.W.nsIn K mainGlobals "MOST_SIGNS" = some (some (.int 4 tk_MOST_SIGNS)))
    (z_range : PySem.W.nsIn K mainGlobals "range" = some none)
    (z_len : PySem.W.nsIn K mainGlobals "len" = some none)
    (z_list : PySem.W.nsIn K mainGlobals "list" = some none)
    (z_all : PySem.W.nsIn K mainGlobals "all" = some none)
    (z_min : PySem.W.nsIn K mainGlobals "min" = some none)
    (z_enumerate : PySem.W.nsIn K mainGlobals "enumerate" = some none)
    (z_isinstance : PySem.W.nsIn K mainGlobals "isinstance" = some none)
    (z_tuple : PySem.W.nsIn K mainGlobals "tuple" = some none)
    (z_str : PySem.W.nsIn K mainGlobals "str" = some none)
    (z_int : PySem.W.nsIn K mainGlobals "int" = some none)
    (z_bool : PySem.W.nsIn K mainGlobals "bool" = some none) :
    ∃ fd : FuncData, (∀ (s : Shared) (v : Value), BindsTo s fd ⟨[v], []⟩ [("_law_script", v)]) ∧ ∀ base : Heap, K.In base → base.Ns mainGlobals mg → FnOk l.prog w K mg base CX0 7 fa fd ["_law_script"] (sp_law K) :=
  all_mk X G hfa (all_tx X G n_NoMachine n_L_mixed l_L_mixed c_L_mixed k_L_mixed n_L_purse l_L_purse c_L_purse k_L_purse n_L_draw l_L_draw c_L_draw k_L_draw n_L_copy l_L_copy c_L_copy k_L_copy n_is_entry l_is_entry c_is_entry k_is_entry n_is_machine l_is_machine c_is_machine k_is_machine n_must_machine l_must_machine c_must_machine k_must_machine n_orders l_orders c_orders k_orders n_named l_named c_named k_named n_least_form l_least_form c_least_form k_least_form n_groups l_groups c_groups k_groups n_size_of l_size_of c_size_of k_size_of n_are_alike l_are_alike c_are_alike k_are_alike n_L_order l_L_order c_L_order k_L_order n_L_named l_L_named c_L_named k_L_named n_L_like l_L_like c_L_like k_L_like n_L_machine l_L_machine c_L_machine k_L_machine n_L_next l_L_next c_L_next k_L_next n_L_plainly l_L_plainly c_L_plainly k_L_plainly n_law l_law c_law k_law n_MOST_ROWS n_MOST_SIGNS z_range z_len z_list z_all z_min z_enumerate z_isinstance z_tuple z_str z_int z_bool) ⟨_, _, _, _, _, _, rfl⟩
end E
open PySem PySem.W PyProof.Rows
set_option maxRecDepth 100000 in
set_option maxHeartbeats 0 in
theorem PySem.Challenge.cw_endnever_k54_like_ones_and_groups_holds : PySem.Challenge.rw_endnever_k54_like_ones_and_groups.Holds := by
  w_on; o_law; k_head; (case hw => w_witness2)
  k_fill
  refine E.walk (l := PySem.Challenge.rw_endnever_k54_like_ones_and_groups) rfl rfl (fun w h Y => PySem.W.kIn_of Y) ?F
  case F =>
    intro w mg fa h KX G hmg
    refine' E.all_go KX G hmg ?n_NoMachine ?n_L_mixed ?l_L_mixed ?c_L_mixed ?k_L_mixed ?n_L_purse ?l_L_purse ?c_L_purse ?k_L_purse ?n_L_draw ?l_L_draw ?c_L_draw ?k_L_draw ?n_L_copy ?l_L_copy ?c_L_copy ?k_L_copy ?n_is_entry ?l_is_entry ?c_is_entry ?k_is_entry ?n_is_machine ?l_is_machine ?c_is_machine ?k_is_machine ?n_must_machine ?l_must_machine ?c_must_machine ?k_must_machine ?n_orders ?l_orders ?c_orders ?k_orders ?n_named ?l_named ?c_named ?k_named ?n_least_form ?l_least_form ?c_least_form ?k_least_form ?n_groups ?l_groups ?c_groups ?k_groups ?n_size_of ?l_size_of ?c_size_of ?k_size_of ?n_are_alike ?l_are_alike ?c_are_alike ?k_are_alike ?n_L_order ?l_L_order ?c_L_order ?k_L_order ?n_L_named ?l_L_named ?c_L_named ?k_L_named ?n_L_like ?l_L_like ?c_L_like ?k_L_like ?n_L_machine ?l_L_machine ?c_L_machine ?k_L_machine ?n_L_next ?l_L_next ?c_L_next ?k_L_next ?n_L_plainly ?l_L_plainly ?c_L_plainly ?k_L_plainly ?n_law ?l_law ?c_law ?k_law ?n_MOST_ROWS ?n_MOST_SIGNS ?z_range ?z_len ?z_list ?z_all ?z_min ?z_enumerate ?z_isinstance ?z_tuple ?z_str ?z_int ?z_bool
    (case n_NoMachine => k_is); (case n_L_mixed => k_is); (case l_L_mixed => k_is); (case c_L_mixed => k_is); (case k_L_mixed => k_is); (case n_L_purse => k_is); (case l_L_purse => k_is); (case c_L_purse => k_is)
    (case k_L_purse => k_is); (case n_L_draw => k_is); (case l_L_draw => k_is); (case c_L_draw => k_is); (case k_L_draw => k_is); (case n_L_copy => k_is); (case l_L_copy => k_is); (case c_L_copy => k_is)
    (case k_L_copy => k_is); (case n_is_entry => k_is); (case l_is_entry => k_is); (case c_is_entry => k_is); (case k_is_entry => k_is); (case n_is_machine => k_is); (case l_is_machine => k_is); (case c_is_machine => k_is)
    (case k_is_machine => k_is); (case n_must_machine => k_is); (case l_must_machine => k_is); (case c_must_machine => k_is); (case k_must_machine => k_is); (case n_orders => k_is); (case l_orders => k_is); (case c_orders => k_is)
    (case k_orders => k_is); (case n_named => k_is); (case l_named => k_is); (case c_named => k_is); (case k_named => k_is); (case n_least_form => k_is); (case l_least_form => k_is); (case c_least_form => k_is)
    (case k_least_form => k_is); (case n_groups => k_is); (case l_groups => k_is); (case c_groups => k_is); (case k_groups => k_is); (case n_size_of => k_is); (case l_size_of => k_is); (case c_size_of => k_is)
    (case k_size_of => k_is); (case n_are_alike => k_is); (case l_are_alike => k_is); (case c_are_alike => k_is); (case k_are_alike => k_is); (case n_L_order => k_is); (case l_L_order => k_is); (case c_L_order => k_is)
    (case k_L_order => k_is); (case n_L_named => k_is); (case l_L_named => k_is); (case c_L_named => k_is); (case k_L_named => k_is); (case n_L_like => k_is); (case l_L_like => k_is); (case c_L_like => k_is)
    (case k_L_like => k_is); (case n_L_machine => k_is); (case l_L_machine => k_is); (case c_L_machine => k_is); (case k_L_machine => k_is); (case n_L_next => k_is); (case l_L_next => k_is); (case c_L_next => k_is)
    (case k_L_next => k_is); (case n_L_plainly => k_is); (case l_L_plainly => k_is); (case c_L_plainly => k_is); (case k_L_plainly => k_is); (case n_law => k_is); (case l_law => k_is); (case c_law => k_is)
    (case k_law => k_is); (case n_MOST_ROWS => k_is); (case n_MOST_SIGNS => k_is); (case z_range => k_is); (case z_len => k_is); (case z_list => k_is); (case z_all => k_is); (case z_min => k_is)
    (case z_enumerate => k_is); (case z_isinstance => k_is); (case z_tuple => k_is); (case z_str => k_is); (case z_int => k_is); (case z_bool => k_is)
#print axioms PySem.Challenge.cw_endnever_k54_like_ones_and_groups_holds
