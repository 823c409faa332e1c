import PyProof.Rows.All
import Wide.All
import OpenK.AllK
import Wide.FinOn
import HandS.ForMost
import HandS.SortRule
import HandS.IsInst
import HandS.TupAny
import HandS.TupMul
import HandS.Walk
import HandS.More
import HandS.ListItems
import HandS.Wide
import KE.KTupSum
import HandS.Style
import HandS.Deep
import HandS.SortInts
import KE.GoesMore
import PySem.Challenge.RW_endnever_k78_whole_long_strides
set_option Elab.async false
set_option maxRecDepth 100000
set_option maxHeartbeats 4000000
namespace E
open PySem L2
/-! ### small words of our own -/
theorem inr_int {x : V} {ns : List Int} {i : Nat} (h : (ns.map V.int)[i]? = some x) : ∃ z, x = V.int z ∧ ns[i]? = some z := by
  rw [List.getElem?_map] at h
  cases e : ns[i]? with
  | none => rw [e] at h; cases h
  | some z => rw [e] at h; exact ⟨z, (Option.some.inj h).symm, rfl⟩
/-- F stands in H, whatever comes to it -/
theorem sm_new {F H : Hp} {p : Addr} {o : HO} (s : Same F H) (n : H p = Option.none) : Same F (upd H p o) := fun b u e => by
  rw [upd_ne (ne_of_none (s b u e) n)]
  exact s b u e
theorem sm_set {F H : Hp} {p : Addr} {o : HO} (s : Same F H) (n : F p = Option.none) : Same F (upd H p o) := fun b u e => by
  rw [upd_ne (ne_of_none e n)]
  exact s b u e
theorem sm_up {H : Hp} {p : Addr} {o : HO} (n : H p = none) : Same H (upd H p o) := sm_new (Same.refl H) n
theorem cut_63 {ns : List Int} (h : ns.length ≤ 63) : cutV (ns.map V.int) none (some 63) = ns.map V.int := by
  unfold cutV
  have e1 : HT.sIx (ns.map V.int).length 0 none = 0 := rfl
  have e2 : HT.sIx (ns.map V.int).length (ns.map V.int).length (some 63) = (ns.map V.int).length := by
    simp only [HT.sIx, List.length_map]
    rw [if_neg (by decide), show (63 : Int).toNat = 63 from rfl]
    omega
  rw [e1, e2, List.drop_zero, Nat.sub_zero, List.take_length]
theorem ifT {c : Bool} {A B : Prop} (h : c = true) (a : A) : if c = true then A else B := by
  rw [if_pos h]; exact a
theorem ifF {c : Bool} {A B : Prop} (h : c = false) (b : B) : if c = true then A else B := by
  rw [h, if_neg Bool.false_ne_true]; exact b
theorem one_le : 1 ≤ sizeLine := by decide
theorem two_le : 2 ≤ sizeLine := by decide
theorem three_le : 3 ≤ sizeLine := by decide
theorem five_le : 5 ≤ sizeLine := by decide
theorem nil_le : 0 ≤ sizeLine := by decide
theorem lt_size {n : Nat} (h : n ≤ 1000000) : n < sizeLine := Nat.lt_of_le_of_lt h (by decide)
theorem le_size {n : Nat} (h : n ≤ 1000000) : n ≤ sizeLine := Nat.le_of_lt (lt_size h)
theorem pi_listK {X : Cx} {K : PySem.W.Frag} {tg l : Expr} {tl : TE} (e : X.K = K) (h : PE X l tl) : PI X tg l (iList K tl) := by
  subst e; exact pi_list h
theorem pi_tupK {X : Cx} {K : PySem.W.Frag} {tg l : Expr} {tl : TE} (e : X.K = K) (h : PE X l tl) : PI X tg l (iTup K tl) := by
  subst e; exact pi_tup h
theorem crK {X : Cx} {K : PySem.W.Frag} {f : Value} {r : PySem.W.Frag → List V → Hp → VK → Prop} (e : X.K = K) (h : CallR X f (r X.K)) : CallR X f (r K) := by
  subst e; exact h
theorem orK {X : Cx} {K : PySem.W.Frag} {f : Value → Value → Sem Value} {r : PySem.W.Frag → R2} (e : X.K = K) (h : OpR X f (r X.K)) : OpR X f (r K) := by
  subst e; exact h
theorem ixK {X : Cx} {K : PySem.W.Frag} {r : PySem.W.Frag → R2} (e : X.K = K) (h : IxR X (r X.K)) : IxR X (r K) := by
  subst e; exact h
theorem slK {X : Cx} {K : PySem.W.Frag} {r : PySem.W.Frag → V → Option Int → Option Int → Hp → VK → Prop} (e : X.K = K) (h : SlR X (r X.K)) : SlR X (r K) := by
  subst e; exact h
def rLenQ (K : PySem.W.Frag) : List V → Hp → VK → Prop := fun xs H Q => ∃ p ys, xs = [.ref p] ∧ (SqL K H p ys ∨ SqT K H p ys) ∧ Q (.int ys.length) H
def rListQ (K : PySem.W.Frag) : List V → Hp → VK → Prop := fun xs H Q => ∃ p ys, xs = [.ref p] ∧ (SqL K H p ys ∨ SqT K H p ys) ∧ ∀ l, H l = none → Q (.ref l) (upd H l (.lst ys))
def rTupQ (K : PySem.W.Frag) : List V → Hp → VK → Prop := fun xs H Q => ∃ p ys, xs = [.ref p] ∧ ((SqL K H p ys ∧ ∀ l, H l = none → Q (.ref l) (upd H l (.tup ys))) ∨ (SqT K H p ys ∧ Q (.ref p) H))
theorem ne_of_none' {F H : Hp} {q : Addr} (s : Same F H) (n : H q = none) : F q = none := s.free n
/-- a comprehension without a test: its item comes in -/
theorem yes {σ : St} {H : Hp} {A : Hp → Prop} {B : Hp → Prop} (a : A H) : tYes σ H (fun b H3 => if b = true then A H3 else B H3) := by
  show if true = true then A H else B H
  rw [if_pos rfl]; exact a
theorem call_lenQ {X : Cx} : CallR X (.builtin "len") (rLenQ X.K) := call_len_seq
theorem call_listQ {X : Cx} : CallR X (.type "list") (rListQ X.K) := call_list_of
theorem call_tupQ {X : Cx} : CallR X (.type "tuple") (rTupQ X.K) := call_tuple_of
@[irreducible] def rDictP (K : PySem.W.Frag) : List V → Hp → VK → Prop := fun xs H Q => ∃ (a : Addr) (ps : List Addr) (kvs : List (Key × V)), xs = [.ref a] ∧ SqL K H a (ps.map V.ref) ∧ Paired (fun p kv => SqT K H p [kV kv.1, kv.2]) ps kvs ∧ ∀ p, H p = none → Q (.ref p) (upd H p (.dK (mergeK [] kvs)))
theorem call_dictQ {X : Cx} (hc : X.calm = true) : CallR X (.type "dict") (rDictP X.K) := by
  unfold rDictP
  exact call_dictP hc
@[irreducible] def rSortQ (K : PySem.W.Frag) : List V → Hp → VK → Prop := rSortedPO K
theorem call_sortQ {X : Cx} : CallR X (.builtin "sorted") (rSortQ X.K) := by
  unfold rSortQ
  exact cr_sortedPO
theorem pg_tupK {X : Cx} {K : PySem.W.Frag} {es : List Expr} {k n : Nat} {t : TGs} {pos : Pos} (e : X.K = K) (hc : X.calm = true) (h : PGs X es t) (hn : (assignEach es X.env).length = n := by rfl) (hst : (assignEach es X.env).findIdx? (·.1) = none := by rfl) : PG X (.Tuple es k pos) (gTup K n t) := by
  subst e; exact pg_tup hc h hn hst
theorem pe_fldK {X : Cx} {K : PySem.W.Frag} {e : Expr} {f : Str} {pos : Pos} {ta : TE} (ek : X.K = K) (he : PE X e ta) (hb : attributeBase e f X.env (eval e X.env) = eval e X.env) : PE X (.Attribute e f pos) (tFld K ta f) := by
  subst ek; exact pe_fld he hb
/-! ### what stands, what is new: F the frozen part (nobody changes it), H the heap; from F, H to F', H' with changes at mu alone -/
structure Gr (mu : Addr → Prop) (F H F' H' : Hp) : Prop where
  ff : Same F F'
  fh : Same F' H'
  nw : ∀ c o, F' c = some o → F c = some o ∨ H c = none
  fr : ∀ c o, H c = some o → ¬ mu c → H' c = some o
  th : ∀ c, H' c = none → H c = none
/-- nothing but new things -/
abbrev mu0 : Addr → Prop := fun _ => False
/-- the purse alone -/
abbrev muP (p : Addr) : Addr → Prop := fun c => c = p
section
variable {mu : Addr → Prop} {F H F1 H1 F2 H2 : Hp} {q : Addr} {o u : HO}
theorem Gr.refl (s : Same F H) : Gr mu F H F H := ⟨fun _ _ h => h, s, fun _ _ h => .inl h, fun _ _ h _ => h, fun _ h => h⟩
theorem Gr.trans (a : Gr mu F H F1 H1) (b : Gr mu F1 H1 F2 H2) : Gr mu F H F2 H2 where
  ff := fun c o h => b.ff c o (a.ff c o h)
  fh := b.fh
  nw := fun c o h => by
    rcases b.nw c o h with h | h
    · exact a.nw c o h
    · exact .inr (a.th c h)
  fr := fun c o h m => b.fr c o (a.fr c o h m) m
  th := fun c h => a.th c (b.th c h)
/-- a part that changes what is ours, or what mu has -/
theorem Gr.thn {mu' : Addr → Prop} (a : Gr mu F H F1 H1) (b : Gr mu' F1 H1 F2 H2) (k : ∀ c, mu' c → mu c ∨ H c = none) : Gr mu F H F2 H2 where
  ff := fun c o h => b.ff c o (a.ff c o h)
  fh := b.fh
  nw := fun c o h => by
    rcases b.nw c o h with h | h
    · exact a.nw c o h
    · exact .inr (a.th c h)
  fr := fun c o h m => b.fr c o (a.fr c o h m) fun z => (k c z).elim m fun n => by rw [n] at h; cases h
  th := fun c h => a.th c (b.th c h)
theorem Gr.weak {mu' : Addr → Prop} (a : Gr mu F H F1 H1) (m : ∀ c, mu c → mu' c) : Gr mu' F H F1 H1 :=
  ⟨a.ff, a.fh, a.nw, fun c o h n => a.fr c o h fun z => n (m c z), a.th⟩
theorem Gr.of0 (a : Gr mu0 F H F1 H1) : Gr mu F H F1 H1 := a.weak fun _ z => z.elim
/-- a new thing that nobody will change -/
theorem Gr.new (a : Gr mu F H F1 H1) (n : H1 q = none) : Gr mu F H (upd F1 q o) (upd H1 q o) where
  ff := fun c o h => by
    rw [upd_ne (ne_of_none (a.fh c o (a.ff c o h)) n)]
    exact a.ff c o h
  fh := fun c u h => by
    by_cases e : c = q
    · subst e; rw [upd_same] at h ⊢; exact h
    · rw [upd_ne e] at h ⊢; exact a.fh c u h
  nw := fun c u h => by
    by_cases e : c = q
    · subst e; exact .inr (a.th _ n)
    · rw [upd_ne e] at h; exact a.nw c u h
  fr := fun c u h m => by
    rw [upd_ne (ne_of_none (a.fr c u h m) n)]
    exact a.fr c u h m
  th := fun c h => by
    by_cases e : c = q
    · subst e; rw [upd_same] at h; cases h
    · rw [upd_ne e] at h; exact a.th c h
/-- a new thing that may be changed yet -/
theorem Gr.own (a : Gr mu F H F1 H1) (n : H1 q = none) : Gr mu F H F1 (upd H1 q o) where
  ff := a.ff
  fh := fun c u h => by
    rw [upd_ne (ne_of_none (a.fh c u h) n)]
    exact a.fh c u h
  nw := a.nw
  fr := fun c u h m => by
    rw [upd_ne (ne_of_none (a.fr c u h m) n)]
    exact a.fr c u h m
  th := fun c h => by
    by_cases e : c = q
    · subst e; rw [upd_same] at h; cases h
    · rw [upd_ne e] at h; exact a.th c h
/-- a change of what is ours, and not frozen -/
theorem Gr.set (a : Gr mu F H F1 H1) (f : F1 q = none) (m : H q = none ∨ mu q) : Gr mu F H F1 (upd H1 q o) where
  ff := a.ff
  fh := fun c u h => by
    rw [upd_ne (ne_of_none h f)]
    exact a.fh c u h
  nw := a.nw
  fr := fun c u h k => by
    have e : c ≠ q := by
      rintro rfl
      rcases m with m | m
      · rw [m] at h; cases h
      · exact k m
    rw [upd_ne e]
    exact a.fr c u h k
  th := fun c h => by
    by_cases e : c = q
    · subst e; rw [upd_same] at h; cases h
    · rw [upd_ne e] at h; exact a.th c h
/-- what was ours is changed no more -/
theorem Gr.frz (a : Gr mu F H F1 H1) (h : H1 q = some o) (n : H q = none) (f : F1 q = none) : Gr mu F H (upd F1 q o) H1 where
  ff := fun c u e => by
    rw [upd_ne (ne_of_none (a.ff c u e) f)]
    exact a.ff c u e
  fh := fun c u e => by
    by_cases k : c = q
    · subst k; rw [upd_same] at e; cases e; exact h
    · rw [upd_ne k] at e; exact a.fh c u e
  nw := fun c u e => by
    by_cases k : c = q
    · subst k; exact .inr n
    · rw [upd_ne k] at e; exact a.nw c u e
  fr := a.fr
  th := a.th
theorem Gr.free (a : Gr mu F H F1 H1) (n : H1 q = none) : F1 q = none := a.fh.free n
end
/-- an owned thing: new since H, not frozen, it is o now -/
structure Ow (H F H1 : Hp) (q : Addr) (o : HO) : Prop where
  n : H q = none
  f : F q = none
  h : H1 q = some o
section
variable {mu mu' : Addr → Prop} {H0 F H F1 H1 : Hp} {q r : Addr} {o u : HO}
theorem Ow.call (w : Ow H0 F H q o) (a : Gr mu F H F1 H1) (m : ¬ mu q) : Ow H0 F1 H1 q o :=
  ⟨w.n, (by
    cases e : F1 q with
    | none => rfl
    | some z =>
      rcases a.nw q z e with k | k
      · rw [w.f] at k; cases k
      · rw [w.h] at k; cases k), a.fr q o w.h m⟩
theorem Ow.ne (w : Ow H0 F H q o) (n : H r = none) : q ≠ r := ne_of_none w.h n
theorem Ow.new (w : Ow H0 F H q o) (n : H r = none) : Ow H0 (upd F r u) (upd H r u) q o :=
  ⟨w.n, by rw [upd_ne (w.ne n)]; exact w.f, by rw [upd_ne (w.ne n)]; exact w.h⟩
theorem Ow.own (w : Ow H0 F H q o) (n : H r = none) : Ow H0 F (upd H r u) q o :=
  ⟨w.n, w.f, by rw [upd_ne (w.ne n)]; exact w.h⟩
theorem Ow.mk1 (a : Gr mu H0' H0 F H) (n : H q = none) : Ow H0 F (upd H q o) q o := ⟨a.th q n, a.free n, upd_same⟩
theorem Ow.set (w : Ow H0 F H q o) : Ow H0 F (upd H q u) q u := ⟨w.n, w.f, upd_same⟩
theorem Ow.other (w : Ow H0 F H q o) (e : q ≠ r) : Ow H0 F (upd H r u) q o := ⟨w.n, w.f, by rw [upd_ne e]; exact w.h⟩
end
/-! ### what stands for a datum -/
def All2 {α β : Type} (r : α → β → Prop) (xs : List α) (ys : List β) : Prop := xs.length = ys.length ∧ ∀ (i : Nat) (x : α) (y : β), xs[i]? = some x → ys[i]? = some y → r x y
section
variable {α β : Type} {r s : α → β → Prop} {xs xs' : List α} {ys ys' : List β}
theorem All2.nil : All2 r [] [] := ⟨rfl, fun i x y h => by simp at h⟩
theorem All2.get (a : All2 r xs ys) {i : Nat} {y : β} (h : ys[i]? = some y) : ∃ x, xs[i]? = some x ∧ r x y := by
  have l := (List.getElem?_eq_some_iff.mp h).1
  have l' : i < xs.length := by rw [a.1]; exact l
  exact ⟨xs[i], List.getElem?_eq_getElem l', a.2 i _ y (List.getElem?_eq_getElem l') h⟩
theorem All2.get' (a : All2 r xs ys) {i : Nat} {x : α} (h : xs[i]? = some x) : ∃ y, ys[i]? = some y ∧ r x y := by
  have l := (List.getElem?_eq_some_iff.mp h).1
  have l' : i < ys.length := by rw [← a.1]; exact l
  exact ⟨ys[i], List.getElem?_eq_getElem l', a.2 i x _ h (List.getElem?_eq_getElem l')⟩
theorem All2.imp (a : All2 r xs ys) (f : ∀ x y, r x y → s x y) : All2 s xs ys := ⟨a.1, fun i x y h k => f x y (a.2 i x y h k)⟩
theorem All2.app (a : All2 r xs ys) (b : All2 r xs' ys') : All2 r (xs ++ xs') (ys ++ ys') := by
  refine ⟨by rw [List.length_append, List.length_append, a.1, b.1], fun i x y h k => ?_⟩
  by_cases l : i < xs.length
  · rw [List.getElem?_append_left l] at h
    rw [List.getElem?_append_left (by rw [← a.1]; exact l)] at k
    exact a.2 i x y h k
  · rw [List.getElem?_append_right (by omega)] at h
    rw [List.getElem?_append_right (by rw [← a.1]; omega), ← a.1] at k
    exact b.2 _ x y h k
theorem All2.one {x : α} {y : β} (h : r x y) : All2 r [x] [y] := ⟨rfl, fun i a b p q => by
  cases i with
  | zero => simp at p q; subst p; subst q; exact h
  | succ n => simp at p⟩
theorem All2.cons {x : α} {y : β} (h : r x y) (a : All2 r xs ys) : All2 r (x :: xs) (y :: ys) := (All2.one h).app a
theorem All2.set (a : All2 r xs ys) {x : α} {y : β} (h : r x y) (j : Nat) : All2 r (xs.set j x) (ys.set j y) := by
  refine ⟨by rw [List.length_set, List.length_set]; exact a.1, fun i u v p q => ?_⟩
  by_cases e : j = i
  · subst e
    rw [List.getElem?_set_self'] at p q
    cases e1 : xs[j]? with
    | none => rw [e1] at p; cases p
    | some z =>
      cases e2 : ys[j]? with
      | none => rw [e2] at q; cases q
      | some z2 =>
        rw [e1] at p; rw [e2] at q
        cases p; cases q
        exact h
  · rw [List.getElem?_set_ne e] at p q
    exact a.2 i u v p q
theorem All2.take (a : All2 r xs ys) (n : Nat) : All2 r (xs.take n) (ys.take n) := by
  refine ⟨by rw [List.length_take, List.length_take, a.1], fun i u v p q => ?_⟩
  rw [List.getElem?_take] at p q
  split at p
  · rw [if_pos (by assumption)] at q; exact a.2 i u v p q
  · cases p
theorem All2.drop (a : All2 r xs ys) (n : Nat) : All2 r (xs.drop n) (ys.drop n) := by
  refine ⟨by rw [List.length_drop, List.length_drop, a.1], fun i u v p q => ?_⟩
  rw [List.getElem?_drop] at p q
  exact a.2 _ u v p q
end
class Dat (α : Type) where
  rep : Hp → V → α → Prop
  mono : ∀ {H H' : Hp} {v : V} {d : α}, Same H H' → rep H v d → rep H' v d
  py : α → PyData
  dp : ∀ {K : PySem.W.Frag} {H : Hp} {v : V} {d : α}, rep H v d → Dp K H v (py d)
  can : ∀ d, (py d).canLay0 = true
  dep : Nat
  depth : ∀ d, (py d).depth ≤ dep
  eqv : ∀ a b, PyData.eqv (py a) (py b) = true ↔ a = b
section
variable {α β γ : Type}
/-- v stands for d in H -/
abbrev Is [Dat α] (H : Hp) (v : V) (d : α) : Prop := Dat.rep H v d
theorem Is.up [Dat α] {H H' : Hp} {v : V} {d : α} (h : Is H v d) (s : Same H H') : Is H' v d := Dat.mono s h
abbrev IsAll [Dat α] (H : Hp) (xs : List V) (ds : List α) : Prop := All2 (fun v d => Is H v d) xs ds
theorem IsAll.up [Dat α] {H H' : Hp} {xs : List V} {ds : List α} (h : IsAll H xs ds) (s : Same H H') : IsAll H' xs ds := h.imp fun _ _ z => Is.up z s
theorem dp_all [Dat α] {K : PySem.W.Frag} {H : Hp} : ∀ {xs : List V} {ds : List α}, IsAll H xs ds → DpAll K H xs (ds.map Dat.py)
  | [], [], _ => .nil
  | [], d :: ds, h => by have := h.1; simp at this
  | x :: xs, [], h => by have := h.1; simp at this
  | x :: xs, d :: ds, h => .cons (Dat.dp (h.2 0 x d rfl rfl)) (dp_all ⟨by have := h.1; simpa using this, fun i a b p q => h.2 (i + 1) a b (by simpa using p) (by simpa using q)⟩)
theorem can_all [Dat α] : ∀ ds : List α, PyData.canLayAll0 (ds.map Dat.py) = true
  | [] => rfl
  | d :: ds => by
    show (PyData.canLay0 (Dat.py d) && PyData.canLayAll0 (ds.map Dat.py)) = true
    rw [Dat.can, can_all ds]; rfl
theorem depth_all [Dat α] : ∀ ds : List α, PyData.depthAll (ds.map Dat.py) ≤ Dat.dep α
  | [] => Nat.zero_le _
  | d :: ds => by
    show max (PyData.depth (Dat.py d)) (PyData.depthAll (ds.map Dat.py)) ≤ _
    exact Nat.max_le.mpr ⟨Dat.depth d, depth_all ds⟩
theorem eqv_all [Dat α] : ∀ a b : List α, PyData.eqvAll (a.map Dat.py) (b.map Dat.py) = true ↔ a = b
  | [], [] => by simp [PyData.eqvAll]
  | [], _ :: _ => by simp [PyData.eqvAll]
  | _ :: _, [] => by simp [PyData.eqvAll]
  | x :: xs, y :: ys => by
    rw [List.map_cons, List.map_cons, PyData.eqvAll, Bool.and_eq_true, Dat.eqv, eqv_all xs ys, List.cons.injEq]
instance : Dat Int where
  rep := fun _ v i => v = .int i
  mono := fun _ h => h
  py := .int
  dp := fun h => h ▸ .int _
  can := fun _ => rfl
  dep := 0
  depth := fun _ => Nat.le_refl _
  eqv := fun a b => by simp [PyData.eqv]
instance : Dat Bool where
  rep := fun _ v i => v = .bl i
  mono := fun _ h => h
  py := .bool
  dp := fun h => h ▸ .bl _
  can := fun _ => rfl
  dep := 0
  depth := fun _ => Nat.le_refl _
  eqv := fun a b => by simp [PyData.eqv]
/-- a list of data -/
instance [Dat α] : Dat (List α) where
  rep := fun H v l => ∃ a xs, v = .ref a ∧ H a = some (.lst xs) ∧ IsAll H xs l
  mono := fun s h => by
    obtain ⟨a, xs, e, h, i⟩ := h
    exact ⟨a, xs, e, s _ _ h, IsAll.up i s⟩
  py := fun l => .list (l.map Dat.py)
  dp := fun h => by
    obtain ⟨a, xs, rfl, h, i⟩ := h
    exact .lst (SqL.of h) (dp_all i)
  can := fun d => can_all d
  dep := Dat.dep α + 1
  depth := fun d => Nat.succ_le_succ (depth_all d)
  eqv := fun a b => by rw [PyData.eqv]; exact eqv_all a b
/-- a tuple of data of one kind -/
structure Tup (α : Type) where
  l : List α
  deriving DecidableEq
instance [Dat α] : Dat (Tup α) where
  rep := fun H v l => ∃ a xs, v = .ref a ∧ H a = some (.tup xs) ∧ IsAll H xs l.l
  mono := fun s h => by
    obtain ⟨a, xs, e, h, i⟩ := h
    exact ⟨a, xs, e, s _ _ h, IsAll.up i s⟩
  py := fun l => .tuple (l.l.map Dat.py)
  dp := fun h => by
    obtain ⟨a, xs, rfl, h, i⟩ := h
    exact .tup (SqT.of h) (dp_all i)
  can := fun d => can_all d.l
  dep := Dat.dep α + 1
  depth := fun d => Nat.succ_le_succ (depth_all d.l)
  eqv := fun a b => by
    rw [PyData.eqv, eqv_all]
    obtain ⟨a⟩ := a; obtain ⟨b⟩ := b
    simp
/-- a pair; a triple -/
structure T2 (α β : Type) where
  a : α
  b : β
  deriving DecidableEq
structure T3 (α β γ : Type) where
  a : α
  b : β
  c : γ
  deriving DecidableEq
instance [Dat α] [Dat β] : Dat (T2 α β) where
  rep := fun H v d => ∃ p x y, v = .ref p ∧ H p = some (.tup [x, y]) ∧ Is H x d.a ∧ Is H y d.b
  mono := fun s h => by
    obtain ⟨p, x, y, e, h, i, j⟩ := h
    exact ⟨p, x, y, e, s _ _ h, Is.up i s, Is.up j s⟩
  py := fun d => .tuple [Dat.py d.a, Dat.py d.b]
  dp := fun h => by
    obtain ⟨p, x, y, rfl, h, i, j⟩ := h
    exact .tup (SqT.of h) (.cons (Dat.dp i) (.cons (Dat.dp j) .nil))
  can := fun d => by
    show (PyData.canLay0 (Dat.py d.a) && (PyData.canLay0 (Dat.py d.b) && true)) = true
    rw [Dat.can, Dat.can]; rfl
  dep := max (Dat.dep α) (Dat.dep β) + 1
  depth := fun d => by
    have h1 := Dat.depth d.a
    have h2 := Dat.depth d.b
    show max (PyData.depth (Dat.py d.a)) (max (PyData.depth (Dat.py d.b)) 0) + 1 ≤ _
    omega
  eqv := fun a b => by
    obtain ⟨a, a'⟩ := a; obtain ⟨b, b'⟩ := b
    simp [PyData.eqv, PyData.eqvAll, Dat.eqv]
instance [Dat α] [Dat β] [Dat γ] : Dat (T3 α β γ) where
  rep := fun H v d => ∃ p x y z, v = .ref p ∧ H p = some (.tup [x, y, z]) ∧ Is H x d.a ∧ Is H y d.b ∧ Is H z d.c
  mono := fun s h => by
    obtain ⟨p, x, y, z, e, h, i, j, k⟩ := h
    exact ⟨p, x, y, z, e, s _ _ h, Is.up i s, Is.up j s, Is.up k s⟩
  py := fun d => .tuple [Dat.py d.a, Dat.py d.b, Dat.py d.c]
  dp := fun h => by
    obtain ⟨p, x, y, z, rfl, h, i, j, k⟩ := h
    exact .tup (SqT.of h) (.cons (Dat.dp i) (.cons (Dat.dp j) (.cons (Dat.dp k) .nil)))
  can := fun d => by
    show (PyData.canLay0 (Dat.py d.a) && (PyData.canLay0 (Dat.py d.b) && (PyData.canLay0 (Dat.py d.c) && true))) = true
    rw [Dat.can, Dat.can, Dat.can]; rfl
  dep := max (Dat.dep α) (max (Dat.dep β) (Dat.dep γ)) + 1
  depth := fun d => by
    have h1 := Dat.depth d.a
    have h2 := Dat.depth d.b
    have h3 := Dat.depth d.c
    show max (PyData.depth (Dat.py d.a)) (max (PyData.depth (Dat.py d.b)) (max (PyData.depth (Dat.py d.c)) 0)) + 1 ≤ _
    omega
  eqv := fun a b => by
    obtain ⟨a, a', a''⟩ := a; obtain ⟨b, b', b''⟩ := b
    simp [PyData.eqv, PyData.eqvAll, Dat.eqv]
/-- None, or a datum that is a tuple or a list -/
class Big (α : Type) [Dat α] : Prop where
  big : ∀ d : α, (∃ l, Dat.py d = .tuple l) ∨ ∃ l, Dat.py d = .list l
instance [Dat α] : Big (List α) := ⟨fun d => .inr ⟨_, rfl⟩⟩
instance [Dat α] : Big (Tup α) := ⟨fun d => .inl ⟨_, rfl⟩⟩
instance [Dat α] [Dat β] : Big (T2 α β) := ⟨fun d => .inl ⟨_, rfl⟩⟩
instance [Dat α] [Dat β] [Dat γ] : Big (T3 α β γ) := ⟨fun d => .inl ⟨_, rfl⟩⟩
instance [Dat α] [Big α] : Dat (Option α) where
  rep := fun H v d => match d with
    | none => v = .non
    | some d => Is H v d
  mono := fun {H H' v d} s h => by
    cases d with
    | none => exact h
    | some d => exact Is.up (show Is H v d from h) s
  py := fun d => match d with
    | none => .none
    | some d => Dat.py d
  dp := fun {K H v d} h => by
    cases d with
    | none => cases h; exact .non
    | some d => exact Dat.dp (show Is H v d from h)
  can := fun d => by
    cases d with
    | none => rfl
    | some d => exact Dat.can d
  dep := Dat.dep α
  depth := fun d => by
    cases d with
    | none => exact Nat.zero_le _
    | some d => exact Dat.depth d
  eqv := fun a b => by
    cases a with
    | none =>
      cases b with
      | none => exact ⟨fun _ => rfl, fun _ => rfl⟩
      | some b =>
        refine ⟨fun h => ?_, fun h => nomatch h⟩
        have h : PyData.eqv .none (Dat.py b) = true := h
        rcases Big.big b with ⟨l, e⟩ | ⟨l, e⟩ <;> (rw [e] at h; simp only [PyData.eqv] at h; cases h)
    | some a =>
      cases b with
      | none =>
        refine ⟨fun h => ?_, fun h => nomatch h⟩
        have h : PyData.eqv (Dat.py a) .none = true := h
        rcases Big.big a with ⟨l, e⟩ | ⟨l, e⟩ <;> (rw [e] at h; simp only [PyData.eqv] at h; cases h)
      | some b =>
        show PyData.eqv (Dat.py a) (Dat.py b) = true ↔ _
        rw [Dat.eqv, Option.some.injEq]
end
/-- == and != of data -/
theorem eq_dat0 {α : Type} [Dat α] [DecidableEq α] {a b : α} (hd : Dat.dep α ≤ 64) : SeqAt.shaped (Dat.py a) = true ∧ SeqAt.shaped (Dat.py b) = true ∧ PyData.eqv (Dat.py a) (Dat.py b) = decide (a = b) := by
  refine ⟨?_, ?_, ?_⟩
  · show (PyData.canLay0 _ && decide _) = true
    rw [Dat.can, decide_eq_true (Nat.le_trans (Dat.depth a) hd)]; rfl
  · show (PyData.canLay0 _ && decide _) = true
    rw [Dat.can, decide_eq_true (Nat.le_trans (Dat.depth b) hd)]; rfl
  · rw [Bool.eq_iff_iff, Dat.eqv, decide_eq_true_iff]
theorem eq_dat {α : Type} [Dat α] [DecidableEq α] {K : PySem.W.Frag} {H : Hp} {x y : V} {a b : α} {Q : VK} (ha : Is H x a) (hb : Is H y b) (q : Q (.bl (decide (a = b))) H) (hd : Dat.dep α ≤ 64 := by decide) : rEqD K x y H Q := by
  obtain ⟨h1, h2, h3⟩ := eq_dat0 (a := a) (b := b) hd
  exact ⟨Dat.py a, Dat.py b, Dat.dp ha, Dat.dp hb, h1, h2, by rw [h3]; exact q⟩
theorem ne_dat {α : Type} [Dat α] [DecidableEq α] {K : PySem.W.Frag} {H : Hp} {x y : V} {a b : α} {Q : VK} (ha : Is H x a) (hb : Is H y b) (q : Q (.bl (!decide (a = b))) H) (hd : Dat.dep α ≤ 64 := by decide) : rNeD K x y H Q := by
  obtain ⟨h1, h2, h3⟩ := eq_dat0 (a := a) (b := b) hd
  exact ⟨Dat.py a, Dat.py b, Dat.dp ha, Dat.dp hb, h1, h2, by rw [h3]; exact q⟩
/-! ### machines -/
/-- an entry -/
inductive Ent where
  | emp
  | go (put way row : Int)
  deriving DecidableEq
def entO : Ent → HO
  | .emp => .tup []
  | .go p w r => .tup [.int p, .int w, .int r]
def entP : Ent → PyData
  | .emp => .tuple []
  | .go p w r => .tuple [.int p, .int w, .int r]
instance : Dat Ent where
  rep := fun H v e => ∃ a, v = .ref a ∧ H a = some (entO e)
  mono := fun s h => by obtain ⟨a, e, h⟩ := h; exact ⟨a, e, s _ _ h⟩
  py := entP
  dp := fun {K H v d} h => by
    obtain ⟨a, rfl, h⟩ := h
    cases d with
    | emp => exact .tup (SqT.of h) .nil
    | go p w r => exact .tup (SqT.of h) (.cons (.int _) (.cons (.int _) (.cons (.int _) .nil)))
  can := fun d => by cases d <;> rfl
  dep := 1
  depth := fun d => by cases d <;> simp [entP, PyData.depth, PyData.depthAll]
  eqv := fun a b => by cases a <;> cases b <;> simp [entP, PyData.eqv, PyData.eqvAll]
instance : Big Ent := ⟨fun d => by cases d <;> exact .inl ⟨_, rfl⟩⟩
abbrev Mach := List (List Ent)
/-! ### pairs of ints: a dict's items, sorted ones -/
abbrev PI := T2 Int Int
def dI (l : List PI) : List (Key × V) := l.map fun p => (Sum.inl p.a, V.int p.b)
def look (l : List PI) (x : Int) : Option Int := (l.find? fun p => decide (p.a = x)).map (·.b)
def put (l : List PI) (x v : Int) : List PI := if (l.any fun p => decide (p.a = x)) = true then l.map (fun p => if p.a = x then ⟨p.a, v⟩ else p) else l ++ [⟨x, v⟩]
def merge (l m : List PI) : List PI := m.foldl (fun acc p => put acc p.a p.b) l
theorem key_inl (a b : Int) : ((Sum.inl a : Key) = Sum.inl b) = (a = b) := propext ⟨Sum.inl.inj, fun h => by rw [h]⟩
theorem dI_val (x : Int) : ∀ l : List PI, valV (dI l) (Sum.inl x) = (look l x).map V.int
  | [] => rfl
  | p :: l => by
    have ih := dI_val x l
    show valV ((Sum.inl p.a, V.int p.b) :: dI l) (Sum.inl x) = _
    by_cases e : p.a = x
    · rw [valV_pos (by rw [key_inl]; exact e)]
      simp [look, e]
    · rw [valV_neg (by rw [key_inl]; exact e), ih]
      simp [look, e]
theorem dI_put (l : List PI) (x v : Int) : putK (dI l) (Sum.inl x) (.int v) = dI (put l x v) := by
  have e : ((dI l).any fun kv => decide (kv.1 = Sum.inl x)) = (l.any fun p => decide (p.a = x)) := by
    unfold dI
    rw [List.any_map]
    congr 1
    funext p
    simp only [Function.comp, key_inl]
  unfold putK put
  rw [e]
  by_cases a : (l.any fun p => decide (p.a = x)) = true
  · rw [if_pos a, if_pos a]
    unfold dI
    rw [List.map_map, List.map_map]
    congr 1
    funext p
    simp only [Function.comp, key_inl]
    by_cases h : p.a = x
    · rw [if_pos h, if_pos h]
    · rw [if_neg h, if_neg h]
  · rw [if_neg a, if_neg a]
    unfold dI
    rw [List.map_append]
    rfl
theorem dI_merge (m : List PI) : ∀ l : List PI, mergeK (dI l) (dI m) = dI (merge l m) := by
  induction m with
  | nil => intro l; rfl
  | cons p m ih =>
    intro l
    show mergeK (putK (dI l) (Sum.inl p.a) (.int p.b)) (dI m) = dI (merge (put l p.a p.b) m)
    rw [dI_put]
    exact ih _
theorem look_nil (x : Int) : look [] x = none := rfl
theorem look_cons (p : PI) (l : List PI) (x : Int) : look (p :: l) x = if p.a = x then some p.b else look l x := by
  unfold look
  rw [List.find?_cons]
  by_cases e : p.a = x
  · simp [e]
  · simp [e]
theorem look_any (x : Int) : ∀ l : List PI, (l.any fun p => decide (p.a = x)) = (look l x).isSome
  | [] => rfl
  | p :: l => by
    rw [List.any_cons, look_any x l, look_cons]
    by_cases e : p.a = x
    · simp [e]
    · simp [e]
theorem look_map (x y v : Int) : ∀ l : List PI, look (l.map fun p => if p.a = x then ⟨p.a, v⟩ else p) y = (look l y).map fun z => if y = x then v else z
  | [] => rfl
  | p :: l => by
    rw [List.map_cons, look_cons, look_cons, look_map x y v l]
    by_cases e : p.a = x
    · rw [if_pos e]
      by_cases f : p.a = y
      · rw [if_pos f, if_pos f]
        rw [← f, Option.map_some, if_pos e]
      · rw [if_neg f, if_neg f]
    · rw [if_neg e]
      by_cases f : p.a = y
      · rw [if_pos f, if_pos f, Option.map_some, if_neg (by rw [← f]; exact e)]
      · rw [if_neg f, if_neg f]
theorem look_app (l m : List PI) (x : Int) : look (l ++ m) x = (look l x).or (look m x) := by
  induction l with
  | nil => rfl
  | cons p l ih =>
    rw [List.cons_append, look_cons, look_cons, ih]
    by_cases e : p.a = x
    · rw [if_pos e, if_pos e]; rfl
    · rw [if_neg e, if_neg e]
theorem look_put (l : List PI) (x v y : Int) : look (put l x v) y = if y = x then some v else look l y := by
  unfold put
  by_cases a : (l.any fun p => decide (p.a = x)) = true
  · rw [if_pos a, look_map]
    by_cases e : y = x
    · rw [if_pos e, e]
      rw [look_any] at a
      obtain ⟨z, hz⟩ := Option.isSome_iff_exists.mp a
      rw [hz, Option.map_some, if_pos rfl]
    · rw [if_neg e]
      cases look l y with
      | none => rfl
      | some z => rw [Option.map_some, if_neg e]
  · rw [if_neg a, look_app]
    rw [look_any] at a
    by_cases e : y = x
    · rw [if_pos e, e]
      cases h : look l x with
      | none => rw [look_cons, if_pos rfl]; rfl
      | some z => rw [h] at a; exact absurd rfl a
    · rw [if_neg e, look_cons, if_neg (fun z => e z.symm), look_nil]
      cases look l y <;> rfl
/-- no place twice -/
def Nd (l : List PI) : Prop := (l.map (·.a)).Nodup
theorem look_none {l : List PI} {x : Int} : look l x = none ↔ x ∉ l.map (·.a) := by
  induction l with
  | nil => simp [look_nil]
  | cons p l ih =>
    rw [look_cons, List.map_cons, List.mem_cons]
    by_cases e : p.a = x
    · rw [if_pos e]; simp [e]
    · rw [if_neg e, ih]
      constructor
      · intro h z
        rcases z with z | z
        · exact e z.symm
        · exact h z
      · intro h z
        exact h (.inr z)
theorem look_mem {l : List PI} (h : Nd l) {p : PI} (m : p ∈ l) : look l p.a = some p.b := by
  induction l with
  | nil => cases m
  | cons q l ih =>
    have h' := List.nodup_cons.mp h
    rw [look_cons]
    rcases List.mem_cons.mp m with rfl | m
    · rw [if_pos rfl]
    · rw [if_neg (fun e => h'.1 (by show q.a ∈ _; rw [e]; exact List.mem_map.mpr ⟨p, m, rfl⟩))]
      exact ih h'.2 m
theorem mem_look {l : List PI} {x v : Int} (h : look l x = some v) : (⟨x, v⟩ : PI) ∈ l := by
  induction l with
  | nil => cases h
  | cons q l ih =>
    rw [look_cons] at h
    by_cases e : q.a = x
    · rw [if_pos e] at h
      cases h
      subst e
      exact List.mem_cons_self
    · rw [if_neg e] at h
      exact List.mem_cons_of_mem _ (ih h)
theorem nd_put {l : List PI} (h : Nd l) (x v : Int) : Nd (put l x v) := by
  unfold put
  by_cases a : (l.any fun p => decide (p.a = x)) = true
  · rw [if_pos a]
    unfold Nd
    rw [List.map_map]
    have e : ((fun p : PI => p.a) ∘ fun p : PI => if p.a = x then (⟨p.a, v⟩ : PI) else p) = fun p : PI => p.a := by
      funext p
      simp only [Function.comp]
      split <;> rfl
    rw [e]; exact h
  · rw [if_neg a]
    unfold Nd
    rw [List.map_append]
    refine nd_snoc h ?_
    rw [look_any] at a
    refine look_none.mp ?_
    cases q : look l x with
    | none => rfl
    | some z => rw [q] at a; exact absurd rfl a
theorem put_new {l : List PI} {x : Int} (v : Int) (h : look l x = none) : put l x v = l ++ [⟨x, v⟩] := by
  unfold put
  rw [look_any, h]
  rfl
theorem merge_nd {m : List PI} : ∀ {l : List PI}, Nd (l ++ m) → merge l m = l ++ m := by
  induction m with
  | nil => intro l _; simp [merge]
  | cons p m ih =>
    intro l h
    have e : l ++ p :: m = (l ++ [p]) ++ m := by simp
    have hn : look l p.a = none := by
      refine look_none.mpr fun z => ?_
      unfold Nd at h
      rw [List.map_append] at h
      exact (List.nodup_append.mp h).2.2 _ z _ (by rw [List.map_cons]; exact List.mem_cons_self) rfl
    show merge (put l p.a p.b) m = _
    rw [put_new _ hn, e]
    exact ih (by rw [← e]; exact h)
theorem nd_nil : Nd [] := List.nodup_nil
theorem put_len (l : List PI) (x v : Int) : (put l x v).length ≤ l.length + 1 := by
  unfold put
  split
  · rw [List.length_map]; omega
  · rw [List.length_append]; exact Nat.le_refl _
/-- Python's order of pairs -/
def leP (p q : PI) : Bool := decide (p.a < q.a) || (decide (p.a = q.a) && decide (p.b ≤ q.b))
theorem leP_iff {p q : PI} : leP p q = true ↔ p.a < q.a ∨ (p.a = q.a ∧ p.b ≤ q.b) := by simp [leP]
def ins (p : PI) : List PI → List PI
  | [] => [p]
  | q :: l => if leP p q = true then p :: q :: l else q :: ins p l
def srt (l : List PI) : List PI := l.foldr ins []
theorem ins_perm (p : PI) : ∀ l : List PI, (ins p l).Perm (p :: l)
  | [] => List.Perm.refl _
  | q :: l => by
    unfold ins
    split
    · exact List.Perm.refl _
    · exact (List.Perm.cons q (ins_perm p l)).trans (List.Perm.swap p q l)
theorem srt_perm : ∀ l : List PI, (srt l).Perm l
  | [] => List.Perm.refl _
  | p :: l => (ins_perm p (srt l)).trans ((srt_perm l).cons p)
abbrev LeP (p q : PI) : Prop := leP p q = true
theorem leP_trans {p q r : PI} (h1 : LeP p q) (h2 : LeP q r) : LeP p r := by
  have a := leP_iff.mp h1
  have b := leP_iff.mp h2
  exact leP_iff.mpr (by omega)
theorem leP_total (p q : PI) : LeP p q ∨ LeP q p := by
  show leP p q = true ∨ leP q p = true
  rw [leP_iff, leP_iff]
  omega
theorem ins_srt (p : PI) : ∀ {l : List PI}, l.Pairwise LeP → (ins p l).Pairwise LeP
  | [], _ => List.pairwise_singleton _ _
  | q :: l, h => by
    have h' := List.pairwise_cons.mp h
    unfold ins
    split
    · rename_i e
      refine List.pairwise_cons.mpr ⟨fun x m => ?_, h⟩
      rcases List.mem_cons.mp m with rfl | m
      · exact e
      · exact leP_trans e (h'.1 x m)
    · rename_i e
      refine List.pairwise_cons.mpr ⟨fun x m => ?_, ins_srt p h'.2⟩
      rcases List.mem_cons.mp ((ins_perm p l).mem_iff.mp m) with rfl | m
      · rcases leP_total q x with z | z
        · exact z
        · exact absurd z e
      · exact h'.1 x m
theorem srt_srt : ∀ l : List PI, (srt l).Pairwise LeP
  | [] => List.Pairwise.nil
  | p :: l => ins_srt p (srt_srt l)
theorem leP_anti {p q : PI} (h1 : LeP p q) (h2 : LeP q p) : p = q := by
  have a := leP_iff.mp h1
  have b := leP_iff.mp h2
  obtain ⟨x, y⟩ := p
  obtain ⟨x', y'⟩ := q
  have e1 : x = x' := by show x = x'; simp only at a b; omega
  have e2 : y = y' := by simp only at a b; omega
  rw [e1, e2]
/-- there is one sorted list of them -/
theorem srt_uniq : ∀ {l m : List PI}, l.Pairwise LeP → m.Pairwise LeP → l.Perm m → l = m
  | [], m, _, _, h => (List.Perm.eq_nil h.symm).symm
  | x :: l, [], _, _, h => absurd h.length_eq (by simp)
  | x :: l, y :: m, hl, hm, h => by
    have l' := List.pairwise_cons.mp hl
    have m' := List.pairwise_cons.mp hm
    have h1 : LeP y x := by
      rcases List.mem_cons.mp (h.mem_iff.mp (List.mem_cons_self (a := x) (l := l))) with e | z
      · rw [e]; rcases leP_total y y with z | z <;> exact z
      · exact m'.1 x z
    have h2 : LeP x y := by
      rcases List.mem_cons.mp (h.mem_iff.mpr (List.mem_cons_self (a := y) (l := m))) with e | z
      · rw [e]; rcases leP_total x x with z | z <;> exact z
      · exact l'.1 y z
    have e := leP_anti h2 h1
    subst e
    rw [srt_uniq l'.2 m'.2 h.cons_inv]
theorem srt_of {l m : List PI} (h : m.Pairwise LeP) (p : m.Perm l) : m = srt l := srt_uniq h (srt_srt l) (p.trans (srt_perm l).symm)
/-- what a value says as a pair, read off the heap -/
def pOf (H : Hp) : V → Int × Int
  | .ref t => match H t with
    | some (.tup [.int i, .int j]) => (i, j)
    | _ => (0, 0)
  | _ => (0, 0)
theorem pOf_is {H : Hp} {v : V} {d : PI} (h : Is H v d) : ∃ t, v = .ref t ∧ H t = some (.tup [.int (pOf H v).1, .int (pOf H v).2]) ∧ d = ⟨(pOf H v).1, (pOf H v).2⟩ := by
  obtain ⟨t, x, y, rfl, h1, h2, h3⟩ := h
  have h2 : x = .int d.a := h2
  have h3 : y = .int d.b := h3
  subst h2
  subst h3
  have e : pOf H (.ref t) = (d.a, d.b) := by simp only [pOf, h1]
  exact ⟨t, rfl, by rw [e]; exact h1, by rw [e]⟩
theorem all_of {H : Hp} : ∀ {xs : List V} {l : List PI}, IsAll H xs l → l = xs.map fun v => (⟨(pOf H v).1, (pOf H v).2⟩ : PI) := fun {xs l} h => by
  refine List.ext_getElem? fun i => ?_
  rw [List.getElem?_map]
  cases e : xs[i]? with
  | none =>
    have := List.getElem?_eq_none_iff.mp e
    exact List.getElem?_eq_none_iff.mpr (by rw [← h.1]; exact this)
  | some x =>
    obtain ⟨d, hd, hx⟩ := h.get' e
    obtain ⟨t, _, _, q⟩ := pOf_is hx
    rw [hd, q]
    rfl
/-- sorted of a list of pairs -/
theorem sort_pairs {K : PySem.W.Frag} {F H : Hp} {a : Addr} {xs : List V} {l : List PI} {Q : VK} (sF : Same F H) (hx : IsAll F xs l) (ha : SqL K H a xs) (q : ∀ ys p, H p = none → IsAll F ys (srt l) → Q (.ref p) (upd H p (.lst ys))) : rSortQ K [.ref a] H Q := by
  unfold rSortQ
  refine ⟨a, xs, pOf F, rfl, ha, fun x m => ?_, fun ys p hs hb np => q ys p np ?_⟩
  · obtain ⟨i, hi⟩ := List.getElem?_of_mem m
    obtain ⟨d, _, hd⟩ := hx.get' hi
    obtain ⟨t, e, h, _⟩ := pOf_is hd
    exact ⟨t, e, sF _ _ h⟩
  · have el := all_of hx
    have hys : IsAll F ys (ys.map fun v => (⟨(pOf F v).1, (pOf F v).2⟩ : PI)) := by
      refine ⟨by rw [List.length_map], fun i x y h1 h2 => ?_⟩
      rw [List.getElem?_map, h1] at h2
      cases h2
      have m : x ∈ xs := hb.perm.mem_iff.mp (List.mem_of_getElem? h1)
      obtain ⟨j, hj⟩ := List.getElem?_of_mem m
      obtain ⟨d, _, hd⟩ := hx.get' hj
      obtain ⟨t, e, h, e2⟩ := pOf_is hd
      exact ⟨t, _, _, e, h, rfl, rfl⟩
    have es : (ys.map fun v => (⟨(pOf F v).1, (pOf F v).2⟩ : PI)) = srt l := by
      refine srt_of ?_ ?_
      · refine List.pairwise_map.mpr (List.Pairwise.imp (fun {x y} h => ?_) hs)
        have h := SrtO.lexB_no.mp h
        exact leP_iff.mpr (by simp only; omega)
      · rw [el]
        exact hb.perm.map _
    rw [es] at hys
    exact hys
theorem pairs_of {K : PySem.W.Frag} {H : Hp} : ∀ {xs : List V} {l : List PI}, IsAll H xs l → ∃ ps : List Addr, xs = ps.map V.ref ∧ Paired (fun p kv => SqT K H p [kV kv.1, kv.2]) ps (dI l)
  | [], [], _ => ⟨[], rfl, .nil⟩
  | [], d :: l, h => by have := h.1; simp at this
  | x :: xs, [], h => by have := h.1; simp at this
  | x :: xs, d :: l, h => by
    obtain ⟨t, x1, x2, e, h1, h2, h3⟩ := h.2 0 x d rfl rfl
    have h2 : x1 = .int d.a := h2
    have h3 : x2 = .int d.b := h3
    subst h2
    subst h3
    obtain ⟨ps, e2, p⟩ := pairs_of (K := K) (xs := xs) (l := l) ⟨by have := h.1; simpa using this, fun i a b p q => h.2 (i + 1) a b (by simpa using p) (by simpa using q)⟩
    exact ⟨t :: ps, by rw [e, e2]; rfl, .cons (SqT.of h1) p⟩
/-- dict(pairs) -/
theorem dict_pairs {K : PySem.W.Frag} {H : Hp} {a : Addr} {xs : List V} {l : List PI} {Q : VK} (hx : IsAll H xs l) (ha : SqL K H a xs) (q : ∀ p, H p = none → Q (.ref p) (upd H p (.dK (dI (merge [] l))))) : rDictP K [.ref a] H Q := by
  unfold rDictP
  obtain ⟨ps, e, p⟩ := pairs_of (K := K) hx
  refine ⟨a, ps, dI l, rfl, by rw [← e]; exact ha, p, fun d nd => ?_⟩
  have e2 : mergeK [] (dI l) = dI (merge [] l) := dI_merge l []
  rw [e2]
  exact q d nd
/-! ### a dict under its lock -/
theorem lock_in {F H : Hp} {d : Addr} {o : HO} (s : Same F H) : Same (fun c => if c = d then none else F c) (upd H d o) := fun c u h => by
  by_cases e : c = d
  · simp only [e, if_true] at h; cases h
  · simp only [e, if_false] at h
    rw [upd_ne e]; exact s c u h
theorem lock_out {F H F2 H2 : Hp} {d : Addr} {o u : HO} (s : Same F H) (h : H d = some u) (g : Gr mu0 (fun c => if c = d then none else F c) (upd H d o) F2 H2) :
    H2 d = some o ∧ Same F2 (fun c => if c = d then F d else F2 c) ∧ Gr mu0 F H (fun c => if c = d then F d else F2 c) (upd H2 d u) := by
  have n2 : F2 d = none := by
    cases e : F2 d with
    | none => rfl
    | some z =>
      rcases g.nw d z e with k | k
      · simp only [if_true] at k; cases k
      · rw [upd_same] at k; cases k
  refine ⟨g.fr d o upd_same (fun z => z), fun c z e => ?_, ⟨fun c z e => ?_, fun c z e => ?_, fun c z e => ?_, fun c z e m => ?_, fun c e => ?_⟩⟩
  · by_cases k : c = d
    · rw [k, n2] at e; cases e
    · simp only [k, if_false]; exact e
  · by_cases k : c = d
    · simp only [k, if_true]; rw [← k]; exact e
    · simp only [k, if_false]
      exact g.ff c z (by simp only [k, if_false]; exact e)
  · by_cases k : c = d
    · simp only [k, if_true] at e
      rw [k, upd_same, ← h]
      exact s d z e
    · simp only [k, if_false] at e
      rw [upd_ne k]; exact g.fh c z e
  · by_cases k : c = d
    · simp only [k, if_true] at e
      exact .inl (by rw [k]; exact e)
    · simp only [k, if_false] at e
      rcases g.nw c z e with q | q
      · simp only [k, if_false] at q; exact .inl q
      · rw [upd_ne k] at q; exact .inr q
  · by_cases k : c = d
    · rw [k, upd_same]; rw [k, h] at e; exact e
    · rw [upd_ne k]
      exact g.fr c z (by rw [upd_ne k]; exact e) (fun z => z)
  · by_cases k : c = d
    · rw [k, upd_same] at e; cases e
    · rw [upd_ne k] at e
      have q := g.th c e
      rw [upd_ne k] at q; exact q
/-- the signs that aren't 0, in order -/
def nz (p : PI) : Bool := decide (p.b ≠ 0)
def told (l : List PI) : List PI := srt (l.filter nz)
theorem dI_get {l : List PI} {i : Nat} (h : i < l.length) : (dI l)[i]? = some (Sum.inl l[i].a, V.int l[i].b) := by
  unfold dI
  rw [List.getElem?_map, List.getElem?_eq_getElem h]
  rfl
theorem filter_take_succ {l : List PI} {f : PI → Bool} {i : Nat} (h : i < l.length) : (l.take (i + 1)).filter f = (l.take i).filter f ++ (if f l[i] = true then [l[i]] else []) := by
  rw [List.take_add_one, List.getElem?_eq_getElem h, List.filter_append]
  show _ ++ List.filter f [l[i]] = _
  rw [List.filter_cons]
  split <;> rfl
theorem nd_srt {l : List PI} (h : Nd l) : Nd (srt l) := ((srt_perm l).map (fun p : PI => p.a)).nodup_iff.mpr h
theorem mem_srt {l : List PI} {q : PI} : q ∈ srt l ↔ q ∈ l := (srt_perm l).mem_iff
theorem mem_put {l : List PI} {x v : Int} {q : PI} (m : q ∈ put l x v) : q ∈ l ∨ q = ⟨x, v⟩ := by
  unfold put at m
  split at m
  · obtain ⟨z, hz, e⟩ := List.mem_map.mp m
    split at e
    · rename_i h1 h2
      exact .inr (by rw [← e, h2])
    · exact .inl (by rw [← e]; exact hz)
  · rcases List.mem_append.mp m with m | m
    · exact .inl m
    · exact .inr (List.mem_singleton.mp m)
/-! ### sorted(d.items()), d a dict of ints to ints -/
section
open PySem.Spec PyProof.Rows
variable {X : Cx}
/-- many new things are tracked at once -/
theorem inv_many {pins : List (Addr × Obj)} {σ : L2.St} {H H' : Hp} {s : Shared} {h' : Heap} {tk : Nat} {as : List Addr} (I : Inv X pins σ H s) (k : ∀ b o, s.heap.get? b = some o → h'.get? b = some o) (hp : ∀ a ∈ as, s.heap.objs.size ≤ a)
    (p1 : ∀ b, b ∉ as → H' b = H b) (p2 : ∀ b ∈ as, ∀ o, H' b = some o → ObjOk X.prog X.w H' h' b o) : Inv X pins σ H' { s with heap := h', toks := tk } := by
  have old : ∀ b o, s.heap.get? b = some o → b ∉ as := fun b o e z => Nat.lt_irrefl _ (Nat.lt_of_lt_of_le (Heap.lt_size e) (hp b z))
  have trc : ∀ b o, H b = some o → b ∉ as := fun b o e z => by
    have := I.hok.lt e
    exact Nat.lt_irrefl _ (Nat.lt_of_lt_of_le this (hp b z))
  have kp : ∀ b o, H b = some o → H' b = some o := fun b o e => by rw [p1 b (trc b o e)]; exact e
  refine I.un ⟨fun b o q _ _ _ => k b o q, fun b o q _ _ _ => ⟨o.slots, k b o q⟩, fun b o q n _ => by rw [p1 b (old b o q)]; exact n, fun b o q _ => ⟨o, k b o q⟩, fun b xs e => kp b _ e, fun b o u e => kp b _ e, fun b ps e => ⟨#[], by rw [kp b _ e]; simp⟩⟩ fun b o e => ?_
  by_cases m : b ∈ as
  · exact p2 b m o e
  · rw [p1 b m] at e
    exact (I.hok b o e).stay (fun c u _ q => k c u q) (fun c q => kp c _ q) fun c xs q => kp c _ q
/-- the pair that stands at a -/
def pzAt (zs : List (Addr × PI)) (a : Addr) : Option PI := (zs.find? fun z => decide (z.1 = a)).map (·.2)
theorem pzAt_ix : ∀ {zs : List (Addr × PI)}, (zs.map (·.1)).Nodup → ∀ {j : Nat} {z : Addr × PI}, zs[j]? = some z → pzAt zs z.1 = some z.2
  | [], _, j, z, h => by cases h
  | y :: ys, nd, 0, z, h => by
    have e := Option.some.inj h
    subst e
    simp [pzAt]
  | y :: ys, nd, j + 1, z, h => by
    have nd' := List.nodup_cons.mp nd
    have m : z.1 ∈ ys.map (·.1) := List.mem_map.mpr ⟨z, List.mem_of_getElem? (show ys[j]? = some z from h), rfl⟩
    have ih := pzAt_ix nd'.2 (show ys[j]? = some z from h)
    have ne : ¬ y.1 = z.1 := fun e => nd'.1 (by show y.1 ∈ _; rw [e]; exact m)
    unfold pzAt at ih ⊢
    rw [List.find?_cons, decide_eq_false ne]
    exact ih
theorem pzAt_no {zs : List (Addr × PI)} {a : Addr} (h : a ∉ zs.map (·.1)) : pzAt zs a = none := by
  unfold pzAt
  rw [List.find?_eq_none.mpr fun z m e => h (List.mem_map.mpr ⟨z, m, of_decide_eq_true e⟩)]
  rfl
def trk (H : Hp) (B : Addr) (L : HO) (zs : List (Addr × PI)) : Hp := fun b => if b = B then some L else match pzAt zs b with
  | some q => some (.tup [.int q.a, .int q.b])
  | none => H b
def adOf : Value → Addr
  | .ref a => a
  | _ => 0
@[irreducible] def rSortIt : V → Hp → VK → Prop := fun x H Q => ∃ (d : Addr) (l : List PI), x = .ref d ∧ H d = some (.dK (dI l)) ∧
  ∀ (H' : Hp) (p : Addr) (ys : List Addr), Same H H' → H p = none → (∀ t ∈ ys, H t = none) → p ∉ ys → (∀ b, b ≠ p → b ∉ ys → H' b = H b) → H' p = some (.lst (ys.map V.ref)) → All2 (fun t (q : PI) => H' t = some (.tup [.int q.a, .int q.b])) ys (srt l) → Q (.ref p) H'
def tSortIt (te : TE) : TE := fun σ H Q => te σ H fun x H1 => rSortIt x H1 Q
theorem pe_sortedItems {e : Expr} {te : TE} {p apos cpos pos : Pos} (hc : X.calm = true) (he : PE X e te) (hg : Gl X "sorted") (hm : X.mg "sorted" = none) (hv : bootBuiltins "sorted" = some (.builtin "sorted")) (hbase : attributeBase e "items" X.env (eval e X.env) = eval e X.env := by rfl) (hline : (apos.endLine == cpos.line) = true := by rfl)
    (hs : starEach [.Call (.Attribute e "items" apos) [] [] cpos] X.env = (false, eval (.Call (.Attribute e "items" apos) [] [] cpos) X.env) :: starEach [] X.env := by rfl) :
    PE X (.Call (.Name "sorted" p) [.Call (.Attribute e "items" apos) [] [] cpos] [] pos) (tSortIt te) := by
  refine ⟨fun pins s σ H Q I hq => ?_⟩
  refine wpAny_Call_Name_kw (ld_blt I hg hm hv ?_)
  refine PyProof.Rows.callWith_builtin1 ?_ hs rfl
  rw [hs]
  show wpAny _ _ (spliced ((false, eval (.Call (.Attribute e "items" apos) [] [] cpos) X.env) :: backTo pos (starEach [] X.env))) _ _ s
  refine Calls.spliced_cons ?_
  refine wpAny_Call_method (T := "dict") (id := "dict.items") hbase rfl hline F.plainAttrs_dict F.slot_dict_items F.type_dict_items (thn (he.run pins s σ H _ I hq) fun u s1 ⟨x, H1, I1, rx, q⟩ => ?_)
  unfold rSortIt at q
  obtain ⟨d, l, rfl, hd, q⟩ := q
  obtain rfl : u = Value.ref d := rx
  obtain ⟨hz, hs0, vs, kv, hdo⟩ := I1.hok d _ hd
  obtain ⟨ep, hat⟩ := hdo.dictAt
  have lk : (dI l).length = vs.length := Paired.length kv
  have ll : (dI l).length = l.length := by unfold dI; rw [List.length_map]
  refine ⟨hdo.typeIs, hdo.mapOf.noDict, ?_⟩
  show wpAny _ _ (callWith cpos (.builtin "dict.items") [.ref d] [] []) _ X.xe s1
  refine method_meetsIn F.slot_dict_items F.entry_dict_items rfl (PySem.evalArgs_none ⟨rfl, hdo.typeIs, F.args_dict_items_1 _, _, meets_dict_items (mixKind X.prog X.w) d hs0, ⟨vs, hdo⟩, ?_⟩)
  refine Calls.spliced_nil ?_
  have I2 : Inv X pins σ H1 { s1 with heap := s1.heap.push { cls := .type "dict_items", data := .fields #[.ref d] } } := I1.kept (t' := s1.toks) fun b ob q => Heap.get?_push_of_some _ q
  have hB : ((H1 d).isSome) = true := by rw [hd]; rfl
  refine Calls.call_function_entry kind_sorted plain_sorted entry_sorted (args_sorted1 _) (by
    unfold Builtin.«sorted»
    refine wpAny_bind (m := checkCount "sorted" 1 1 _) (wpAny_pure (wpAny_bind (PySem.W.kdx_collect (knd := mixKind X.prog X.w) (kvs := vs) (ep := ep) (I1.ok.hd hc) ⟨_, Heap.get?_push_size _ rfl, rfl, rfl⟩ (hat.push _) (by omega) fun h1 tk as hk hl hG => ?_)))
    refine wpAny_bind (wpAny_newList ?_ (by rw [List.length_map, hl]; omega))
    -- the pairs' tuples: at as
    have nd : as.Nodup := hG.rise.imp fun {a b} h => Nat.ne_of_lt h
    have lz : (as.zip l).map (·.1) = as := List.map_fst_zip (by omega)
    have zx : ∀ (j : Nat) (a : Addr), as[j]? = some a → ∃ (q : PI) (t u : Tok), l[j]? = some q ∧ pzAt (as.zip l) a = some q ∧ h1.get? a = some { cls := .type "tuple", data := .seq #[.int q.a t, .int q.b u] } := fun j a h => by
      obtain ⟨key, k, x, e1, e2, e3⟩ := hG.pairs j a h
      have jl : j < l.length := by have := (List.getElem?_eq_some_iff.mp h).1; omega
      have lj : l[j]? = some l[j] := List.getElem?_eq_getElem jl
      obtain ⟨y, e4, e5, e6⟩ := LiI.paired_get kv (dI_get jl)
      rw [e1] at e4
      have e4 := Option.some.inj e4
      subst e4
      obtain ⟨i, tk1, e7, rfl⟩ | ⟨z, tk1, e7, _⟩ := keyIs_shape (show keyIs k key = true from e2)
      · have e5 : Sum.inl l[j].a = k := e5
        rw [e7] at e5
        have e5 := Sum.inl.inj e5
        subst e5
        obtain ⟨tk2, e6⟩ := (show RelV (.int l[j].b) x from e6)
        subst e6
        exact ⟨l[j], tk1, tk2, lj, pzAt_ix (zs := as.zip l) (by rw [lz]; exact nd) (j := j) (z := (a, l[j])) (List.getElem?_zip_eq_some.mpr ⟨h, lj⟩), e3⟩
      · have e5 : Sum.inl l[j].a = k := e5
        rw [e7] at e5
        cases e5
    have zm : ∀ a ∈ as, ∃ (q : PI) (t u : Tok), pzAt (as.zip l) a = some q ∧ h1.get? a = some { cls := .type "tuple", data := .seq #[.int q.a t, .int q.b u] } := fun a m => by
      obtain ⟨j, hj⟩ := List.getElem?_of_mem m
      obtain ⟨q, t, u, _, h2, h3⟩ := zx j a hj
      exact ⟨q, t, u, h2, h3⟩
    have lm : as.map (fun a => (pzAt (as.zip l) a).getD ⟨0, 0⟩) = l := by
      refine List.ext_getElem? fun j => ?_
      rw [List.getElem?_map]
      cases hj : as[j]? with
      | none =>
        have := List.getElem?_eq_none_iff.mp hj
        exact (List.getElem?_eq_none_iff.mpr (by omega)).symm
      | some a =>
        obtain ⟨q, t, u, h1, h2, _⟩ := zx j a hj
        rw [h1, Option.map_some, h2]; rfl
    generalize ezs : as.zip l = zs at zx zm lm lz
    have s12 : (s1.heap.push { cls := .type "dict_items", data := .fields #[.ref d] }).objs.size ≤ h1.objs.size := by
      have := Heap.lt_size (hk _ _ (Heap.get?_push_size s1.heap rfl))
      rw [Heap.size_push]; exact this
    have Bn : h1.objs.size ∉ as := fun z => Nat.lt_irrefl _ (hG.there z)
    let kk : Value → Int × Int := fun v => (((pzAt zs (adOf v)).getD ⟨0, 0⟩).a, ((pzAt zs (adOf v)).getD ⟨0, 0⟩).b)
    have ho : (h1.push { cls := .type "list", data := .seq (as.map Value.ref).toArray }).get? h1.objs.size = some (seqObj "list" (as.map Value.ref).toArray 0) := Heap.get?_push_size _ rfl
    refine wpAny_bind (wpAny_holding (wpAny_call_entry slot_list_sort ⟨_, ho, rfl⟩ entry_list_sort (SrtO.list_sort_ord (ltv := fun v u => SrtO.lexB (kk v) (kk u)) (SrtO.swo_lex kk) ho (by rw [List.length_map, hl]; omega) (fun h2 => ?_) fun out hso hbo => ⟨_, rfl, wpAny_pure ⟨_, rfl, ?_⟩⟩) (args_list_sort _)))
    · refine SrtO.pairs_sortableO (k := kk) (by omega) (fun v m => ?_) fun o e => ?_
      · obtain ⟨a, ma, rfl⟩ := List.mem_map.mp m
        obtain ⟨q, t, u, h1', h2'⟩ := zm a ma
        refine ⟨a, _, t, u, 0, rfl, Heap.get?_push_of_some _ h2', rfl, ?_⟩
        show _ = Data.seq #[.int ((pzAt zs a).getD ⟨0, 0⟩).a t, .int ((pzAt zs a).getD ⟨0, 0⟩).b u] 0
        rw [h1']
        rfl
      · rw [ho] at e
        cases e
        intro c
        exact absurd (Value.type.inj c) (by decide)
    · have outp : out.Perm (as.map Value.ref) := hbo.perm
      have oe : out = (out.map adOf).map Value.ref := by
        rw [List.map_map]
        refine (List.map_id out).symm.trans (List.map_congr_left fun v m => ?_)
        obtain ⟨a, _, rfl⟩ := List.mem_map.mp (outp.mem_iff.mp m)
        rfl
      have yp : (out.map adOf).Perm as := by
        have := outp.map adOf
        rw [List.map_map] at this
        have e : as.map (adOf ∘ Value.ref) = as := (List.map_congr_left fun a _ => rfl).trans (List.map_id as)
        rw [e] at this; exact this
      generalize out.map adOf = ys at oe yp
      have lo : out.length ≤ sizeLine := by rw [oe, List.length_map, yp.length_eq, hl]; omega
      obtain ⟨ep3, h3B⟩ := sortedHeap_at (vs := as.map Value.ref) (out := out.toArray) ho
      have h3o : ∀ b o, h1.get? b = some o → (sortedHeap (h1.push { cls := .type "list", data := .seq (as.map Value.ref).toArray }) h1.objs.size (as.map Value.ref) out.toArray).get? b = some o := fun b o e => by
        have bl := Heap.lt_size e
        rw [sortedHeap_old (Nat.ne_of_lt bl) (by rw [Heap.size_push]; exact Nat.lt_succ_of_lt bl)]
        exact Heap.get?_push_of_some _ e
      have tB : trk H1 h1.objs.size (.lst (ys.map V.ref)) zs h1.objs.size = some (.lst (ys.map V.ref)) := by unfold trk; rw [if_pos rfl]
      have tT : ∀ a ∈ as, ∀ q, pzAt zs a = some q → trk H1 h1.objs.size (.lst (ys.map V.ref)) zs a = some (.tup [.int q.a, .int q.b]) := fun a m q e => by
        unfold trk
        rw [if_neg (fun z => Bn (by rw [← z]; exact m)), e]
      have tO : ∀ b, b ≠ h1.objs.size → b ∉ as → trk H1 h1.objs.size (.lst (ys.map V.ref)) zs b = H1 b := fun b n m => by
        unfold trk
        rw [if_neg n, pzAt_no (by rw [lz]; exact m)]
      have big : ∀ a ∈ h1.objs.size :: as, (s1.heap.push { cls := .type "dict_items", data := .fields #[.ref d] }).objs.size ≤ a := fun a m => by
        rcases List.mem_cons.mp m with rfl | m
        · exact s12
        · exact Nat.le_of_lt (hG.above a m)
      have J := inv_many (tk := tk) (H' := trk H1 h1.objs.size (.lst (ys.map V.ref)) zs) (h' := sortedHeap (h1.push { cls := .type "list", data := .seq (as.map Value.ref).toArray }) h1.objs.size (as.map Value.ref) out.toArray) (as := h1.objs.size :: as) I2 (fun b o e => h3o b o (hk b o e)) big
          (fun b m => tO b (fun z => m (by rw [z]; exact List.mem_cons_self)) (fun z => m (List.mem_cons_of_mem _ z))) (fun b m o e => by
        by_cases hb : b = h1.objs.size
        · subst hb
          rw [tB] at e
          cases e
          refine ⟨by rw [List.length_map, yp.length_eq, hl]; omega, out, ep3, ?_, h3B⟩
          rw [oe]
          exact LiI.vals_refs ys
        · have m := (List.mem_cons.mp m).resolve_left hb
          obtain ⟨q, t, u, e1, e2⟩ := zm b m
          rw [tT b m q e1] at e
          cases e
          exact ⟨two_le, [.int q.a t, .int q.b u], .cons ⟨_, rfl⟩ (.cons ⟨_, rfl⟩ .nil), ⟨_, h3o b _ e2, rfl, _, rfl⟩⟩)
      have fr1 : ∀ a ∈ h1.objs.size :: as, H1 a = none := fun a m => I2.hok.fresh (big a m)
      have ym : ∀ a, a ∈ ys ↔ a ∈ as := fun a => yp.mem_iff
      refine ⟨.ref h1.objs.size, _, J, rfl, q _ _ ys (fun b o e => ?_) (fr1 _ List.mem_cons_self) (fun t m => fr1 t (List.mem_cons_of_mem _ ((ym t).mp m))) (fun z => Bn ((ym _).mp z)) (fun b n m => tO b n fun z => m ((ym b).mpr z)) tB ?_⟩
      · rw [tO b (fun z => by rw [z, fr1 _ List.mem_cons_self] at e; cases e) (fun z => by rw [fr1 b (List.mem_cons_of_mem _ z)] at e; cases e)]
        exact e
      · have es : ys.map (fun a => (pzAt zs a).getD ⟨0, 0⟩) = srt l := by
          refine srt_of ?_ (by rw [← lm]; exact yp.map _)
          rw [oe] at hso
          have hso := List.pairwise_map.mp hso
          refine List.pairwise_map.mpr (hso.imp fun {x y} h => ?_)
          have h := SrtO.lexB_no.mp h
          exact leP_iff.mpr (by simp only [kk, adOf] at h; omega)
        rw [← es]
        refine ⟨by rw [List.length_map], fun i x y h1 h2 => ?_⟩
        rw [List.getElem?_map, h1] at h2
        cases h2
        have m := (ym x).mp (List.mem_of_getElem? h1)
        obtain ⟨q, t, u, e1, e2⟩ := zm x m
        rw [tT x m q e1]
        show _ = some (HO.tup [V.int ((pzAt zs x).getD ⟨0, 0⟩).a, V.int ((pzAt zs x).getD ⟨0, 0⟩).b])
        rw [e1]
        rfl)
theorem sitems {F H : Hp} {d : Addr} {l : List PI} {Q : VK} (sF : Same F H) (hd : H d = some (.dK (dI l))) (q : ∀ (F' H' : Hp) (p : Addr) (xs : List V), Gr mu0 F H F' H' → Ow H F' H' p (.lst xs) → IsAll F' xs (srt l) → Q (.ref p) H') : rSortIt (.ref d) H Q := by
  unfold rSortIt
  refine ⟨d, l, rfl, hd, fun H' p ys s n nt pn off hp al => ?_⟩
  have fy : ∀ b ∈ ys, F b = none := fun b m => sF.free (nt b m)
  have s' : Same F (fun b => if b ∈ ys then H' b else F b) := fun b o e => by
    by_cases m : b ∈ ys
    · rw [fy b m] at e; cases e
    · simp only [m, if_false]; exact e
  have e2 : ∀ b, b ∈ ys → (if b ∈ ys then H' b else F b) = H' b := fun b m => if_pos m
  refine q (fun b => if b ∈ ys then H' b else F b) H' p (ys.map V.ref) ⟨s', fun b o e => ?_, fun b o e => ?_, fun b o e _ => s b o e, fun b e => s.free e⟩ ⟨n, ?_, hp⟩ ⟨by rw [List.length_map]; exact al.1, fun i x y h1 h2 => ?_⟩
  · by_cases m : b ∈ ys
    · simp only [m, if_true] at e; exact e
    · simp only [m, if_false] at e; exact s b o (sF b o e)
  · by_cases m : b ∈ ys
    · exact .inr (nt b m)
    · simp only [m, if_false] at e; exact .inl e
  · show (if p ∈ ys then H' p else F p) = none
    rw [if_neg pn]; exact sF.free n
  · rw [List.getElem?_map] at h1
    cases e : ys[i]? with
    | none => rw [e] at h1; cases h1
    | some t =>
      rw [e] at h1
      cases h1
      refine ⟨t, _, _, rfl, ?_, rfl, rfl⟩
      show (if t ∈ ys then H' t else F t) = _
      rw [if_pos (List.mem_of_getElem? e)]
      exact al.2 i t y e h2
end
/-! ### sum of a tuple; a tuple not at all or once -/
section
open PySem.Spec PyProof.Rows
variable {X : Cx}
def rSumT (K : PySem.W.Frag) : List V → Hp → VK → Prop := fun vs H Q => ∃ (a : Addr) (ns : List Int), vs = [V.ref a] ∧ SqT K H a (ns.map V.int) ∧ Q (.int ns.sum) H
theorem cr_sumT (hc : X.calm = true) : CallR X (.builtin "sum") (rSumT X.K) := by
  intro pins s σ H vs us Q I r h
  obtain ⟨a, ns, rfl, ht, q⟩ := h
  obtain ⟨its, rv, ⟨o, ho, hcl, n, hd⟩, _⟩ := I.tuple ht
  have hi := rv.ints
  obtain ⟨xs, e⟩ := hi.allInts.items
  have hn : numsOf (intItems xs).toList = ns := by rw [← e]; exact hi.numsOf
  rw [nums_intItems] at hn
  rw [e] at hd
  rw [Vals.ref1 r]
  refine PySem.W.ktm_sumG (I.ok.hd hc) ⟨o, ho, hcl, n, hd⟩ fun h' tk t' hk => ?_
  rw [preSum_eq, List.take_of_length_le (by simp), hn]
  exact ⟨.int _, H, I.kept hk, ⟨_, rfl⟩, q⟩
theorem tup_mul1 (l : Addr) (items : Array Value) (n : Nat) (dd : Option Addr) (sl : Array (Option Value)) (u : Tok) (hne : items.isEmpty = false) :
    Meets (Builtin.«tuple.__mul__» ⟨[.ref l, .int 1 u], []⟩) (fun _ R s => s.heap.get? l = some { cls := .type "tuple", dict := dd, data := .seq items n, slots := sl } ∧ R (.ok (.ret (Value.ref l))) s) :=
  .of_wp fun prog w A R s h => by
    obtain ⟨hp, g, d, tk, os⟩ := s
    obtain ⟨hl, h⟩ := h
    have f1 := AutoSeq1.idx_int
    wp_walk using wpAny_loadPart' hl
    exact ⟨_, rfl, h⟩
theorem tup_mul0 (l : Addr) (items : Array Value) (n : Nat) (dd : Option Addr) (sl : Array (Option Value)) (u : Tok) (hne : items.isEmpty = false) :
    Meets (Builtin.«tuple.__mul__» ⟨[.ref l, .int 0 u], []⟩) (fun _ R s => s.heap.get? l = some { cls := .type "tuple", dict := dd, data := .seq items n, slots := sl } ∧
      R (.ok (.ret (Value.ref s.heap.objs.size))) { s with heap := s.heap.push { cls := Value.type "tuple", data := Data.seq #[] }, toks := s.toks }) :=
  .of_wp fun prog w A R s h => by
    obtain ⟨hp, g, d, tk, os⟩ := s
    obtain ⟨hl, h⟩ := h
    have f1 := AutoSeq1.idx_int
    wp_walk using wpAny_loadPart' hl
    exact ⟨_, rfl, h⟩
def rRep01 (K : PySem.W.Frag) : R2 := fun x y H Q => ∃ l k xs, x = .ref l ∧ y = .int k ∧ SqT K H l xs ∧ xs ≠ [] ∧ ((k = 1 ∧ Q (.ref l) H) ∨ (k = 0 ∧ ∀ p, H p = none → Q (.ref p) (upd H p (.tup []))))
theorem op_rep01 : OpR X (binaryOp .Mult) (rRep01 X.K) := by
  intro pins s σ H x y v u Q I rx ry h
  obtain ⟨l, k, xs, rfl, rfl, hT, hne, h⟩ := h
  cases rx
  obtain ⟨tk, rfl⟩ := ry
  obtain ⟨its, r, ⟨⟨cls, dd, data, sl⟩, ho, hc, n, hd⟩, hs⟩ := I.tuple hT
  simp only at hc hd
  subst hc hd
  have hi : its.toArray.isEmpty = false := by
    cases its with
    | nil => have := r.length; exact absurd (List.eq_nil_of_length_eq_zero this) hne
    | cons a b => rfl
  rcases h with ⟨rfl, q⟩ | ⟨rfl, q⟩
  · refine wpAny_binaryOp_repeat_ref (T := "tuple") (U := "int") (by decide) ⟨_, ho, rfl⟩ (fun s' => typeIs_int s' 1 tk) noFill_tuple_mul F.fills_int_mul F.slot_int_rmul repeat_tuple F.slot_int_index.lookup
      (call_meets F.slot_int_rmul (typeIs_int s 1 tk) F.entry_int_rmul (F.args_int_rmul_2 _ _) (int_rmul_tuple 1 tk l its.toArray n dd sl)
        ⟨ho, rfl, ⟨_, ho, rfl⟩, call_meets F.slot_tuple_mul ⟨_, ho, rfl⟩ F.entry_tuple_mul (F.args_tuple_mul_2 _ _) (tup_mul1 l its.toArray n dd sl tk hi) ⟨ho, ?_⟩⟩)
    exact ⟨.ref l, H, I, rfl, q⟩
  · refine wpAny_binaryOp_repeat_ref (T := "tuple") (U := "int") (by decide) ⟨_, ho, rfl⟩ (fun s' => typeIs_int s' 0 tk) noFill_tuple_mul F.fills_int_mul F.slot_int_rmul repeat_tuple F.slot_int_index.lookup
      (call_meets F.slot_int_rmul (typeIs_int s 0 tk) F.entry_int_rmul (F.args_int_rmul_2 _ _) (int_rmul_tuple 0 tk l its.toArray n dd sl)
        ⟨ho, rfl, ⟨_, ho, rfl⟩, call_meets F.slot_tuple_mul ⟨_, ho, rfl⟩ F.entry_tuple_mul (F.args_tuple_mul_2 _ _) (tup_mul0 l its.toArray n dd sl tk hi) ⟨ho, ?_⟩⟩)
    refine ⟨.ref s.heap.objs.size, _, I.laid (t' := s.toks) (o := .tup []) (fun b ob q => Heap.get?_push_of_some _ q) (Nat.le_refl _) ?_, rfl, q _ (I.hok.fresh (Nat.le_refl _))⟩
    exact ⟨nil_le, _, .nil, IsTup.new _ _⟩
end
/-! slices of tuples, +: the ways -/
@[irreducible] def rSlQ (K : PySem.W.Frag) : V → Option Int → Option Int → Hp → VK → Prop := rSlA K
theorem sl_tupQ {X : Cx} : SlR X (rSlQ X.K) := by
  unfold rSlQ
  exact sl_tupA
@[irreducible] def rCatQ (K : PySem.W.Frag) : R2 := rCatA K
theorem op_catQ {X : Cx} : OpR X (binaryOp .Add) (rCatQ X.K) := by
  unfold rCatQ
  exact op_catA
theorem slA_all {K : PySem.W.Frag} {H : Hp} {a : Addr} {xs : List V} {lo hi : Option Int} {Q : VK} (h : SqT K H a xs) (w : HT.sIx xs.length 0 lo = 0 ∧ HT.sIx xs.length xs.length hi = xs.length) (q : Q (.ref a) H) : rSlQ K (.ref a) lo hi H Q := by
  unfold rSlQ
  exact ⟨a, xs, rfl, h, fun _ => q, fun n => absurd w n⟩
theorem slA_cut {K : PySem.W.Frag} {H : Hp} {a : Addr} {xs : List V} {lo hi : Option Int} {Q : VK} (h : SqT K H a xs) (w : ¬ (HT.sIx xs.length 0 lo = 0 ∧ HT.sIx xs.length xs.length hi = xs.length)) (q : ∀ p, H p = none → Q (.ref p) (upd H p (.tup (cutV xs lo hi)))) : rSlQ K (.ref a) lo hi H Q := by
  unfold rSlQ
  exact ⟨a, xs, rfl, h, fun n => absurd n w, fun _ => q⟩
theorem catA_nil {K : PySem.W.Frag} {H : Hp} {a b : Addr} {ys : List V} {Q : VK} (h : SqT K H a []) (h2 : SqT K H b ys) (l : ys.length ≤ sizeLine) (q : Q (.ref b) H) : rCatQ K (.ref a) (.ref b) H Q := by
  unfold rCatQ
  exact ⟨a, b, [], ys, rfl, rfl, h, h2, by simpa using l, fun _ => q, fun n => absurd rfl n, fun n => absurd rfl n⟩
theorem catA_new {K : PySem.W.Frag} {H : Hp} {a b : Addr} {xs ys : List V} {Q : VK} (h : SqT K H a xs) (h2 : SqT K H b ys) (l : xs.length + ys.length ≤ sizeLine) (n1 : xs ≠ []) (n2 : ys ≠ []) (q : ∀ p, H p = none → Q (.ref p) (upd H p (.tup (xs ++ ys)))) : rCatQ K (.ref a) (.ref b) H Q := by
  unfold rCatQ
  exact ⟨a, b, xs, ys, rfl, rfl, h, h2, l, fun e => absurd e n1, fun _ e => absurd e n2, fun _ _ => q⟩
/-! ### enumerate(tuple); sorted(dict) of int keys, of any length -/
section
open PySem.Spec PyProof.Rows
set_option maxHeartbeats 8000000 in
theorem enT_new (t : Addr) (zs : Array Value) : Meets (Builtin.«enumerate.__new__» ⟨[.type "enumerate", .ref t], []⟩) (fun _ R s => s.heap.IsTuple t zs ∧
    R (.ok (.ret (.ref (s.heap.push { cls := .type "tuple_iterator", data := .fields #[.ref t, .int 0 0] }).objs.size)))
      { s with heap := (s.heap.push { cls := .type "tuple_iterator", data := .fields #[.ref t, .int 0 0] }).push { cls := .type "enumerate", data := .fields #[.none, .bool false, .ref s.heap.objs.size, rawInt 0, .none, .none] } }) :=
  .of_wp fun prog w A R s z => by
    obtain ⟨hp, gs, dr, tk, os⟩ := s
    obtain ⟨hz, z⟩ := z
    have sub := sub_enumerate
    have step : ∀ {A' : Around} {E : Value → Shared → Prop} {Q : Value → Shared → Prop}, Q (.ref hp.objs.size) ⟨hp.push { cls := .type "tuple_iterator", data := .fields #[.ref t, .int 0 0] }, gs, dr, tk, os⟩ → wpAny (model prog w) A' (pyIter (.ref t)) Q E ⟨hp, gs, dr, tk, os⟩ :=
      fun q => (begins_tuple t zs).iter prog w _ _ ⟨hp, gs, dr, tk, os⟩ _ hz q
    wp_walk using step
    refine wpAny_stack_any fun st => wpAny_pure ?_
    split
    · rename_i c _ _ _ _ _
      cases (c == Value.type "enumerate")
      · wp_walk using step
        exact ⟨_, rfl, z⟩
      · wp_walk using step
        exact ⟨_, rfl, z⟩
    · wp_walk using step
      exact ⟨_, rfl, z⟩
section
variable {prog : Program} {w : World} {A : Around} {E : Value → Shared → Prop} {s : Shared}
theorem enT_call {t : Addr} {zs : Array Value} {Q : Value → Shared → Prop} (ht : s.heap.IsTuple t zs)
    (k : ∀ h', IsEnum h' (s.heap.objs.size + 1) s.heap.objs.size 0 .none → h'.IsTupleIter s.heap.objs.size t 0 → h'.objs.size = s.heap.objs.size + 2 →
      (∀ b o, s.heap.get? b = some o → h'.get? b = some o) → Q (.ref (s.heap.objs.size + 1)) { s with heap := h' }) :
    wpAny (model prog w) A (call (.type "enumerate") [.ref t]) Q E s := by
  refine callType_new F.called_enumerate (by decide) (F.typeCall_enumerate_1 _) (F.newCall_enumerate_1 _) (fun obj => F.args_object_init_2 obj _) F.entry_enumerate_new (enT_new t zs) ⟨ht, ?_⟩
  have ez : (s.heap.push { cls := .type "tuple_iterator", data := .fields #[.ref t, .int 0 0] }).objs.size = s.heap.objs.size + 1 := Heap.size_push ..
  show _ ∧ _
  rw [ez]
  have en : IsEnum ((s.heap.push { cls := .type "tuple_iterator", data := .fields #[.ref t, .int 0 0] }).push { cls := .type "enumerate", data := .fields #[.none, .bool false, .ref s.heap.objs.size, rawInt 0, .none, .none] })
      (s.heap.objs.size + 1) s.heap.objs.size 0 .none := by
    have y := Heap.get?_push_size (s.heap.push { cls := .type "tuple_iterator", data := .fields #[.ref t, .int 0 0] }) (o := { cls := .type "enumerate", data := .fields #[.none, .bool false, .ref s.heap.objs.size, rawInt 0, .none, .none] }) rfl
    rw [ez] at y; exact y
  exact ⟨⟨_, en, rfl⟩, k _ en ⟨_, Heap.get?_push_of_some _ (Heap.get?_push_size _ rfl), rfl, rfl⟩ (by rw [Heap.size_push, ez]) fun b o x => Heap.get?_push_of_some _ (Heap.get?_push_of_some _ x)⟩
theorem enT_end {e it t : Addr} {i : Nat} {zs : Array Value} {old : Value} {Q : Option Value → Shared → Prop} (hh : A.handled = none) (he : IsEnum s.heap e it i old) (hit : s.heap.IsTupleIter it t i) (ht : s.heap.IsTuple t zs) (hx : zs.size ≤ i)
    (k : ∀ h', Heap.ExtBut it s.heap h' → Q none { s with heap := h' }) : wpAny (model prog w) A (pyNext (.ref e)) Q E s := by
  have hT : s.TypeIs (.ref e) "enumerate" := ⟨_, he, rfl⟩
  unfold pyNext
  refine wpAny_bind (wpAny_attempt (wpAny_callSpecial?_slot (name := Str.ofString "__next__") hT F.slot_enumerate_next (wpAny_call_entry F.slot_enumerate_next hT F.entry_enumerate_next ?_ (F.args_enumerate_next_1 _))))
  show wpAny _ _ (field (.ref e) 2 >>= _) _ _ _
  refine wpAny_bind (wpAny_field he rfl (x := .ref it) rfl (wpAny_bind (wpAny_nextOf_tuple_end (show A.in1.handled = none from hh) hit ht (Array.getElem?_eq_none hx) fun h' x eb hx' => ?_)))
  obtain ⟨o, ho, hc⟩ := hx'
  exact wpAny_bind (wpAny_isInstance (T := "StopIteration") (b := true) ⟨o, ho, hc⟩ isSubtype_stop (wpAny_pure (k _ eb)))
end
/-- the tuple at a, each item in a new pair with its place -/
def Iet (K : PySem.W.Frag) (a : Addr) : It :=
  ⟨fun i H => ∃ (xs : List V) (x : V), SqT K H a xs ∧ xs[i]? = some x, fun i H v H' => ∃ T x, v = .ref T ∧ H T = none ∧ H' = upd H T (.tup [.int (i : Nat), x]) ∧ ∀ xs, SqT K H a xs → xs[i]? = some x, fun i H => ∃ xs : List V, SqT K H a xs ∧ xs.length ≤ i⟩
theorem turn_enT {P : Program} {w : World} {K : PySem.W.Frag} {elts : List PySem.Expr} {kk : Nat} {tpos : Pos} (a e it : Addr) (ae : a ≠ e) (ai : a ≠ it) :
    Turn P w K (.Tuple elts kk tpos) (Iet K a) [e, it] e (fun i h => (∃ old, IsEnum h e it ((i : Nat) : Int) old) ∧ h.IsTupleIter it a i ∧ e ≠ it) where
  mem := List.mem_cons_self ..
  obj := fun i h st b hb => by
    obtain ⟨⟨old, he⟩, ⟨o, ho, hc, hd⟩, _⟩ := st
    rcases List.mem_cons.mp hb with z | z
    · rw [z]; exact ⟨_, he, fun v q => nomatch q⟩
    · rw [List.mem_singleton.mp z]; exact ⟨o, ho, fun v q => by rw [hd] at q; cases q⟩
  keep := fun i h h' st k => by
    obtain ⟨⟨old, he⟩, hi, hne⟩ := st
    exact ⟨⟨old, k e (List.mem_cons_self ..) _ he⟩, hi.at fun o q => k it (List.mem_cons_of_mem _ (List.mem_singleton.mpr rfl)) o q, hne⟩
  item := by
    intro X hP hw hK hc i pins s σ H E I hf st hg
    subst hP hw hK
    obtain ⟨⟨old, he⟩, hit, hne⟩ := st
    obtain ⟨xs, x, hq, hx⟩ := hg
    obtain ⟨its, rv, p, hz⟩ := I.tuple hq
    obtain ⟨u, hu, ru⟩ := rv.get hx
    have il : i < its.toArray.size := by
      have := (List.getElem?_eq_some_iff.mp hu).1
      rw [List.size_toArray]; exact this
    have hel : e < s.heap.objs.size := Heap.lt_size he
    have hil : it < s.heap.objs.size := by obtain ⟨_, q, _⟩ := hit; exact Heap.lt_size q
    have D := Draws.tuple (prog := X.prog) (w := X.w) (A := X.A.in1) (show X.A.in1.handled = none from I.ok.hd hc) it a ai its.toArray
    refine wpAny_pyNext_enum_itemD D he ⟨hit, p⟩ il hne (fun m => by
      rcases List.mem_cons.mp m with m | m
      · exact hne m
      · exact ae (List.mem_singleton.mp m).symm) fun x' h' tk px ho hst' hT hsz hk => ?_
    have eu : x' = u := by
      have y : its.toArray[i]? = some u := by rw [List.getElem?_toArray]; exact hu
      rw [px] at y
      exact Option.some.inj y
    subst eu
    refine ⟨_, rfl, wpAny_letOwnedTupleGo_enum (s := { s with heap := h', toks := tk + 1 }) ho fun h'' he' sb => ?_⟩
    have hT2 : h''.get? s.heap.objs.size = some { cls := .type "tuple", data := .seq #[.int i tk, x'] } := (sb.2 _ (Nat.ne_of_gt hel)).trans hT
    have new : ObjOk X.prog X.w (upd H s.heap.objs.size (.tup [.int (i : Nat), x])) h'' s.heap.objs.size (.tup [.int (i : Nat), x]) :=
      ⟨two_le, [.int i tk, x'], .cons ⟨_, rfl⟩ (.cons ru .nil), ⟨_, hT2, rfl, _, rfl⟩⟩
    have J : Inv X pins σ (upd H s.heap.objs.size (.tup [.int (i : Nat), x])) { s with heap := h'', toks := tk + 1 } :=
      I.turnedNew (ch := [e, it]) (fun b ob hb q => (sb.2 b (fun z => hb (z ▸ List.mem_cons_self ..))).trans (hk b ob (fun z => hb (z ▸ List.mem_cons_self ..)) (fun z => hb (z ▸ List.mem_cons_of_mem _ (List.mem_singleton.mpr rfl))) q)) hf (Nat.le_refl _) new
    refine ⟨.ref s.heap.objs.size, _, J, rfl, ⟨_, x, rfl, I.hok.fresh (Nat.le_refl _), rfl, fun ys hy => by rw [I.tuple_inj hy hq]; exact hx⟩, ⟨⟨x', ?_⟩, hst'.1.at fun o q => (sb.2 it (Ne.symm hne)).trans q, hne⟩, fun b hb => ?_⟩
    · rw [show ((i + 1 : Nat) : Int) = (i : Int) + 1 by omega]; exact he'
    · have lb : b < s.heap.objs.size := by
        rcases List.mem_cons.mp hb with z | z
        · rw [z]; exact hel
        · rw [List.mem_singleton.mp z]; exact hil
      rw [upd_ne (Nat.ne_of_lt lb)]
      exact (hf b hb).1
  done := by
    intro X hP hw hK hc i pins s σ H E I hf st hg
    subst hP hw hK
    obtain ⟨⟨old, he⟩, hit, hne⟩ := st
    obtain ⟨xs, hq, hx⟩ := hg
    obtain ⟨its, rv, p, hz⟩ := I.tuple hq
    obtain ⟨f0, f1, f2, f3, f4, f5⟩ := hf it (List.mem_cons_of_mem _ (List.mem_singleton.mpr rfl))
    have hl := rv.length
    exact enT_end (I.ok.hd hc) he hit p (by rw [List.size_toArray]; omega) fun h' eb => ⟨rfl, I.turned (t' := s.toks) (fun b o hb q => eb b o hb q) f0 f1 f3 f4 f5⟩
  self := fun A i s Q E st h => by
    obtain ⟨⟨_, he⟩, _⟩ := st
    exact wpAny_pyIter_enum he h
def iEnT (K : PySem.W.Frag) (ta : TA) : TI := fun σ H R => ta σ H fun vs H1 => ∃ a xs, vs = [.ref a] ∧ SqT K H1 a xs ∧ R (Iet K a) H1
theorem pi_enT {X : Cx} {e : PySem.Expr} {ta : TA} {p pos tpos : Pos} {elts : List PySem.Expr} {kk : Nat} (hg : Gl X "enumerate") (hm : X.mg "enumerate" = none) (ha : PA X [e] ta) (hs : starEach [e] X.env = [(false, eval e X.env)] := by rfl) :
    L2.PI X (.Tuple elts kk tpos) (.Call (.Name "enumerate" p) [e] [] pos) (iEnT X.K ta) := by
  refine ⟨fun pins s σ H R I h => Call_ (ld_blt I hg hm boot_enumerate (PyProof.Rows.callWith_type1 (thn (ha.run pos pins s σ H _ I h) fun us s1 ⟨vs, H1, J, r1, q1⟩ => ?_) hs rfl))⟩
  obtain ⟨a, xs, ex, hq, q⟩ := q1
  subst ex
  cases r1 with
  | cons r rr =>
    cases rr
    cases r
    obtain ⟨its, rv, p', hz⟩ := J.tuple hq
    have la : a < s1.heap.objs.size := p'.lt
    refine enT_call p' fun h' he hit hsz hk => wpAny_pyIter_enum he ?_
    have J2 : Inv X pins σ H1 { s1 with heap := h' } := J.kept (t' := s1.toks) hk
    refine ⟨s1.heap.objs.size + 1, [s1.heap.objs.size + 1, s1.heap.objs.size], _, _, H1, rfl, J2, turn_enT a (s1.heap.objs.size + 1) s1.heap.objs.size (Nat.ne_of_lt (Nat.lt_succ_of_lt la)) (Nat.ne_of_lt la), ⟨⟨.none, he⟩, hit, Nat.succ_ne_self _⟩, fun b hb => ?_, q⟩
    have lb : s1.heap.objs.size ≤ b := by
      rcases List.mem_cons.mp hb with z | z
      · rw [z]; exact Nat.le_add_right _ _
      · rw [List.mem_singleton.mp z]; exact Nat.le_refl _
    exact J.fpOk lb (J.hok.fresh lb)
theorem walk_enT {K : PySem.W.Frag} {a : Addr} {xs : List V} : Walk (Iet K a) xs.length (fun H => SqT K H a xs) (YPair (fun i => some (.int (i : Nat))) (fun i => xs[i]?)) := by
  refine ⟨fun i _ hi q => ⟨xs, xs[i], q, List.getElem?_eq_getElem hi⟩, fun _ q => ⟨xs, q, Nat.le_refl _⟩, fun i H v H' _ q y => ?_⟩
  obtain ⟨T, x, h1, h2, h3, h4⟩ := y
  exact ⟨T, .int (i : Nat), x, h1, h2, h3, rfl, h4 xs q⟩
/-- sorted(d) of a dict whose keys are ints -/
@[irreducible] def rSortDI : List V → Hp → VK → Prop := fun xs H Q => ∃ (a : Addr) (kvs : List (Key × V)) (ks : List Int), xs = [.ref a] ∧ Rd H a (.dK kvs) ∧ kvs.map (·.1) = ks.map Sum.inl ∧
  ∀ (ys : List Int) (p : Addr), ys.Perm ks → ys.Pairwise (· ≤ ·) → H p = none → Q (.ref p) (upd H p (.lst (ys.map V.int)))
theorem ints_at : ∀ {vs : List Value} {ns : List Int}, vs.length = ns.length → (∀ (j : Nat) (v : Value), vs[j]? = some v → ∃ i t, ns[j]? = some i ∧ v = Value.int i t) → IntsAre vs ns
  | [], [], _, _ => .nil
  | v :: vs, n :: ns, l, h => by
    obtain ⟨i, t, e, rfl⟩ := h 0 v rfl
    cases (show some n = some i from e)
    exact .cons n t (ints_at (by simpa using l) fun j u z => h (j + 1) u z)
  | [], _ :: _, l, _ => by simp at l
  | _ :: _, [], l, _ => by simp at l
theorem call_sortDI {X : Cx} (hc : X.calm = true) : CallR X (.builtin "sorted") rSortDI := by
  intro pins s σ H xs us Q I r q
  unfold rSortDI at q
  obtain ⟨a, kvs, ks, rfl, hd, hks, q⟩ := q
  rw [Vals.ref1 r]
  obtain ⟨z, lo, vs, rel, dd⟩ := dk_rd I.hok hd
  obtain ⟨ep, hat⟩ := dd.dictAt
  have hkeys : vs.map (·.1) = ks.map Sum.inl := rel.keys.symm.trans hks
  have hl : vs.length = ks.length := by
    have e := congrArg List.length hkeys
    rw [List.length_map, List.length_map] at e; exact e
  have hz : vs.length ≤ sizeLine := by rw [← rel.length]; exact z
  refine Calls.call_function_entry PyProof.Rows.kind_sorted PyProof.Rows.plain_sorted PyProof.Rows.entry_sorted (PyProof.Rows.args_sorted1 _) ?_
  unfold Builtin.«sorted»
  refine wpAny_bind (m := checkCount "sorted" 1 1 _) (wpAny_pure (wpAny_bind (PySem.W.kdu_collect (A := X.A.in1) (PySem.W.kdl_dict (knd := mixKind X.prog X.w) (kvs := vs) (ep := ep) lo) (I.ok.hd hc) hat hz fun h' tk acc hk hacc => ?_)))
  have hal : acc.toList.length = ks.length := by rw [Array.length_toList, hacc.1, hl]
  have hS : IntsAre acc.toList ks := ints_at hal fun j v e => by
    obtain ⟨k, x, e1, e2⟩ := hacc.2 j v (by rw [← Array.getElem?_toList]; exact e)
    have e3 : (vs.map (·.1))[j]? = some k := by rw [List.getElem?_map, e1]; rfl
    rw [hkeys, List.getElem?_map] at e3
    cases e4 : ks[j]? with
    | none => rw [e4] at e3; cases e3
    | some y =>
      rw [e4] at e3
      have e5 : Sum.inl y = k := Option.some.inj e3
      subst e5
      rcases keyIs_shape (show keyIs (Sum.inl y) v = true from e2) with ⟨i, t, ek, ev⟩ | ⟨w', t, ek, ev⟩
      · cases ek; exact ⟨y, t, rfl, ev⟩
      · cases ek
  have J : Inv X pins σ H { s with heap := h', toks := tk } := I.kept hk
  refine wpAny_bind (wpAny_newList ?_ (by rw [hal, ← hl]; exact hz))
  have hoL : (h'.push (seqObj "list" acc.toList.toArray 0)).get? h'.objs.size = some (seqObj "list" acc.toList.toArray 0) := Heap.get?_push_size _ rfl
  show wpAny _ _ _ _ _ { s with heap := h'.push (seqObj "list" acc.toList.toArray 0), toks := tk }
  refine wpAny_bind (wpAny_holding (wpAny_call_entry PyProof.Rows.slot_list_sort ⟨_, hoL, rfl⟩ PyProof.Rows.entry_list_sort
    (SrtO.list_sort_ord (s := { s with heap := h'.push (seqObj "list" acc.toList.toArray 0), toks := tk }) SrtO.swo_int hoL (by rw [hal, ← hl]; exact hz) (fun h2 => SrtO.ints_sortable hS h2) fun out k1 k2 => ⟨_, rfl, ?_⟩) (PyProof.Rows.args_list_sort _)))
  obtain ⟨g1, g2, g3⟩ := SrtO.ints_out hS k1 k2
  obtain ⟨e', he'⟩ := PyProof.Rows.sortedHeap_at (vs := acc.toList) (out := out.toArray) hoL
  have hlen : ((out.map SrtO.iv).map V.int).length ≤ sizeLine := by rw [List.length_map, g2.length_eq, ← hl]; exact hz
  refine wpAny_pure ⟨_, rfl, .ref h'.objs.size, upd H h'.objs.size (.lst ((out.map SrtO.iv).map V.int)), J.laid (t' := tk) (fun b u e => ?_) (Nat.le_refl _)
    (show ObjOk X.prog X.w _ _ _ (.lst ((out.map SrtO.iv).map V.int)) from ⟨hlen, out, e', vals_of_ints g1, he'⟩), rfl, q _ _ g2 g3 (J.hok.fresh (Nat.le_refl _))⟩
  have hb : b < h'.objs.size := Heap.lt_size e
  rw [PyProof.Rows.sortedHeap_old (Nat.ne_of_lt hb) (by rw [Heap.size_push]; exact Nat.lt_succ_of_lt hb)]
  exact Heap.get?_push_of_some _ e
end
def top (i : Nat) : Stmt := PySem.Challenge.pw_endnever_k78_whole_long_strides.main.body.getD i (.Pass ⟨0, 0, 0, 0⟩)
abbrev s_L_at : Stmt := top 20
abbrev N_L_at : List Str := ["_law_script", "_law_k"]
theorem sc_L_at : FnScope ["_law_script", "_law_k"] ["_law_script", "_law_k"] (defScope s_L_at) := ⟨rfl, rfl, rfl, by decide +kernel, rfl, by decide +kernel, by decide +kernel⟩
abbrev s_L_purse : Stmt := top 22
abbrev N_L_purse : List Str := ["_law_script", "_law_at_here", "_law_cell"]
theorem sc_L_purse : FnScope ["_law_script", "_law_at_here", "_law_cell"] ["_law_script", "_law_at_here"] (defScope s_L_purse) := ⟨rfl, rfl, rfl, by decide +kernel, rfl, by decide +kernel, by decide +kernel⟩
abbrev s_L_mixed : Stmt := top 21
abbrev N_L_mixed : List Str := ["_law_cell", "_law_k", "_law_number"]
theorem sc_L_mixed : FnScope ["_law_cell", "_law_k", "_law_number"] ["_law_cell", "_law_k"] (defScope s_L_mixed) := ⟨rfl, rfl, rfl, by decide +kernel, rfl, by decide +kernel, by decide +kernel⟩
abbrev s_L_draw : Stmt := top 23
abbrev N_L_draw : List Str := ["_law_purse_here", "_law_out_of", "_law_drawn", "_law_number"]
theorem sc_L_draw : FnScope ["_law_purse_here", "_law_out_of", "_law_drawn", "_law_number"] ["_law_purse_here", "_law_out_of"] (defScope s_L_draw) := ⟨rfl, rfl, rfl, by decide +kernel, rfl, by decide +kernel, by decide +kernel⟩
abbrev s_L_entry : Stmt := top 24
abbrev N_L_entry : List Str := ["_law_purse_here", "_law_rows", "_law_signs", "_law_row", "_law_few", "_law_put", "_law_way", "_law_to"]
theorem sc_L_entry : FnScope ["_law_purse_here", "_law_rows", "_law_signs", "_law_row", "_law_few", "_law_put", "_law_way", "_law_to"] ["_law_purse_here", "_law_rows", "_law_signs", "_law_row", "_law_few"] (defScope s_L_entry) := ⟨rfl, rfl, rfl, by decide +kernel, rfl, by decide +kernel, by decide +kernel⟩
abbrev s_L_machine : Stmt := top 25
abbrev N_L_machine : List Str := ["_law_purse_here", "_law_rows", "_law_signs", "_law_few", "_law_sign", "_law_row"]
theorem sc_L_machine : FnScope ["_law_purse_here", "_law_rows", "_law_signs", "_law_few", "_law_sign", "_law_row"] ["_law_purse_here"] (defScope s_L_machine) := ⟨rfl, rfl, rfl, by decide +kernel, rfl, by decide +kernel, by decide +kernel⟩
abbrev s_L_order : Stmt := top 32
abbrev N_L_order : List Str := ["_law_purse_here", "_law_many", "_law_found", "_law_k"]
theorem sc_L_order : FnScope ["_law_purse_here", "_law_many", "_law_found", "_law_k"] ["_law_purse_here", "_law_many"] (defScope s_L_order) := ⟨rfl, rfl, rfl, by decide +kernel, rfl, by decide +kernel, by decide +kernel⟩
abbrev s_L_named : Stmt := top 33
abbrev N_L_named : List Str := ["_law_machine_here", "_law_rows", "_law_signs", "_law_found", "_law_row", "_law_sign", "_law_entry_here"]
theorem sc_L_named : FnScope ["_law_machine_here", "_law_rows", "_law_signs", "_law_found", "_law_row", "_law_sign", "_law_entry_here"] ["_law_machine_here", "_law_rows", "_law_signs"] (defScope s_L_named) := ⟨rfl, rfl, rfl, by decide +kernel, rfl, by decide +kernel, by decide +kernel⟩
abbrev s_L_turned : Stmt := top 27
abbrev N_L_turned : List Str := ["_law_entry_here"]
theorem sc_L_turned : FnScope ["_law_entry_here"] ["_law_entry_here"] (defScope s_L_turned) := ⟨rfl, rfl, rfl, by decide +kernel, rfl, by decide +kernel, by decide +kernel⟩
abbrev s_L_mirrored : Stmt := top 28
abbrev N_L_mirrored : List Str := ["_law_machine_here", "_law_entry_here", "_law_row"]
theorem sc_L_mirrored : FnScope ["_law_machine_here", "_law_entry_here", "_law_row"] ["_law_machine_here"] (defScope s_L_mirrored) := ⟨rfl, rfl, rfl, by decide +kernel, rfl, by decide +kernel, by decide +kernel⟩
abbrev s_is_entry : Stmt := top 6
abbrev N_is_entry : List Str := ["entry", "rows", "signs"]
theorem sc_is_entry : FnScope ["entry", "rows", "signs"] ["entry", "rows", "signs"] (defScope s_is_entry) := ⟨rfl, rfl, rfl, by decide +kernel, rfl, by decide +kernel, by decide +kernel⟩
abbrev s_is_machine : Stmt := top 7
abbrev N_is_machine : List Str := ["machine", "rows", "signs", "row", "entry"]
theorem sc_is_machine : FnScope ["machine", "rows", "signs", "row", "entry"] ["machine"] (defScope s_is_machine) := ⟨rfl, rfl, rfl, by decide +kernel, rfl, by decide +kernel, by decide +kernel⟩
abbrev s_must_machine : Stmt := top 8
abbrev N_must_machine : List Str := ["machine"]
theorem sc_must_machine : FnScope ["machine"] ["machine"] (defScope s_must_machine) := ⟨rfl, rfl, rfl, by decide +kernel, rfl, by decide +kernel, by decide +kernel⟩
abbrev s_Walk_init : Stmt := inClass (top 17) 0
abbrev N_Walk_init : List Str := ["self", "long"]
theorem sc_Walk_init : FnScope ["self", "long"] ["self", "long"] (defScope s_Walk_init) := ⟨rfl, rfl, rfl, by decide +kernel, rfl, by decide +kernel, by decide +kernel⟩
abbrev s_most_setups : Stmt := top 15
abbrev N_most_setups : List Str := ["machine", "block", "found", "sign"]
theorem sc_most_setups : FnScope ["machine", "block", "found", "sign"] ["machine", "block"] (defScope s_most_setups) := ⟨rfl, rfl, rfl, by decide +kernel, rfl, by decide +kernel, by decide +kernel⟩
abbrev s_through : Stmt := top 16
abbrev N_through : List Str := ["machine", "block", "row", "side", "signs", "place", "steps", "entry"]
theorem sc_through : FnScope ["machine", "block", "row", "side", "signs", "place", "steps", "entry"] ["machine", "block", "row", "side"] (defScope s_through) := ⟨rfl, rfl, rfl, by decide +kernel, rfl, by decide +kernel, by decide +kernel⟩
abbrev s_Walk_out : Stmt := inClass (top 17) 3
abbrev N_Walk_out : List Str := ["self", "found", "word", "signs", "row", "way", "steps"]
theorem sc_Walk_out : FnScope ["self", "found", "word", "signs", "row", "way", "steps"] ["self", "found"] (defScope s_Walk_out) := ⟨rfl, rfl, rfl, by decide +kernel, rfl, by decide +kernel, by decide +kernel⟩
abbrev s_Walk_place : Stmt := inClass (top 17) 2
abbrev N_Walk_place : List Str := ["self"]
theorem sc_Walk_place : FnScope ["self"] ["self"] (defScope s_Walk_place) := ⟨rfl, rfl, rfl, by decide +kernel, rfl, by decide +kernel, by decide +kernel⟩
abbrev s_Walk_strip : Stmt := inClass (top 17) 4
abbrev N_Walk_strip : List Str := ["self", "found", "at", "k", "sign"]
theorem sc_Walk_strip : FnScope ["self", "found", "at", "k", "sign"] ["self"] (defScope s_Walk_strip) := ⟨rfl, rfl, rfl, by decide +kernel, rfl, by decide +kernel, by decide +kernel⟩
abbrev s_Walk_block : Stmt := inClass (top 17) 1
abbrev N_Walk_block : List Str := ["self"]
theorem sc_Walk_block : FnScope ["self"] ["self"] (defScope s_Walk_block) := ⟨rfl, rfl, rfl, by decide +kernel, rfl, by decide +kernel, by decide +kernel⟩
abbrev s_by_blocks : Stmt := top 18
abbrev N_by_blocks : List Str := ["machine", "k", "many", "walk", "turn", "found", "word", "signs", "row", "place", "steps"]
theorem sc_by_blocks : FnScope ["machine", "k", "many", "walk", "turn", "found", "word", "signs", "row", "place", "steps"] ["machine", "k", "many"] (defScope s_by_blocks) := ⟨rfl, rfl, rfl, by decide +kernel, rfl, by decide +kernel, by decide +kernel⟩
abbrev s_L_side : Stmt := top 29
abbrev N_L_side : List Str := ["_law_purse_here", "_law_signs", "_law_near_first", "_law_found", "_law_last", "_law_k", "_law_sign", "_law_many"]
theorem sc_L_side : FnScope ["_law_purse_here", "_law_signs", "_law_near_first", "_law_found", "_law_last", "_law_k", "_law_sign", "_law_many"] ["_law_purse_here", "_law_signs", "_law_near_first"] (defScope s_L_side) := ⟨rfl, rfl, rfl, by decide +kernel, rfl, by decide +kernel, by decide +kernel⟩
abbrev s_L_runs : Stmt := top 30
abbrev N_L_runs : List Str := ["_law_purse_here", "_law_signs", "_law_left"]
theorem sc_L_runs : FnScope ["_law_purse_here", "_law_signs", "_law_left"] ["_law_purse_here", "_law_signs"] (defScope s_L_runs) := ⟨rfl, rfl, rfl, by decide +kernel, rfl, by decide +kernel, by decide +kernel⟩
abbrev s_Strip_init : Stmt := inClass (top 12) 0
abbrev N_Strip_init : List Str := ["self", "row", "runs", "left", "sign", "right"]
theorem sc_Strip_init : FnScope ["self", "row", "runs", "left", "sign", "right"] ["self", "row", "runs"] (defScope s_Strip_init) := ⟨rfl, rfl, rfl, by decide +kernel, rfl, by decide +kernel, by decide +kernel⟩
abbrev s_Strip_told : Stmt := inClass (top 12) 1
abbrev N_Strip_told : List Str := ["self"]
theorem sc_Strip_told : FnScope ["self"] ["self"] (defScope s_Strip_told) := ⟨rfl, rfl, rfl, by decide +kernel, rfl, by decide +kernel, by decide +kernel⟩
abbrev s_put_run : Stmt := top 10
abbrev N_put_run : List Str := ["runs", "sign", "many"]
theorem sc_put_run : FnScope ["runs", "sign", "many"] ["runs", "sign", "many"] (defScope s_put_run) := ⟨rfl, rfl, rfl, by decide +kernel, rfl, by decide +kernel, by decide +kernel⟩
abbrev s_taken : Stmt := top 11
abbrev N_taken : List Str := ["runs", "sign", "many"]
theorem sc_taken : FnScope ["runs", "sign", "many"] ["runs"] (defScope s_taken) := ⟨rfl, rfl, rfl, by decide +kernel, rfl, by decide +kernel, by decide +kernel⟩
abbrev s_Strip_stride : Stmt := inClass (top 12) 2
abbrev N_Strip_stride : List Str := ["self", "put", "way", "ahead", "many"]
theorem sc_Strip_stride : FnScope ["self", "put", "way", "ahead", "many"] ["self", "put", "way"] (defScope s_Strip_stride) := ⟨rfl, rfl, rfl, by decide +kernel, rfl, by decide +kernel, by decide +kernel⟩
abbrev s_Strip_step : Stmt := inClass (top 12) 3
abbrev N_Strip_step : List Str := ["self", "put", "way", "row"]
theorem sc_Strip_step : FnScope ["self", "put", "way", "row"] ["self", "put", "way", "row"] (defScope s_Strip_step) := ⟨rfl, rfl, rfl, by decide +kernel, rfl, by decide +kernel, by decide +kernel⟩
abbrev s_by_strides : Stmt := top 13
abbrev N_by_strides : List Str := ["machine", "row", "runs", "many", "strip", "turn", "entry", "put", "way", "goes"]
theorem sc_by_strides : FnScope ["machine", "row", "runs", "many", "strip", "turn", "entry", "put", "way", "goes"] ["machine", "row", "runs", "many"] (defScope s_by_strides) := ⟨rfl, rfl, rfl, by decide +kernel, rfl, by decide +kernel, by decide +kernel⟩
abbrev s_L_copied : Stmt := top 31
abbrev N_L_copied : List Str := ["_law_runs_here"]
theorem sc_L_copied : FnScope ["_law_runs_here"] ["_law_runs_here"] (defScope s_L_copied) := ⟨rfl, rfl, rfl, by decide +kernel, rfl, by decide +kernel, by decide +kernel⟩
abbrev s_L_runs_named : Stmt := top 34
abbrev N_L_runs_named : List Str := ["_law_runs_here", "_law_signs", "_law_turned_here", "_law_left", "_law_k", "_law_many", "_law_right"]
theorem sc_L_runs_named : FnScope ["_law_runs_here", "_law_signs", "_law_turned_here", "_law_left", "_law_k", "_law_many", "_law_right"] ["_law_runs_here", "_law_signs", "_law_turned_here"] (defScope s_L_runs_named) := ⟨rfl, rfl, rfl, by decide +kernel, rfl, by decide +kernel, by decide +kernel⟩
abbrev s_L_same_strides : Stmt := top 35
abbrev N_L_same_strides : List Str := ["_law_one", "_law_other", "_law_rows", "_law_signs", "_law_turned_here"]
theorem sc_L_same_strides : FnScope ["_law_one", "_law_other", "_law_rows", "_law_signs", "_law_turned_here"] ["_law_one", "_law_other", "_law_rows", "_law_signs", "_law_turned_here"] (defScope s_L_same_strides) := ⟨rfl, rfl, rfl, by decide +kernel, rfl, by decide +kernel, by decide +kernel⟩
abbrev s_law : Stmt := top 36
abbrev N_law : List Str := ["_law_script", "_law_cell", "_law_purse_here", "_law_machine_here", "_law_rows", "_law_signs", "_law_called", "_law_back", "_law_many", "_law_row", "_law_runs_here", "_law_one", "_law_other", "_law_k", "_law_word", "_law_steps", "_law_place", "_law_strip", "_law_spot", "_law_sign"]
theorem sc_law : FnScope ["_law_script", "_law_cell", "_law_purse_here", "_law_machine_here", "_law_rows", "_law_signs", "_law_called", "_law_back", "_law_many", "_law_row", "_law_runs_here", "_law_one", "_law_other", "_law_k", "_law_word", "_law_steps", "_law_place", "_law_strip", "_law_spot", "_law_sign"] ["_law_script"] (defScope s_law) := ⟨rfl, rfl, rfl, by decide +kernel, rfl, by decide +kernel, by decide +kernel⟩
/-- what the top has written: where each def stands, what the names hold -/
structure Tx (K : PySem.W.Frag) (mg : Str → Option Value) where
  a_L_at : Addr
  fd_L_at : FuncData
  F_L_at : Fun K "_law_at" "_law_at" s_L_at a_L_at fd_L_at
  b_L_at : Binds K fd_L_at ["_law_script", "_law_k"] []
  m_L_at : mg "_law_at" = some (.ref a_L_at)
  a_L_purse : Addr
  fd_L_purse : FuncData
  F_L_purse : Fun K "_law_purse" "_law_purse" s_L_purse a_L_purse fd_L_purse
  b_L_purse : Binds K fd_L_purse ["_law_script", "_law_at_here"] []
  m_L_purse : mg "_law_purse" = some (.ref a_L_purse)
  a_L_mixed : Addr
  fd_L_mixed : FuncData
  F_L_mixed : Fun K "_law_mixed" "_law_mixed" s_L_mixed a_L_mixed fd_L_mixed
  b_L_mixed : Binds K fd_L_mixed ["_law_cell", "_law_k"] []
  m_L_mixed : mg "_law_mixed" = some (.ref a_L_mixed)
  a_L_draw : Addr
  fd_L_draw : FuncData
  F_L_draw : Fun K "_law_draw" "_law_draw" s_L_draw a_L_draw fd_L_draw
  b_L_draw : Binds K fd_L_draw ["_law_purse_here", "_law_out_of"] []
  m_L_draw : mg "_law_draw" = some (.ref a_L_draw)
  a_L_entry : Addr
  fd_L_entry : FuncData
  F_L_entry : Fun K "_law_entry" "_law_entry" s_L_entry a_L_entry fd_L_entry
  b_L_entry : Binds K fd_L_entry ["_law_purse_here", "_law_rows", "_law_signs", "_law_row", "_law_few"] []
  m_L_entry : mg "_law_entry" = some (.ref a_L_entry)
  a_L_machine : Addr
  fd_L_machine : FuncData
  F_L_machine : Fun K "_law_machine" "_law_machine" s_L_machine a_L_machine fd_L_machine
  b_L_machine : Binds K fd_L_machine ["_law_purse_here"] []
  m_L_machine : mg "_law_machine" = some (.ref a_L_machine)
  a_L_order : Addr
  fd_L_order : FuncData
  F_L_order : Fun K "_law_order" "_law_order" s_L_order a_L_order fd_L_order
  b_L_order : Binds K fd_L_order ["_law_purse_here", "_law_many"] []
  m_L_order : mg "_law_order" = some (.ref a_L_order)
  a_L_named : Addr
  fd_L_named : FuncData
  F_L_named : Fun K "_law_named" "_law_named" s_L_named a_L_named fd_L_named
  b_L_named : Binds K fd_L_named ["_law_machine_here", "_law_rows", "_law_signs"] []
  m_L_named : mg "_law_named" = some (.ref a_L_named)
  a_L_turned : Addr
  fd_L_turned : FuncData
  F_L_turned : Fun K "_law_turned" "_law_turned" s_L_turned a_L_turned fd_L_turned
  b_L_turned : Binds K fd_L_turned ["_law_entry_here"] []
  m_L_turned : mg "_law_turned" = some (.ref a_L_turned)
  a_L_mirrored : Addr
  fd_L_mirrored : FuncData
  F_L_mirrored : Fun K "_law_mirrored" "_law_mirrored" s_L_mirrored a_L_mirrored fd_L_mirrored
  b_L_mirrored : Binds K fd_L_mirrored ["_law_machine_here"] []
  m_L_mirrored : mg "_law_mirrored" = some (.ref a_L_mirrored)
  a_is_entry : Addr
  fd_is_entry : FuncData
  F_is_entry : Fun K "is_entry" "is_entry" s_is_entry a_is_entry fd_is_entry
  b_is_entry : Binds K fd_is_entry ["entry", "rows", "signs"] []
  m_is_entry : mg "is_entry" = some (.ref a_is_entry)
  a_is_machine : Addr
  fd_is_machine : FuncData
  F_is_machine : Fun K "is_machine" "is_machine" s_is_machine a_is_machine fd_is_machine
  b_is_machine : Binds K fd_is_machine ["machine"] []
  m_is_machine : mg "is_machine" = some (.ref a_is_machine)
  a_must_machine : Addr
  fd_must_machine : FuncData
  F_must_machine : Fun K "must_machine" "must_machine" s_must_machine a_must_machine fd_must_machine
  b_must_machine : Binds K fd_must_machine ["machine"] []
  m_must_machine : mg "must_machine" = some (.ref a_must_machine)
  a_Walk_init : Addr
  fd_Walk_init : FuncData
  F_Walk_init : Fun K "__init__" "Walk.__init__" s_Walk_init a_Walk_init fd_Walk_init
  b_Walk_init : Binds K fd_Walk_init ["self", "long"] []
  a_most_setups : Addr
  fd_most_setups : FuncData
  F_most_setups : Fun K "most_setups" "most_setups" s_most_setups a_most_setups fd_most_setups
  b_most_setups : Binds K fd_most_setups ["machine", "block"] []
  m_most_setups : mg "most_setups" = some (.ref a_most_setups)
  a_through : Addr
  fd_through : FuncData
  F_through : Fun K "through" "through" s_through a_through fd_through
  b_through : Binds K fd_through ["machine", "block", "row", "side"] []
  m_through : mg "through" = some (.ref a_through)
  a_Walk_out : Addr
  fd_Walk_out : FuncData
  F_Walk_out : Fun K "out" "Walk.out" s_Walk_out a_Walk_out fd_Walk_out
  b_Walk_out : Binds K fd_Walk_out ["self", "found"] []
  a_Walk_place : Addr
  fd_Walk_place : FuncData
  F_Walk_place : Fun K "place" "Walk.place" s_Walk_place a_Walk_place fd_Walk_place
  b_Walk_place : Binds K fd_Walk_place ["self"] []
  a_Walk_strip : Addr
  fd_Walk_strip : FuncData
  F_Walk_strip : Fun K "strip" "Walk.strip" s_Walk_strip a_Walk_strip fd_Walk_strip
  b_Walk_strip : Binds K fd_Walk_strip ["self"] []
  a_Walk_block : Addr
  fd_Walk_block : FuncData
  F_Walk_block : Fun K "block" "Walk.block" s_Walk_block a_Walk_block fd_Walk_block
  b_Walk_block : Binds K fd_Walk_block ["self"] []
  a_by_blocks : Addr
  fd_by_blocks : FuncData
  F_by_blocks : Fun K "by_blocks" "by_blocks" s_by_blocks a_by_blocks fd_by_blocks
  b_by_blocks : Binds K fd_by_blocks ["machine", "k", "many"] []
  m_by_blocks : mg "by_blocks" = some (.ref a_by_blocks)
  a_L_side : Addr
  fd_L_side : FuncData
  F_L_side : Fun K "_law_side" "_law_side" s_L_side a_L_side fd_L_side
  b_L_side : Binds K fd_L_side ["_law_purse_here", "_law_signs", "_law_near_first"] []
  m_L_side : mg "_law_side" = some (.ref a_L_side)
  a_L_runs : Addr
  fd_L_runs : FuncData
  F_L_runs : Fun K "_law_runs" "_law_runs" s_L_runs a_L_runs fd_L_runs
  b_L_runs : Binds K fd_L_runs ["_law_purse_here", "_law_signs"] []
  m_L_runs : mg "_law_runs" = some (.ref a_L_runs)
  a_Strip_init : Addr
  fd_Strip_init : FuncData
  F_Strip_init : Fun K "__init__" "Strip.__init__" s_Strip_init a_Strip_init fd_Strip_init
  b_Strip_init : Binds K fd_Strip_init ["self", "row", "runs"] []
  a_Strip_told : Addr
  fd_Strip_told : FuncData
  F_Strip_told : Fun K "told" "Strip.told" s_Strip_told a_Strip_told fd_Strip_told
  b_Strip_told : Binds K fd_Strip_told ["self"] []
  a_put_run : Addr
  fd_put_run : FuncData
  F_put_run : Fun K "put_run" "put_run" s_put_run a_put_run fd_put_run
  b_put_run : Binds K fd_put_run ["runs", "sign", "many"] []
  m_put_run : mg "put_run" = some (.ref a_put_run)
  a_taken : Addr
  fd_taken : FuncData
  F_taken : Fun K "taken" "taken" s_taken a_taken fd_taken
  b_taken : Binds K fd_taken ["runs"] []
  m_taken : mg "taken" = some (.ref a_taken)
  a_Strip_stride : Addr
  fd_Strip_stride : FuncData
  F_Strip_stride : Fun K "stride" "Strip.stride" s_Strip_stride a_Strip_stride fd_Strip_stride
  b_Strip_stride : Binds K fd_Strip_stride ["self", "put", "way"] []
  a_Strip_step : Addr
  fd_Strip_step : FuncData
  F_Strip_step : Fun K "step" "Strip.step" s_Strip_step a_Strip_step fd_Strip_step
  b_Strip_step : Binds K fd_Strip_step ["self", "put", "way", "row"] []
  a_by_strides : Addr
  fd_by_strides : FuncData
  F_by_strides : Fun K "by_strides" "by_strides" s_by_strides a_by_strides fd_by_strides
  b_by_strides : Binds K fd_by_strides ["machine", "row", "runs", "many"] []
  m_by_strides : mg "by_strides" = some (.ref a_by_strides)
  a_L_copied : Addr
  fd_L_copied : FuncData
  F_L_copied : Fun K "_law_copied" "_law_copied" s_L_copied a_L_copied fd_L_copied
  b_L_copied : Binds K fd_L_copied ["_law_runs_here"] []
  m_L_copied : mg "_law_copied" = some (.ref a_L_copied)
  a_L_runs_named : Addr
  fd_L_runs_named : FuncData
  F_L_runs_named : Fun K "_law_runs_named" "_law_runs_named" s_L_runs_named a_L_runs_named fd_L_runs_named
  b_L_runs_named : Binds K fd_L_runs_named ["_law_runs_here", "_law_signs", "_law_turned_here"] []
  m_L_runs_named : mg "_law_runs_named" = some (.ref a_L_runs_named)
  a_L_same_strides : Addr
  fd_L_same_strides : FuncData
  F_L_same_strides : Fun K "_law_same_strides" "_law_same_strides" s_L_same_strides a_L_same_strides fd_L_same_strides
  b_L_same_strides : Binds K fd_L_same_strides ["_law_one", "_law_other", "_law_rows", "_law_signs", "_law_turned_here"] []
  m_L_same_strides : mg "_law_same_strides" = some (.ref a_L_same_strides)
  a_law : Addr
  fd_law : FuncData
  F_law : Fun K "law" "law" s_law a_law fd_law
  b_law : Binds K fd_law ["_law_script"] []
  m_law : mg "law" = some (.ref a_law)
  C_NoMachine : Addr
  m_NoMachine : mg "NoMachine" = some (.ref C_NoMachine)
  C_Walk : Addr
  m_Walk : mg "Walk" = some (.ref C_Walk)
  cl_Walk : Cls K C_Walk
  M_Walk : Mk K C_Walk a_Walk_init
  M_Walk_block : Meth K C_Walk "block" a_Walk_block
  M_Walk_place : Meth K C_Walk "place" a_Walk_place
  M_Walk_out : Meth K C_Walk "out" a_Walk_out
  M_Walk_strip : Meth K C_Walk "strip" a_Walk_strip
  nA_Walk_long : NoAttr K C_Walk "long"
  nA_Walk_blocks : NoAttr K C_Walk "blocks"
  nA_Walk_at : NoAttr K C_Walk "at"
  nA_Walk_row : NoAttr K C_Walk "row"
  nA_Walk_side : NoAttr K C_Walk "side"
  nA_Walk_steps : NoAttr K C_Walk "steps"
  C_Strip : Addr
  m_Strip : mg "Strip" = some (.ref C_Strip)
  cl_Strip : Cls K C_Strip
  M_Strip : Mk K C_Strip a_Strip_init
  M_Strip_told : Meth K C_Strip "told" a_Strip_told
  M_Strip_stride : Meth K C_Strip "stride" a_Strip_stride
  M_Strip_step : Meth K C_Strip "step" a_Strip_step
  nA_Strip_sides : NoAttr K C_Strip "sides"
  nA_Strip_sign : NoAttr K C_Strip "sign"
  nA_Strip_row : NoAttr K C_Strip "row"
  nA_Strip_steps : NoAttr K C_Strip "steps"
  tk_MOST_ROWS : Tok
  m_MOST_ROWS : mg "MOST_ROWS" = some (.int 4 tk_MOST_ROWS)
  tk_MOST_SIGNS : Tok
  m_MOST_SIGNS : mg "MOST_SIGNS" = some (.int 4 tk_MOST_SIGNS)
  n_len : mg "len" = none
  n_max : mg "max" = none
  n_int : mg "int" = none
  n_range : mg "range" = none
  n_all : mg "all" = none
  n_list : mg "list" = none
  n_tuple : mg "tuple" = none
  n_sorted : mg "sorted" = none
  n_enumerate : mg "enumerate" = none
/-! ### the fields of a Strip -/
theorem ne_Strip_sides_sign : ¬ (("sides" : Str) = "sign") := by decide +kernel
theorem ne_Strip_sides_row : ¬ (("sides" : Str) = "row") := by decide +kernel
theorem ne_Strip_sides_steps : ¬ (("sides" : Str) = "steps") := by decide +kernel
theorem ne_Strip_sign_sides : ¬ (("sign" : Str) = "sides") := by decide +kernel
theorem ne_Strip_sign_row : ¬ (("sign" : Str) = "row") := by decide +kernel
theorem ne_Strip_sign_steps : ¬ (("sign" : Str) = "steps") := by decide +kernel
theorem ne_Strip_row_sides : ¬ (("row" : Str) = "sides") := by decide +kernel
theorem ne_Strip_row_sign : ¬ (("row" : Str) = "sign") := by decide +kernel
theorem ne_Strip_row_steps : ¬ (("row" : Str) = "steps") := by decide +kernel
theorem ne_Strip_steps_sides : ¬ (("steps" : Str) = "sides") := by decide +kernel
theorem ne_Strip_steps_sign : ¬ (("steps" : Str) = "sign") := by decide +kernel
theorem ne_Strip_steps_row : ¬ (("steps" : Str) = "row") := by decide +kernel
def Strip_F (v0 v1 v2 v3 : V) : List (Str × V) := [("sides", v0), ("sign", v1), ("row", v2), ("steps", v3)]
theorem Strip_mk0 (v0 : V) : putF "sides" v0 ([] : List (Str × V)) = ([("sides", v0)] : List (Str × V)) := by
  simp only [putF]
theorem Strip_mk1 (v0 v1 : V) : putF "sign" v1 ([("sides", v0)] : List (Str × V)) = ([("sides", v0), ("sign", v1)] : List (Str × V)) := by
  simp only [putF, if_neg ne_Strip_sides_sign]
theorem Strip_mk2 (v0 v1 v2 : V) : putF "row" v2 ([("sides", v0), ("sign", v1)] : List (Str × V)) = ([("sides", v0), ("sign", v1), ("row", v2)] : List (Str × V)) := by
  simp only [putF, if_neg ne_Strip_sides_row, if_neg ne_Strip_sign_row]
theorem Strip_mk3 (v0 v1 v2 v3 : V) : putF "steps" v3 ([("sides", v0), ("sign", v1), ("row", v2)] : List (Str × V)) = ([("sides", v0), ("sign", v1), ("row", v2), ("steps", v3)] : List (Str × V)) := by
  simp only [putF, if_neg ne_Strip_sides_steps, if_neg ne_Strip_sign_steps, if_neg ne_Strip_row_steps]
theorem Strip_get_sides {v0 v1 v2 v3 : V} : (Strip_F v0 v1 v2 v3).lookup ("sides" : Str) = some v0 := by
  have e : Strip_F v0 v1 v2 v3 = putF "sides" v0 (Strip_F v0 v1 v2 v3) := by
    unfold Strip_F
    simp only [putF, if_true]
  rw [e, lookup_putF, if_pos rfl]
theorem Strip_put_sides {v0 v1 v2 v3 y : V} : putF "sides" y (Strip_F v0 v1 v2 v3) = Strip_F y v1 v2 v3 := by
  unfold Strip_F
  simp only [putF, if_true]
theorem Strip_get_sign {v0 v1 v2 v3 : V} : (Strip_F v0 v1 v2 v3).lookup ("sign" : Str) = some v1 := by
  have e : Strip_F v0 v1 v2 v3 = putF "sign" v1 (Strip_F v0 v1 v2 v3) := by
    unfold Strip_F
    simp only [putF, if_neg ne_Strip_sides_sign, if_true]
  rw [e, lookup_putF, if_pos rfl]
theorem Strip_put_sign {v0 v1 v2 v3 y : V} : putF "sign" y (Strip_F v0 v1 v2 v3) = Strip_F v0 y v2 v3 := by
  unfold Strip_F
  simp only [putF, if_neg ne_Strip_sides_sign, if_true]
theorem Strip_get_row {v0 v1 v2 v3 : V} : (Strip_F v0 v1 v2 v3).lookup ("row" : Str) = some v2 := by
  have e : Strip_F v0 v1 v2 v3 = putF "row" v2 (Strip_F v0 v1 v2 v3) := by
    unfold Strip_F
    simp only [putF, if_neg ne_Strip_sides_row, if_neg ne_Strip_sign_row, if_true]
  rw [e, lookup_putF, if_pos rfl]
theorem Strip_put_row {v0 v1 v2 v3 y : V} : putF "row" y (Strip_F v0 v1 v2 v3) = Strip_F v0 v1 y v3 := by
  unfold Strip_F
  simp only [putF, if_neg ne_Strip_sides_row, if_neg ne_Strip_sign_row, if_true]
theorem Strip_get_steps {v0 v1 v2 v3 : V} : (Strip_F v0 v1 v2 v3).lookup ("steps" : Str) = some v3 := by
  have e : Strip_F v0 v1 v2 v3 = putF "steps" v3 (Strip_F v0 v1 v2 v3) := by
    unfold Strip_F
    simp only [putF, if_neg ne_Strip_sides_steps, if_neg ne_Strip_sign_steps, if_neg ne_Strip_row_steps, if_true]
  rw [e, lookup_putF, if_pos rfl]
theorem Strip_put_steps {v0 v1 v2 v3 y : V} : putF "steps" y (Strip_F v0 v1 v2 v3) = Strip_F v0 v1 v2 y := by
  unfold Strip_F
  simp only [putF, if_neg ne_Strip_sides_steps, if_neg ne_Strip_sign_steps, if_neg ne_Strip_row_steps, if_true]
theorem Strip_no {v0 v1 v2 v3 : V} {m : Str} (h0 : ¬ m = "sides") (h1 : ¬ m = "sign") (h2 : ¬ m = "row") (h3 : ¬ m = "steps") : (Strip_F v0 v1 v2 v3).lookup m = none := by
  have h : ∀ (f : Str) (v : V) (r : List (Str × V)), ¬ m = f → r.lookup m = none → ((f, v) :: r).lookup m = none := fun f v r n q => by
    rw [List.lookup_cons, beq_eq_false_iff_ne.mpr n]; exact q
  unfold Strip_F
  exact h _ _ _ h0 (h _ _ _ h1 (h _ _ _ h2 (h _ _ _ h3 rfl)))
theorem Strip_few {v0 v1 v2 v3 : V} : (Strip_F v0 v1 v2 v3).length < 1000 := by show 4 < 1000; decide
/-! ### the fields of a Walk -/
theorem ne_Walk_long_blocks : ¬ (("long" : Str) = "blocks") := by decide +kernel
theorem ne_Walk_long_at : ¬ (("long" : Str) = "at") := by decide +kernel
theorem ne_Walk_long_row : ¬ (("long" : Str) = "row") := by decide +kernel
theorem ne_Walk_long_side : ¬ (("long" : Str) = "side") := by decide +kernel
theorem ne_Walk_long_steps : ¬ (("long" : Str) = "steps") := by decide +kernel
theorem ne_Walk_blocks_long : ¬ (("blocks" : Str) = "long") := by decide +kernel
theorem ne_Walk_blocks_at : ¬ (("blocks" : Str) = "at") := by decide +kernel
theorem ne_Walk_blocks_row : ¬ (("blocks" : Str) = "row") := by decide +kernel
theorem ne_Walk_blocks_side : ¬ (("blocks" : Str) = "side") := by decide +kernel
theorem ne_Walk_blocks_steps : ¬ (("blocks" : Str) = "steps") := by decide +kernel
theorem ne_Walk_at_long : ¬ (("at" : Str) = "long") := by decide +kernel
theorem ne_Walk_at_blocks : ¬ (("at" : Str) = "blocks") := by decide +kernel
theorem ne_Walk_at_row : ¬ (("at" : Str) = "row") := by decide +kernel
theorem ne_Walk_at_side : ¬ (("at" : Str) = "side") := by decide +kernel
theorem ne_Walk_at_steps : ¬ (("at" : Str) = "steps") := by decide +kernel
theorem ne_Walk_row_long : ¬ (("row" : Str) = "long") := by decide +kernel
theorem ne_Walk_row_blocks : ¬ (("row" : Str) = "blocks") := by decide +kernel
theorem ne_Walk_row_at : ¬ (("row" : Str) = "at") := by decide +kernel
theorem ne_Walk_row_side : ¬ (("row" : Str) = "side") := by decide +kernel
theorem ne_Walk_row_steps : ¬ (("row" : Str) = "steps") := by decide +kernel
theorem ne_Walk_side_long : ¬ (("side" : Str) = "long") := by decide +kernel
theorem ne_Walk_side_blocks : ¬ (("side" : Str) = "blocks") := by decide +kernel
theorem ne_Walk_side_at : ¬ (("side" : Str) = "at") := by decide +kernel
theorem ne_Walk_side_row : ¬ (("side" : Str) = "row") := by decide +kernel
theorem ne_Walk_side_steps : ¬ (("side" : Str) = "steps") := by decide +kernel
theorem ne_Walk_steps_long : ¬ (("steps" : Str) = "long") := by decide +kernel
theorem ne_Walk_steps_blocks : ¬ (("steps" : Str) = "blocks") := by decide +kernel
theorem ne_Walk_steps_at : ¬ (("steps" : Str) = "at") := by decide +kernel
theorem ne_Walk_steps_row : ¬ (("steps" : Str) = "row") := by decide +kernel
theorem ne_Walk_steps_side : ¬ (("steps" : Str) = "side") := by decide +kernel
def Walk_F (v0 v1 v2 v3 v4 v5 : V) : List (Str × V) := [("long", v0), ("blocks", v1), ("at", v2), ("row", v3), ("side", v4), ("steps", v5)]
theorem Walk_mk0 (v0 : V) : putF "long" v0 ([] : List (Str × V)) = ([("long", v0)] : List (Str × V)) := by
  simp only [putF]
theorem Walk_mk1 (v0 v1 : V) : putF "blocks" v1 ([("long", v0)] : List (Str × V)) = ([("long", v0), ("blocks", v1)] : List (Str × V)) := by
  simp only [putF, if_neg ne_Walk_long_blocks]
theorem Walk_mk2 (v0 v1 v2 : V) : putF "at" v2 ([("long", v0), ("blocks", v1)] : List (Str × V)) = ([("long", v0), ("blocks", v1), ("at", v2)] : List (Str × V)) := by
  simp only [putF, if_neg ne_Walk_long_at, if_neg ne_Walk_blocks_at]
theorem Walk_mk3 (v0 v1 v2 v3 : V) : putF "row" v3 ([("long", v0), ("blocks", v1), ("at", v2)] : List (Str × V)) = ([("long", v0), ("blocks", v1), ("at", v2), ("row", v3)] : List (Str × V)) := by
  simp only [putF, if_neg ne_Walk_long_row, if_neg ne_Walk_blocks_row, if_neg ne_Walk_at_row]
theorem Walk_mk4 (v0 v1 v2 v3 v4 : V) : putF "side" v4 ([("long", v0), ("blocks", v1), ("at", v2), ("row", v3)] : List (Str × V)) = ([("long", v0), ("blocks", v1), ("at", v2), ("row", v3), ("side", v4)] : List (Str × V)) := by
  simp only [putF, if_neg ne_Walk_long_side, if_neg ne_Walk_blocks_side, if_neg ne_Walk_at_side, if_neg ne_Walk_row_side]
theorem Walk_mk5 (v0 v1 v2 v3 v4 v5 : V) : putF "steps" v5 ([("long", v0), ("blocks", v1), ("at", v2), ("row", v3), ("side", v4)] : List (Str × V)) = ([("long", v0), ("blocks", v1), ("at", v2), ("row", v3), ("side", v4), ("steps", v5)] : List (Str × V)) := by
  simp only [putF, if_neg ne_Walk_long_steps, if_neg ne_Walk_blocks_steps, if_neg ne_Walk_at_steps, if_neg ne_Walk_row_steps, if_neg ne_Walk_side_steps]
theorem Walk_get_long {v0 v1 v2 v3 v4 v5 : V} : (Walk_F v0 v1 v2 v3 v4 v5).lookup ("long" : Str) = some v0 := by
  have e : Walk_F v0 v1 v2 v3 v4 v5 = putF "long" v0 (Walk_F v0 v1 v2 v3 v4 v5) := by
    unfold Walk_F
    simp only [putF, if_true]
  rw [e, lookup_putF, if_pos rfl]
theorem Walk_put_long {v0 v1 v2 v3 v4 v5 y : V} : putF "long" y (Walk_F v0 v1 v2 v3 v4 v5) = Walk_F y v1 v2 v3 v4 v5 := by
  unfold Walk_F
  simp only [putF, if_true]
theorem Walk_get_blocks {v0 v1 v2 v3 v4 v5 : V} : (Walk_F v0 v1 v2 v3 v4 v5).lookup ("blocks" : Str) = some v1 := by
  have e : Walk_F v0 v1 v2 v3 v4 v5 = putF "blocks" v1 (Walk_F v0 v1 v2 v3 v4 v5) := by
    unfold Walk_F
    simp only [putF, if_neg ne_Walk_long_blocks, if_true]
  rw [e, lookup_putF, if_pos rfl]
theorem Walk_put_blocks {v0 v1 v2 v3 v4 v5 y : V} : putF "blocks" y (Walk_F v0 v1 v2 v3 v4 v5) = Walk_F v0 y v2 v3 v4 v5 := by
  unfold Walk_F
  simp only [putF, if_neg ne_Walk_long_blocks, if_true]
theorem Walk_get_at {v0 v1 v2 v3 v4 v5 : V} : (Walk_F v0 v1 v2 v3 v4 v5).lookup ("at" : Str) = some v2 := by
  have e : Walk_F v0 v1 v2 v3 v4 v5 = putF "at" v2 (Walk_F v0 v1 v2 v3 v4 v5) := by
    unfold Walk_F
    simp only [putF, if_neg ne_Walk_long_at, if_neg ne_Walk_blocks_at, if_true]
  rw [e, lookup_putF, if_pos rfl]
theorem Walk_put_at {v0 v1 v2 v3 v4 v5 y : V} : putF "at" y (Walk_F v0 v1 v2 v3 v4 v5) = Walk_F v0 v1 y v3 v4 v5 := by
  unfold Walk_F
  simp only [putF, if_neg ne_Walk_long_at, if_neg ne_Walk_blocks_at, if_true]
theorem Walk_get_row {v0 v1 v2 v3 v4 v5 : V} : (Walk_F v0 v1 v2 v3 v4 v5).lookup ("row" : Str) = some v3 := by
  have e : Walk_F v0 v1 v2 v3 v4 v5 = putF "row" v3 (Walk_F v0 v1 v2 v3 v4 v5) := by
    unfold Walk_F
    simp only [putF, if_neg ne_Walk_long_row, if_neg ne_Walk_blocks_row, if_neg ne_Walk_at_row, if_true]
  rw [e, lookup_putF, if_pos rfl]
theorem Walk_put_row {v0 v1 v2 v3 v4 v5 y : V} : putF "row" y (Walk_F v0 v1 v2 v3 v4 v5) = Walk_F v0 v1 v2 y v4 v5 := by
  unfold Walk_F
  simp only [putF, if_neg ne_Walk_long_row, if_neg ne_Walk_blocks_row, if_neg ne_Walk_at_row, if_true]
theorem Walk_get_side {v0 v1 v2 v3 v4 v5 : V} : (Walk_F v0 v1 v2 v3 v4 v5).lookup ("side" : Str) = some v4 := by
  have e : Walk_F v0 v1 v2 v3 v4 v5 = putF "side" v4 (Walk_F v0 v1 v2 v3 v4 v5) := by
    unfold Walk_F
    simp only [putF, if_neg ne_Walk_long_side, if_neg ne_Walk_blocks_side, if_neg ne_Walk_at_side, if_neg ne_Walk_row_side, if_true]
  rw [e, lookup_putF, if_pos rfl]
theorem Walk_put_side {v0 v1 v2 v3 v4 v5 y : V} : putF "side" y (Walk_F v0 v1 v2 v3 v4 v5) = Walk_F v0 v1 v2 v3 y v5 := by
  unfold Walk_F
  simp only [putF, if_neg ne_Walk_long_side, if_neg ne_Walk_blocks_side, if_neg ne_Walk_at_side, if_neg ne_Walk_row_side, if_true]
theorem Walk_get_steps {v0 v1 v2 v3 v4 v5 : V} : (Walk_F v0 v1 v2 v3 v4 v5).lookup ("steps" : Str) = some v5 := by
  have e : Walk_F v0 v1 v2 v3 v4 v5 = putF "steps" v5 (Walk_F v0 v1 v2 v3 v4 v5) := by
    unfold Walk_F
    simp only [putF, if_neg ne_Walk_long_steps, if_neg ne_Walk_blocks_steps, if_neg ne_Walk_at_steps, if_neg ne_Walk_row_steps, if_neg ne_Walk_side_steps, if_true]
  rw [e, lookup_putF, if_pos rfl]
theorem Walk_put_steps {v0 v1 v2 v3 v4 v5 y : V} : putF "steps" y (Walk_F v0 v1 v2 v3 v4 v5) = Walk_F v0 v1 v2 v3 v4 y := by
  unfold Walk_F
  simp only [putF, if_neg ne_Walk_long_steps, if_neg ne_Walk_blocks_steps, if_neg ne_Walk_at_steps, if_neg ne_Walk_row_steps, if_neg ne_Walk_side_steps, if_true]
theorem Walk_no {v0 v1 v2 v3 v4 v5 : V} {m : Str} (h0 : ¬ m = "long") (h1 : ¬ m = "blocks") (h2 : ¬ m = "at") (h3 : ¬ m = "row") (h4 : ¬ m = "side") (h5 : ¬ m = "steps") : (Walk_F v0 v1 v2 v3 v4 v5).lookup m = none := by
  have h : ∀ (f : Str) (v : V) (r : List (Str × V)), ¬ m = f → r.lookup m = none → ((f, v) :: r).lookup m = none := fun f v r n q => by
    rw [List.lookup_cons, beq_eq_false_iff_ne.mpr n]; exact q
  unfold Walk_F
  exact h _ _ _ h0 (h _ _ _ h1 (h _ _ _ h2 (h _ _ _ h3 (h _ _ _ h4 (h _ _ _ h5 rfl)))))
theorem Walk_few {v0 v1 v2 v3 v4 v5 : V} : (Walk_F v0 v1 v2 v3 v4 v5).length < 1000 := by show 6 < 1000; decide
section
variable {P : Program} {w : World} {K : PySem.W.Frag} {mg : Str → Option Value} {base : Heap}
/-! ### small things -/
theorem ln {H : Hp} {p q : Addr} {o u : HO} (n : H q = none) (h : H p = some o) : upd H q u p = some o := (upd_ne (ne_of_none h n)).trans h
theorem kt_int_int {K : PySem.W.Frag} : PySem.W.kitOne K (.type "int") (.type "int") = some true := kit_ty (by decide +kernel)
theorem kt_int_bool {K : PySem.W.Frag} : PySem.W.kitOne K (.type "int") (.type "bool") = some false := kit_ty (by decide +kernel)
theorem kt_tup {K : PySem.W.Frag} : PySem.W.kitOne K (.type "tuple") (.type "tuple") = some true := kit_ty (by decide +kernel)
theorem kt_list {K : PySem.W.Frag} : PySem.W.kitOne K (.type "list") (.type "list") = some true := kit_ty (by decide +kernel)
theorem gr_purse {H H1 : Hp} (s : Same H H1) : Gr mu0 H H H H1 := ⟨fun _ _ h => h, s, fun _ _ h => .inl h, fun c o h _ => s c o h, fun c h => s.free h⟩
theorem at_end {xs : List V} {k : Nat} {v : V} (l : xs.length = k + 1) (h : xs[k]? = some v) : atI xs (-1) = some v := by
  have e : ixN xs.length (-1) = some k := by
    unfold ixN
    rw [if_neg (by decide), if_pos (by omega)]
    congr 1
    omega
  unfold atI
  rw [e]
  exact h
theorem cut_all {xs : List V} {j : Nat} (h : xs.length ≤ j) : cutV xs none (some (j : Int)) = xs := by
  unfold cutV
  have e1 : HT.sIx xs.length 0 none = 0 := rfl
  have e2 : HT.sIx xs.length xs.length (some (j : Int)) = xs.length := by
    simp only [HT.sIx]
    rw [if_neg (by omega), Int.toNat_natCast]
    omega
  rw [e1, e2, List.drop_zero, Nat.sub_zero, List.take_length]
theorem map_take_succ {α β : Type} {f : α → β} {xs : List α} {i : Nat} {x : α} (h : xs[i]? = some x) : (xs.take (i + 1)).map f = (xs.take i).map f ++ [f x] := by
  rw [List.take_add_one, h, List.map_append]; rfl
theorem cut_1 {xs : List V} : cutV xs (some 1) none = xs.drop 1 := by
  unfold cutV
  have e2 : HT.sIx xs.length xs.length none = xs.length := rfl
  rw [e2]
  cases xs with
  | nil => simp
  | cons x xs =>
    have e1 : HT.sIx (x :: xs).length 0 (some 1) = 1 := by
      simp only [HT.sIx, List.length_cons]
      rw [if_neg (by decide), show (1 : Int).toNat = 1 from rfl]
      omega
    rw [e1]
    show (xs.take (xs.length + 1 - 1)) = xs
    rw [Nat.add_sub_cancel, List.take_length]
theorem cut32 : ¬ (HT.sIx 3 0 none = 0 ∧ HT.sIx 3 3 (some 2) = 3) := by decide
theorem Gr.frzS {mu : Addr → Prop} {F H F1 H1 : Hp} (g : Gr mu F H F1 H1) (P : Addr → Prop) [DecidablePred P] (h : ∀ c, P c → H c = none ∧ F1 c = none) : Gr mu F H (fun c => if P c then H1 c else F1 c) H1 ∧ Same F1 (fun c => if P c then H1 c else F1 c) := by
  have s : Same F1 (fun c => if P c then H1 c else F1 c) := fun c o e => by
    by_cases p : P c
    · rw [(h c p).2] at e; cases e
    · simp only [p, if_false]; exact e
  refine ⟨⟨fun c o e => s c o (g.ff c o e), fun c o e => ?_, fun c o e => ?_, g.fr, g.th⟩, s⟩
  · by_cases p : P c
    · simp only [p, if_true] at e; exact e
    · simp only [p, if_false] at e; exact g.fh c o e
  · by_cases p : P c
    · exact .inr (h c p).1
    · simp only [p, if_false] at e; exact g.nw c o e
/-! ### purses of three numbers -/
def PurseC (a c k : Int) : HO := .lst [.int a, .int c, .int k]
def PuAt (H : Hp) (p : Addr) (b : Int) : Prop := ∃ a c k : Int, H p = some (PurseC a c k) ∧ 0 ≤ k ∧ k ≤ b
theorem PuAt.le {H : Hp} {p : Addr} {b b' : Int} (h : PuAt H p b) (l : b ≤ b') : PuAt H p b' := by
  obtain ⟨a, c, k, e, h0, h1⟩ := h
  exact ⟨a, c, k, e, h0, by omega⟩
theorem PuAt.gr {mu : Addr → Prop} {F H F' H' : Hp} {p : Addr} {b : Int} (h : PuAt H p b) (g : Gr mu F H F' H') (m : ¬ mu p) : PuAt H' p b := by
  obtain ⟨a, c, k, e, h0, h1⟩ := h
  exact ⟨a, c, k, g.fr _ _ e m, h0, h1⟩
theorem PuAt.ln {H : Hp} {p q : Addr} {o : HO} {b : Int} (h : PuAt H p b) (n : H q = none) : PuAt (upd H q o) p b := by
  obtain ⟨a, c, k, e, h0, h1⟩ := h
  exact ⟨a, c, k, by rw [upd_ne (ne_of_none e n)]; exact e, h0, h1⟩
theorem PuAt.off {H : Hp} {p q : Addr} {o : HO} {b : Int} (h : PuAt H p b) (n : p ≠ q) : PuAt (upd H q o) p b := by
  obtain ⟨a, c, k, e, h0, h1⟩ := h
  exact ⟨a, c, k, by rw [upd_ne n]; exact e, h0, h1⟩
theorem PuAt.ex {H : Hp} {p : Addr} {b : Int} (h : PuAt H p b) : ∃ o, H p = some o := by
  obtain ⟨a, c, k, e, _⟩ := h
  exact ⟨_, e⟩
theorem Gr.pf0 {mu : Addr → Prop} {F H F1 H1 : Hp} {p : Addr} {o : HO} (g : Gr mu F H F1 H1) (f : F p = none) (h : H p = some o) : F1 p = none := by
  cases e : F1 p with
  | none => rfl
  | some z =>
    rcases g.nw p z e with k | k
    · rw [f] at k; cases k
    · rw [h] at k; cases k
theorem PuAt.f {mu : Addr → Prop} {F H F1 H1 : Hp} {p : Addr} {b : Int} (h : PuAt H p b) (f : F p = none) (g : Gr mu F H F1 H1) : F1 p = none := by
  obtain ⟨o, e⟩ := h.ex
  exact g.pf0 f e
theorem PuAt.ne {H : Hp} {p q : Addr} {b : Int} (h : PuAt H p b) (n : H q = none) : p ≠ q := by
  obtain ⟨o, e⟩ := h.ex
  exact ne_of_none e n
def sp_L_at (K : PySem.W.Frag) : Sp := fun vs H Q _ => ∃ (l : Addr) (ns : List Int) (k : Nat), vs = [.ref l, .int k] ∧ SqL K H l (ns.map V.int) ∧ ∀ z : Int, Q (.int z) H
theorem ok_L_at (t : Tx K mg) : FnOk P w K mg base CX0 1 t.a_L_at t.fd_L_at ["_law_script", "_law_k"] (sp_L_at K) := by
  refine t.F_L_at.ok sc_L_at (fun vs H Q E h => ?_) (fun cdv A outer s H vs Q E hr h => ?_)
  · obtain ⟨l, ns, k, rfl, _⟩ := h
    rfl
  · obtain ⟨l, ns, k, rfl, hl, q⟩ := h
    refine ⟨_, (pss_cons (ps_if (pt_cmpR op_lt (pv 1) (pe_callB (id := "len") call_lenQ (by rfl) t.n_len (by decide +kernel) (pa_cons (pv 0) pa_nil)) (nomark _)) (pss_one (ps_ret (pe_ix ix_list (pv 0) (pv 1) (fun _ _ => rfl)))) pss_nil)
      (pss_one (ps_ret pe_int))), ?_⟩
    refine ⟨_, rfl, _, rfl, l, _, rfl, .inl hl, _, _, rfl, rfl, _, rfl, ?_⟩
    refine ite2 (fun c => ?_) (fun c => ?_)
    · have c := of_decide_eq_true c
      have c : k < ns.length := by
        rw [List.length_map] at c
        omega
      refine ⟨_, rfl, _, rfl, l, _, _, _, rfl, rfl, hl, atI_nat (j := k) (by rw [List.getElem?_map, List.getElem?_eq_getElem c]; rfl), ?_⟩
      exact q _
    · exact q 0
def sp_L_mixed : Sp := fun vs H Q _ => ∃ c k : Int, vs = [.int c, .int k] ∧ 0 ≤ k ∧ k < 1000000 ∧ ∀ n : Int, Q (.int n) H
theorem ok_L_mixed (t : Tx K mg) : FnOk P w K mg base CX0 1 t.a_L_mixed t.fd_L_mixed ["_law_cell", "_law_k"] sp_L_mixed := by
  refine t.F_L_mixed.ok sc_L_mixed (fun vs H Q E h => ?_) (fun cdv A outer s H vs Q E hr h => ?_)
  · obtain ⟨c, k, rfl, _⟩ := h
    rfl
  · obtain ⟨c, k, rfl, k0, k1, q⟩ := h
    refine ⟨_, (pss_cons (ps_set (i := 0) sc_L_mixed.nd rfl (by first | exact Or.inl rfl | exact Or.inr rfl) (pe_op op_mod (pv 0) pe_int))
      (pss_cons (ps_set (i := 2) sc_L_mixed.nd rfl (by first | exact Or.inl rfl | exact Or.inr rfl) (pe_op op_mod (pe_op op_add (pe_op op_add (pe_op op_mul (pv 0) pe_int) (pe_op op_mul (pe_op op_mul pe_int (pv 1)) (pv 1))) (pv 1)) pe_int))
      (pss_cons (ps_set (i := 2) sc_L_mixed.nd rfl (by first | exact Or.inl rfl | exact Or.inr rfl) (pe_op op_mod (pe_op op_mul (pv 2) (pv 2)) pe_int))
      (pss_one (ps_ret (pe_op op_mod (pe_op op_mul (pv 2) pe_int) pe_int)))))), ?_⟩
    refine ⟨_, rfl, _, _, rfl, rfl, (by show (0 : Int) < 4611685803679178881; decide), ?_⟩
    generalize c % 4611685803679178881 = r
    refine ⟨_, rfl, _, _, rfl, rfl, .inr ⟨by decide, by decide⟩, _, rfl, _, _, rfl, rfl, .inl ⟨by decide, by decide⟩, _, rfl, _, _, rfl, rfl, .inr ⟨by omega, by omega⟩, _, _, rfl, rfl, _, rfl, _, _, rfl, rfl, _, _, rfl, rfl, (by show (0 : Int) < 2147483647; decide), ?_⟩
    have g0 := Int.emod_nonneg (r * 1103515245 + 7919 * k * k + k) (show (2147483647 : Int) ≠ 0 by decide)
    have g1 := Int.emod_lt_of_pos (r * 1103515245 + 7919 * k * k + k) (show (0 : Int) < 2147483647 by decide)
    generalize (r * 1103515245 + 7919 * k * k + k) % 2147483647 = n at g0 g1
    refine ⟨_, rfl, _, rfl, _, _, rfl, rfl, .inl ⟨by omega, by omega⟩, _, _, rfl, rfl, (by show (0 : Int) < 2147483629; decide), ?_⟩
    refine ⟨_, rfl, _, _, rfl, rfl, .inr ⟨by decide, by decide⟩, _, _, rfl, rfl, (by show (0 : Int) < 2147483587; decide), ?_⟩
    exact q _
def sp_L_purse (K : PySem.W.Frag) : Sp := fun vs H Q _ => ∃ (l : Addr) (ns : List Int) (k : Nat), vs = [.ref l, .int k] ∧ SqL K H l (ns.map V.int) ∧ k ≤ 10 ∧
  ∀ (p : Addr) (H' : Hp), Same H H' → H p = none → PuAt H' p 10000 → Q (.ref p) H'
theorem ok_L_purse (t : Tx K mg) : FnOk P w K mg base CX0 2 t.a_L_purse t.fd_L_purse ["_law_script", "_law_at_here"] (sp_L_purse K) := by
  refine t.F_L_purse.ok sc_L_purse (fun vs H Q E h => ?_) (fun cdv A outer s H vs Q E hr h => ?_)
  · obtain ⟨l, ns, k, rfl, _⟩ := h
    rfl
  · obtain ⟨l, ns, k, rfl, hl, k1, q⟩ := h
    refine ⟨_, (pss_cons (ps_set (i := 2) sc_L_purse.nd rfl (by first | exact Or.inl rfl | exact Or.inr rfl) (pe_call (ok_L_at t) (hr.mono (by decide)) (by rfl) t.m_L_at t.F_L_at.kp t.b_L_at .nil pass0 (pa_cons (pv 0) (pa_cons (pv 1) pa_nil))))
      (pss_one (ps_ret (pe_lst (pa_cons (pe_callB (id := "max") (call_max2 rfl) (by rfl) t.n_max (by decide +kernel) (pa_cons (pe_op op_sub (pv 2) (pe_op op_pow pe_int pe_int)) (pa_cons pe_int pa_nil))) (pa_cons (pv 2) (pa_cons (pe_op op_mul pe_int (pv 1)) pa_nil))))))), ?_⟩
    refine ⟨_, rfl, _, rfl, l, ns, k, rfl, hl, fun z => ?_⟩
    refine ⟨_, rfl, _, _, rfl, rfl, ⟨by decide, by decide, by decide⟩, _, _, rfl, rfl, _, _, rfl, ?_⟩
    refine ⟨_, rfl, _, rfl, _, _, rfl, rfl, .inl ⟨by decide, by decide⟩, three_le, fun p np => ?_⟩
    exact q p _ (sm_up np) np ⟨_, _, _, upd_same, by omega, by omega⟩
def sp_L_draw : Sp := fun vs H Q _ => ∃ (F : Hp) (p : Addr) (n b : Int), vs = [.ref p, .int n] ∧ Same F H ∧ F p = none ∧ PuAt H p b ∧ b ≤ 900000 ∧ 0 < n ∧ n < 1267650600228229401496703205376 ∧
  ∀ (d : Int) (H' : Hp), 0 ≤ d → d < n → Gr (muP p) F H F H' → PuAt H' p (b + 2) → Q (.int d) H'
theorem ok_L_draw (t : Tx K mg) : FnOk P w K mg base CX0 2 t.a_L_draw t.fd_L_draw ["_law_purse_here", "_law_out_of"] sp_L_draw := by
  refine t.F_L_draw.ok sc_L_draw (fun vs H Q E h => ?_) (fun cdv A outer s H vs Q E hr h => ?_)
  · obtain ⟨F, p, n, b, rfl, _⟩ := h
    rfl
  · obtain ⟨F, p, n, b, rfl, sF, fp, ⟨a, cc, k, hp, k0, kb⟩, hb, n0, n1, q⟩ := h
    refine ⟨_, (pss_cons (ps_if (pt_cmpR op_gt (pe_ix ix_list (pv 0) pe_int (fun _ _ => rfl)) pe_int (nomark _)) (pss_cons (ps_set (i := 2) sc_L_draw.nd rfl (by first | exact Or.inl rfl | exact Or.inr rfl) (pe_op op_mod (pe_ix ix_list (pv 0) pe_int (fun _ _ => rfl)) (pv 1)))
      (pss_cons (ps_asg (pe_op op_fdivW (pe_ix ix_list (pv 0) pe_int (fun _ _ => rfl)) (pv 1)) (pg_sub (pv 0) pe_int set_list))
      (pss_one (ps_ret (pv 2))))) pss_nil)
      (pss_cons (ps_asg (pe_op op_add (pe_ix ix_list (pv 0) pe_int (fun _ _ => rfl)) pe_int) (pg_sub (pv 0) pe_int set_list))
      (pss_cons (ps_set (i := 3) sc_L_draw.nd rfl (by first | exact Or.inl rfl | exact Or.inr rfl) (pe_call (ok_L_mixed t) (hr.mono (by decide)) (by rfl) t.m_L_mixed t.F_L_mixed.kp t.b_L_mixed .nil pass0 (pa_cons (pe_ix ix_list (pv 0) pe_int (fun _ _ => rfl)) (pa_cons (pe_ix ix_list (pv 0) pe_int (fun _ _ => rfl)) pa_nil))))
      (pss_one (ps_ret (pe_op op_mod (pe_op op_fdiv (pe_op op_add (pe_op op_mul (pv 3) pe_int) (pe_call (ok_L_mixed t) (hr.mono (by decide)) (by rfl) t.m_L_mixed t.F_L_mixed.kp t.b_L_mixed .nil pass0 (pa_cons (pe_op op_add (pe_ix ix_list (pv 0) pe_int (fun _ _ => rfl)) (pv 3)) (pa_cons (pe_op op_add (pe_ix ix_list (pv 0) pe_int (fun _ _ => rfl)) pe_int) pa_nil)))) pe_int) (pv 1))))))), ?_⟩
    have gr : ∀ a c k : Int, Gr (muP p) F H F (upd H p (PurseC a c k)) := fun a c k => (Gr.refl sF).set fp (.inr rfl)
    refine ⟨_, rfl, p, _, _, _, rfl, rfl, SqL.of hp, atI_nat (j := 0) rfl, _, _, rfl, rfl, _, rfl, ?_⟩
    refine ite2 (fun c => ?_) (fun c => ?_)
    · refine ⟨_, rfl, p, _, _, _, rfl, rfl, SqL.of hp, atI_nat (j := 0) rfl, _, rfl, _, _, rfl, rfl, n0, ?_⟩
      refine ⟨_, rfl, p, _, _, _, rfl, rfl, SqL.of hp, atI_nat (j := 0) rfl, _, rfl, _, _, rfl, rfl, wide_div n0 (b := 100) (by have e : (2 : Nat) ^ 100 = 1267650600228229401496703205376 := rfl; rw [e]; omega) (by decide) (by decide), _, rfl, p, _, _, 0, rfl, rfl, hp, rfl, _, rfl, ?_⟩
      exact q _ _ (Int.emod_nonneg _ (by omega)) (Int.emod_lt_of_pos _ n0) (gr _ _ _) ⟨_, _, _, upd_same, k0, by omega⟩
    · refine ⟨_, rfl, p, _, _, _, rfl, rfl, SqL.of hp, atI_nat (j := 2) rfl, _, _, rfl, rfl, _, rfl, p, _, _, 2, rfl, rfl, hp, rfl, ?_⟩
      have h2 : (upd H p (.lst ([.int a, .int cc, .int k].set 2 (.int (k + 2))))) p = some (PurseC a cc (k + 2)) := upd_same
      refine ⟨_, rfl, p, _, _, _, rfl, rfl, SqL.of h2, atI_nat (j := 1) rfl, _, rfl, p, _, _, _, rfl, rfl, SqL.of h2, atI_nat (j := 2) rfl, _, _, rfl, by omega, by omega, fun m => ?_⟩
      refine ⟨_, rfl, _, _, rfl, rfl, .inr ⟨by decide, by decide⟩, ?_⟩
      refine ⟨_, rfl, p, _, _, _, rfl, rfl, SqL.of h2, atI_nat (j := 1) rfl, _, rfl, _, _, rfl, rfl, _, rfl, p, _, _, _, rfl, rfl, SqL.of h2, atI_nat (j := 2) rfl, _, _, rfl, rfl, _, _, rfl, by omega, by omega, fun m2 => ?_⟩
      refine ⟨_, _, rfl, rfl, _, _, rfl, rfl, ⟨by decide, by decide⟩, _, rfl, _, _, rfl, rfl, n0, ?_⟩
      exact q _ _ (Int.emod_nonneg _ (by omega)) (Int.emod_lt_of_pos _ n0) (gr _ _ _) ⟨_, _, _, upd_same, by omega, by omega⟩
/-! ### machines that are machines -/
structure EOk (R S : Nat) (e : Ent) : Prop where
  ok : ∀ p w r, e = .go p w r → (0 ≤ p ∧ p < S) ∧ (w = -1 ∨ w = 1) ∧ 0 ≤ r ∧ r < R
structure MOk (M : Mach) (R S : Nat) : Prop where
  r1 : 1 ≤ R
  r4 : R ≤ 4
  s2 : 2 ≤ S
  s4 : S ≤ 4
  len : M.length = R
  row : ∀ r ∈ M, r.length = S
  ent : ∀ r ∈ M, ∀ e ∈ r, EOk R S e
def sp_is_entry : Sp := fun vs H Q _ => ∃ (F : Hp) (v : V) (e : Ent) (R S : Nat), vs = [v, .int R, .int S] ∧ Same F H ∧ Is F v e ∧ EOk R S e ∧ ∀ H', Gr mu0 F H F H' → Q (.bl true) H'
theorem ok_is_entry (t : Tx K mg) : FnOk P w K mg base CX0 1 t.a_is_entry t.fd_is_entry ["entry", "rows", "signs"] sp_is_entry := by
  refine t.F_is_entry.ok sc_is_entry (fun vs H Q E h => ?_) (fun cdv A outer s H vs Q E hr h => ?_)
  · obtain ⟨F, v, e, R, S, rfl, _⟩ := h
    rfl
  · obtain ⟨F, v, e, R, S, rfl, sF, hv, he, q⟩ := h
    refine ⟨_, (pss_cons (ps_if (pt_cmpR (op_eqD hr.units) (pv 0) (pe_tup pa_nil) (nomark _)) (pss_one (ps_ret pe_bl)) pss_nil)
      (pss_one (ps_ret (pe_and (pe_cmpR op_eq (pe_callB (id := "len") call_lenQ (by rfl) t.n_len (by decide +kernel) (pa_cons (pv 0) pa_nil)) pe_int (nomark _)) (pe_and (pe_chain op_le op_lt pe_int (pe_ix ix_tup (pv 0) pe_int (fun _ _ => rfl)) (pv 2)) (pe_and (pe_cmpR op_in_seq (pe_ix ix_tup (pv 0) pe_int (fun _ _ => rfl)) (pe_lst (pa_cons (pe_un un_neg pe_int) (pa_cons pe_int pa_nil))) (by rfl)) (pe_one (pe_chain op_le op_lt pe_int (pe_ix ix_tup (pv 0) pe_int (fun _ _ => rfl)) (pv 1))))))))), ?_⟩
    have g0 : Gr mu0 F H F H := Gr.refl sF
    refine ⟨_, rfl, by show 0 ≤ sizeLine; decide, fun p np => ?_⟩
    have g1 : Gr mu0 F H F (upd H p (.tup [])) := g0.own np
    refine eq_dat (a := e) (b := Ent.emp) (hv.up g1.fh) ⟨p, rfl, upd_same⟩ ?_
    refine ⟨_, rfl, ?_⟩
    refine ite2 (fun c => ?_) (fun c => ?_)
    · exact q _ g1
    · cases e with
      | emp => exact absurd (decide_eq_true rfl) c
      | go pu wa ro =>
        obtain ⟨a, rfl, ha⟩ := hv
        obtain ⟨⟨o1, o2⟩, o3, o4, o5⟩ := he.ok _ _ _ rfl
        have h1 := g1.fh _ _ ha
        refine ⟨_, rfl, a, _, rfl, .inr (SqT.of h1), rfl, _, rfl, ifT rfl ?_⟩
        refine ⟨_, rfl, a, _, _, _, rfl, rfl, SqT.of h1, atI_nat (j := 0) rfl, _, _, rfl, rfl, _, rfl, ifT (decide_eq_true o1) ⟨_, rfl, _, _, rfl, rfl, _, rfl, ifT (decide_eq_true o2) ?_⟩⟩
        refine ⟨_, rfl, a, _, _, _, rfl, rfl, SqT.of h1, atI_nat (j := 1) rfl, _, rfl, two_le, fun l nl => ?_⟩
        have g2 := g1.own (o := .lst [.int (-1), .int 1]) nl
        have h2 := g2.fh _ _ ha
        refine ⟨l, _, rfl, .inl (SqL.of upd_same), rfl, rfl, _, rfl, ifT ?_ ?_⟩
        · rcases o3 with rfl | rfl <;> rfl
        · refine ⟨_, rfl, a, _, _, _, rfl, rfl, SqT.of h2, atI_nat (j := 2) rfl, _, _, rfl, rfl, _, rfl, ifT (decide_eq_true o4) ⟨_, rfl, _, _, rfl, rfl, ?_⟩⟩
          show Q (.bl (decide (ro < (R : Int)))) _
          rw [decide_eq_true o5]
          exact q _ g2
/-- all bools of a list of trues -/
theorem all_rep (n : Nat) : (List.replicate n true).all id = true := by simp
theorem map_rep (n : Nat) : (List.replicate n true).map V.bl = List.replicate n (V.bl true) := by simp
theorem rep_snoc (n : Nat) : List.replicate n (V.bl true) ++ [V.bl true] = List.replicate (n + 1) (V.bl true) := by
  rw [← List.replicate_succ']
def sp_is_machine : Sp := fun vs H Q _ => ∃ (F : Hp) (v : V) (M : Mach) (R S : Nat), vs = [v] ∧ Same F H ∧ Is F v M ∧ MOk M R S ∧ ∀ H', Gr mu0 F H F H' → Q (.bl true) H'
theorem ok_is_machine (t : Tx K mg) : FnOk P w K mg base CX0 2 t.a_is_machine t.fd_is_machine ["machine"] sp_is_machine := by
  refine t.F_is_machine.ok sc_is_machine (fun vs H Q E h => ?_) (fun cdv A outer s H vs Q E hr h => ?_)
  · obtain ⟨F, v, M, R, S, rfl, _⟩ := h
    rfl
  · obtain ⟨F, v, M, R, S, rfl, sF, hv, hM, q⟩ := h
    refine ⟨_, (pss_cons (ps_set (i := 1) sc_is_machine.nd rfl (by first | exact Or.inl rfl | exact Or.inr rfl) (pe_callB (id := "len") call_lenQ (by rfl) t.n_len (by decide +kernel) (pa_cons (pv 0) pa_nil)))
      (pss_cons (ps_if (pt_not (pt_chain op_le op_le pe_int (pv 1) (pe_glob (v := .int 4) (by rfl) t.m_MOST_ROWS ⟨_, rfl⟩))) (pss_one (ps_ret pe_bl)) pss_nil)
      (pss_cons (ps_set (i := 2) sc_is_machine.nd rfl (by first | exact Or.inl rfl | exact Or.inr rfl) (pe_callB (id := "len") call_lenQ (by rfl) t.n_len (by decide +kernel) (pa_cons (pe_ix ix_list (pv 0) pe_int (fun _ _ => rfl)) pa_nil)))
      (pss_cons (ps_if (PW.pt (pw_or (pt_not (pt_chain op_le op_le pe_int (pv 2) (pe_glob (v := .int 4) (by rfl) t.m_MOST_SIGNS ⟨_, rfl⟩))) (pw_or1 (pt_not (pt_val (pe_callB (id := "all") (cr_all rfl) (by rfl) t.n_all (by decide +kernel) (pa_cons (pe_lc (own := [("row", 3)]) (g := gName 3) (tt := tYes) rfl sc_is_machine.nd (pi_list (pv 0)) (blkOk_by (N := N_is_machine) (sc := defScope s_is_machine) (by decide +kernel)) (fun _ _ _ _ _ => (pg_name (i := 3) sc_is_machine.nd rfl (by first | exact Or.inl rfl | exact Or.inr rfl))) (fun _ _ _ _ _ => pts_nil) (fun _ _ _ _ _ => (pe_cmpR op_eq (pe_callB (id := "len") (crK (K := K) (r := rLenQ) rfl call_lenQ) (by rfl) t.n_len (by decide +kernel) (pa_cons (pv 3) pa_nil)) (pv 2) (nomark _)))) pa_nil))))))) (pss_one (ps_ret pe_bl)) pss_nil)
      (pss_one (ps_ret (pe_callB (id := "all") (cr_all rfl) (by rfl) t.n_all (by decide +kernel) (pa_cons (pe_lc (own := [("row", 3)]) (g := gName 3) (tt := tYes) rfl sc_is_machine.nd (pi_list (pv 0)) (blkOk_by (N := N_is_machine) (sc := defScope s_is_machine) (by decide +kernel)) (fun _ _ _ _ _ => (pg_name (i := 3) sc_is_machine.nd rfl (by first | exact Or.inl rfl | exact Or.inr rfl))) (fun _ _ _ _ _ => pts_nil) (fun _ _ _ _ _ => (pe_callB (id := "all") (crK (K := K) (r := rAll) rfl (cr_all rfl)) (by rfl) t.n_all (by decide +kernel) (pa_cons (pe_lc (own := [("entry", 4)]) (g := gName 4) (tt := tYes) rfl sc_is_machine.nd (pi_listK (K := K) rfl (pv 3)) (blkOk_by (N := N_is_machine) (sc := { kind := PySem.ScopeKind.function, names := [(PySem.Str.ofString ".0", PySem.NameKind.local), (PySem.Str.ofString "row", PySem.NameKind.local), (PySem.Str.ofString "all", PySem.NameKind.globalImplicit), (PySem.Str.ofString "rows", PySem.NameKind.cell), (PySem.Str.ofString "signs", PySem.NameKind.cell)], isGenerator := false, isCoroutine := false }) (by decide +kernel)) (fun _ _ _ _ _ => (pg_name (i := 4) sc_is_machine.nd rfl (by first | exact Or.inl rfl | exact Or.inr rfl))) (fun _ _ _ _ _ => pts_nil) (fun _ _ _ _ _ => (pe_call (ok_is_entry t) (hr.mono (by decide)) (by rfl) t.m_is_entry t.F_is_entry.kp t.b_is_entry .nil pass0 (pa_cons (pv 4) (pa_cons (pv 1) (pa_cons (pv 2) pa_nil)))))) pa_nil)))) pa_nil)))))))), ?_⟩
    have g0 : Gr mu0 F H F H := Gr.refl sF
    have r1 := hM.r1
    have r4 := hM.r4
    have s2 := hM.s2
    have s4 := hM.s4
    obtain ⟨a, rs, rfl, ha, hrs⟩ := hv
    have lrs : rs.length = R := hrs.1.trans hM.len
    have h0 := sF _ _ ha
    have l0 : 0 < rs.length := by omega
    have hx0 : rs[0]? = some rs[0] := List.getElem?_eq_getElem l0
    obtain ⟨row0, hM0, hr0⟩ := hrs.get' hx0
    obtain ⟨a0, es0, e0, ha0, hes0⟩ := hr0
    have ls0 : es0.length = S := hes0.1.trans (hM.row _ (List.mem_of_getElem? hM0))
    have hb0 := sF _ _ ha0
    -- rows = len(machine); signs = len(machine[0])
    refine ⟨_, rfl, a, rs, rfl, .inl (SqL.of h0), _, rfl, _, _, rfl, rfl, _, rfl, ifT (decide_eq_true (by omega)) ⟨_, _, rfl, rfl, _, rfl, ?_⟩⟩
    refine ifF (by rw [decide_eq_true (show (rs.length : Int) ≤ 4 by omega)]; rfl) ?_
    refine ⟨_, rfl, a, rs, _, _, rfl, rfl, SqL.of h0, atI_nat (j := 0) hx0, ?_⟩
    rw [e0]
    refine ⟨a0, es0, rfl, .inl (SqL.of hb0), _, rfl, _, _, rfl, rfl, _, rfl, ifT (decide_eq_true (by omega)) ⟨_, _, rfl, rfl, _, rfl, ?_⟩⟩
    refine ifF (by rw [decide_eq_true (show (es0.length : Int) ≤ 4 by omega)]; rfl) ?_
    -- all([len(row) == signs for row in machine])
    refine ⟨_, rfl, a, rfl, ⟨_, SqL.of h0⟩, fun D nD => lc_list (K := K) (a := a) (xs := rs) (fun i G => Gr mu0 F H F G ∧ G D = some (.lst (List.replicate i (V.bl true)))) ⟨g0.own nD, upd_same⟩ (fun i G _ p => SqL.of (p.1.fh _ _ ha)) ?_ ?_⟩
    · rintro i x G hi ⟨gG, hD⟩
      obtain ⟨row, hMi, b, es, rfl, hb, hes⟩ := hrs.get' hi
      have ls : es.length = S := hes.1.trans (hM.row _ (List.mem_of_getElem? hMi))
      have il : i < rs.length := (List.getElem?_eq_some_iff.mp hi).1
      refine ⟨rfl, ?_⟩
      refine yes ⟨_, rfl, b, es, rfl, .inl (SqL.of (gG.fh _ _ hb)), _, rfl, rfl, _, hD, by rw [List.length_replicate]; exact lt_size (by omega), ?_⟩
      have e : (V.bl (decide (V.int (es.length : Int) = V.int (es0.length : Int)))) = V.bl true := by rw [ls, ls0]; simp
      rw [e, rep_snoc]
      exact ⟨gG.set (ne_of_none' sF nD) (.inl nD), upd_same⟩
    · rintro G ⟨gG, hD⟩
      refine ⟨D, List.replicate rs.length true, rfl, SqL.of (by rw [map_rep]; exact hD), _, rfl, ifF (by rw [all_rep]; rfl) ?_⟩
      -- all([all([is_entry(entry, rows, signs) for entry in row]) for row in machine])
      refine ⟨_, rfl, a, rfl, ⟨_, SqL.of (gG.fh _ _ ha)⟩, fun D1 nD1 => lc_list (K := K) (a := a) (xs := rs) (fun i G1 => Gr mu0 F H F G1 ∧ H D1 = none ∧ G1 D1 = some (.lst (List.replicate i (V.bl true)))) ⟨gG.own nD1, gG.th _ nD1, upd_same⟩ (fun i G1 _ p => SqL.of (p.1.fh _ _ ha)) ?_ ?_⟩
      · rintro i x G1 hi ⟨gG1, nH, hD1⟩
        obtain ⟨row, hMi, b, es, rfl, hb, hes⟩ := hrs.get' hi
        have ls : es.length = S := hes.1.trans (hM.row _ (List.mem_of_getElem? hMi))
        have il : i < rs.length := (List.getElem?_eq_some_iff.mp hi).1
        refine ⟨rfl, yes ⟨_, rfl, b, rfl, ⟨_, SqL.of (gG1.fh _ _ hb)⟩, fun D2 nD2 => lc_list (K := K) (a := b) (xs := es) (fun j G2 => Gr mu0 F H F G2 ∧ H D2 = none ∧ D1 ≠ D2 ∧ G2 D1 = some (.lst (List.replicate i (V.bl true))) ∧ G2 D2 = some (.lst (List.replicate j (V.bl true))))
          ⟨gG1.own nD2, gG1.th _ nD2, ne_of_none hD1 nD2, by rw [upd_ne (ne_of_none hD1 nD2)]; exact hD1, upd_same⟩ (fun j G2 _ p => SqL.of (p.1.fh _ _ hb)) ?_ ?_⟩⟩
        · rintro j y G2 hj ⟨gG2, nH2, d12, h1, h2⟩
          obtain ⟨e, hej, hye⟩ := hes.get' hj
          have jl : j < es.length := (List.getElem?_eq_some_iff.mp hj).1
          refine ⟨rfl, yes ⟨_, rfl, _, rfl, _, rfl, F, y, e, R, S, ?_, gG2.fh, hye, hM.ent _ (List.mem_of_getElem? hMi) _ (List.mem_of_getElem? hej), fun G3 g3 => ?_⟩⟩
          · rw [lrs, ls0]
            rfl
          · have gH3 := gG2.trans g3
            refine ⟨_, g3.fr _ _ h2 (fun z => z), by rw [List.length_replicate]; exact lt_size (by omega), ?_⟩
            rw [rep_snoc]
            exact ⟨gH3.set (sF.free nH2) (.inl nH2), nH2, d12, by rw [upd_ne d12]; exact g3.fr _ _ h1 (fun z => z), upd_same⟩
        · rintro G2 ⟨gG2, nH2, d12, h1, h2⟩
          refine ⟨D2, List.replicate es.length true, rfl, SqL.of (by rw [map_rep]; exact h2), ?_⟩
          refine ⟨_, h1, by rw [List.length_replicate]; exact lt_size (by omega), ?_⟩
          rw [all_rep, rep_snoc]
          exact ⟨gG2.set (sF.free nH) (.inl nH), nH, upd_same⟩
      · rintro G1 ⟨gG1, nH, hD1⟩
        refine ⟨D1, List.replicate rs.length true, rfl, SqL.of (by rw [map_rep]; exact hD1), ?_⟩
        rw [all_rep]
        exact q _ gG1
def sp_must_machine : Sp := fun vs H Q _ => ∃ (F : Hp) (v : V) (M : Mach) (R S : Nat), vs = [v] ∧ Same F H ∧ Is F v M ∧ MOk M R S ∧ ∀ H', Gr mu0 F H F H' → Q .non H'
theorem ok_must_machine (t : Tx K mg) : FnOk P w K mg base CX0 3 t.a_must_machine t.fd_must_machine ["machine"] sp_must_machine := by
  refine t.F_must_machine.ok sc_must_machine (fun vs H Q E h => ?_) (fun cdv A outer s H vs Q E hr h => ?_)
  · obtain ⟨F, v, M, R, S, rfl, _⟩ := h
    rfl
  · obtain ⟨F, v, M, R, S, rfl, sF, hv, hM, q⟩ := h
    refine ⟨_, (pss_one (ps_if (pt_not (pt_val (pe_call (ok_is_machine t) (hr.mono (by decide)) (by rfl) t.m_is_machine t.F_is_machine.kp t.b_is_machine .nil pass0 (pa_cons (pv 0) pa_nil)))) (pss_one ps_never) pss_nil)), ?_⟩
    exact ⟨_, rfl, F, _, M, R, S, rfl, sF, hv, hM, fun H' g => ⟨_, rfl, ifF rfl (q _ g)⟩⟩
/-! ### machines, runs drawn -/
theorem at2 {a b : V} {c : Bool} : atI [a, b] (if c then 1 else 0) = some (if c then b else a) := by cases c <;> rfl
def sp_L_entry : Sp := fun vs H Q _ => ∃ (F : Hp) (p : Addr) (R S few b row : Int), vs = [.ref p, .int R, .int S, .int row, .int few] ∧ Same F H ∧ F p = none ∧ PuAt H p b ∧ b ≤ 800000 ∧ 0 < R ∧ R ≤ 4 ∧ 0 < S ∧ S ≤ 4 ∧ 0 ≤ row ∧ row < R ∧ 0 < few ∧ few ≤ 100 ∧
  ∀ (F' H' : Hp) (v : V) (e : Ent), Gr (muP p) F H F' H' → PuAt H' p (b + 10) → Is F' v e → (∀ p w r, e = .go p w r → (0 ≤ p ∧ p < S) ∧ (w = -1 ∨ w = 1) ∧ 0 ≤ r ∧ r < R) → Q v H'
theorem ok_L_entry (t : Tx K mg) : FnOk P w K mg base CX0 3 t.a_L_entry t.fd_L_entry ["_law_purse_here", "_law_rows", "_law_signs", "_law_row", "_law_few"] sp_L_entry := by
  refine t.F_L_entry.ok sc_L_entry (fun vs H Q E h => ?_) (fun cdv A outer s H vs Q E hr h => ?_)
  · obtain ⟨F, p, R, S, few, b, row, rfl, _⟩ := h
    rfl
  · obtain ⟨F, p, R, S, few, b, row, rfl, sF, fp, hp, hb, R0, R4, S0, S4, r0, r1, f0, f1, q⟩ := h
    refine ⟨_, (pss_cons (ps_set (i := 5) sc_L_entry.nd rfl (by first | exact Or.inl rfl | exact Or.inr rfl) (pe_call (ok_L_draw t) (hr.mono (by decide)) (by rfl) t.m_L_draw t.F_L_draw.kp t.b_L_draw .nil pass0 (pa_cons (pv 0) (pa_cons (pv 2) pa_nil))))
      (pss_cons (ps_set (i := 6) sc_L_entry.nd rfl (by first | exact Or.inl rfl | exact Or.inr rfl) (pe_op op_sub (pe_op op_mul pe_int (pe_call (ok_L_draw t) (hr.mono (by decide)) (by rfl) t.m_L_draw t.F_L_draw.kp t.b_L_draw .nil pass0 (pa_cons (pv 0) (pa_cons pe_int pa_nil)))) pe_int))
      (pss_cons (ps_set (i := 7) sc_L_entry.nd rfl (by first | exact Or.inl rfl | exact Or.inr rfl) (pe_ix ix_list (pe_lst (pa_cons (pe_call (ok_L_draw t) (hr.mono (by decide)) (by rfl) t.m_L_draw t.F_L_draw.kp t.b_L_draw .nil pass0 (pa_cons (pv 0) (pa_cons (pv 1) pa_nil))) (pa_cons (pv 3) pa_nil))) (pe_callTy (T := "int") call_int1 (by rfl) t.n_int (by decide +kernel) (pa_cons (pe_cmpR op_eq (pe_call (ok_L_draw t) (hr.mono (by decide)) (by rfl) t.m_L_draw t.F_L_draw.kp t.b_L_draw .nil pass0 (pa_cons (pv 0) (pa_cons pe_int pa_nil))) pe_int (nomark _)) pa_nil)) (fun _ _ => rfl)))
      (pss_one (ps_ret (pe_ix ix_list (pe_lst (pa_cons (pe_tup (pa_cons (pv 5) (pa_cons (pv 6) (pa_cons (pv 7) pa_nil)))) (pa_cons (pe_tup pa_nil) pa_nil))) (pe_callTy (T := "int") call_int1 (by rfl) t.n_int (by decide +kernel) (pa_cons (pe_cmpR op_eq (pe_call (ok_L_draw t) (hr.mono (by decide)) (by rfl) t.m_L_draw t.F_L_draw.kp t.b_L_draw .nil pass0 (pa_cons (pv 0) (pa_cons (pv 4) pa_nil))) pe_int (nomark _)) pa_nil)) (fun _ _ => rfl))))))), ?_⟩
    refine ⟨_, rfl, _, rfl, F, p, S, b, rfl, sF, fp, hp, by omega, S0, by omega, fun d1 H1 d10 d11 g1 hp1 => ?_⟩
    refine ⟨_, rfl, F, p, 2, _, rfl, g1.fh, fp, hp1, by omega, by decide, by decide, fun d2 H2 d20 d21 g2 hp2 => ⟨_, _, rfl, rfl, .inl ⟨by decide, by decide⟩, _, _, rfl, rfl, ?_⟩⟩
    refine ⟨_, rfl, _, rfl, F, p, R, _, rfl, g2.fh, fp, hp2, by omega, R0, by omega, fun d3 H3 d30 d31 g3 hp3 => ⟨_, rfl, two_le, fun l nl => ?_⟩⟩
    have g4 := ((g1.trans g2).trans g3).own (o := .lst [.int d3, .int row]) nl
    have hl : (upd H3 l (.lst [.int d3, .int row])) l = some (.lst [.int d3, .int row]) := upd_same
    have hp4 := hp3.ln (o := .lst [.int d3, .int row]) nl
    have pl := hp3.ne nl
    generalize upd H3 l (.lst [.int d3, .int row]) = H4 at g4 hl hp4
    refine ⟨_, rfl, F, p, 3, _, rfl, g4.fh, fp, hp4, by omega, by decide, by decide, fun d4 H5 d40 d41 g5 hp5 => ⟨rfl, .inr ⟨_, rfl, ?_⟩⟩⟩
    have hl5 := g5.fr _ _ hl (Ne.symm pl)
    refine ⟨l, _, _, _, rfl, rfl, SqL.of hl5, at2, ?_⟩
    have et : ∃ r : Int, (if decide (V.int d4 = V.int 1) = true then V.int row else V.int d3) = V.int r ∧ 0 ≤ r ∧ r < R := by
      split
      · exact ⟨_, rfl, r0, r1⟩
      · exact ⟨_, rfl, d30, d31⟩
    obtain ⟨r, er, r0', r1'⟩ := et
    rw [er]
    have g6 := g4.trans g5
    refine ⟨_, rfl, _, rfl, _, rfl, three_le, fun q0 n0 => ⟨nil_le, fun q1 n1 => ⟨two_le, fun l2 nl2 => ?_⟩⟩⟩
    have g7 := (g6.new (o := .tup [.int d1, .int (2 * d2 - 1), .int r]) n0).new (o := .tup []) n1
    have hp7 := (hp5.ln (o := .tup [.int d1, .int (2 * d2 - 1), .int r]) n0).ln (o := .tup []) n1
    have i0 : Is (upd (upd F q0 (.tup [.int d1, .int (2 * d2 - 1), .int r])) q1 (.tup [])) (.ref q0) (Ent.go d1 (2 * d2 - 1) r) := ⟨q0, rfl, by rw [upd_ne (ne_of_none upd_same n1)]; exact upd_same⟩
    have i1 : Is (upd (upd F q0 (.tup [.int d1, .int (2 * d2 - 1), .int r])) q1 (.tup [])) (.ref q1) Ent.emp := ⟨q1, rfl, upd_same⟩
    have fp7 := hp.f fp g7
    generalize upd (upd F q0 (.tup [.int d1, .int (2 * d2 - 1), .int r])) q1 (.tup []) = F7 at g7 i0 i1 fp7
    generalize upd (upd H5 q0 (.tup [.int d1, .int (2 * d2 - 1), .int r])) q1 (.tup []) = H7 at g7 hp7 nl2
    have g8 := g7.own (o := .lst [.ref q0, .ref q1]) nl2
    have hl8 : (upd H7 l2 (.lst [.ref q0, .ref q1])) l2 = some (.lst [.ref q0, .ref q1]) := upd_same
    have hp8 := hp7.ln (o := .lst [.ref q0, .ref q1]) nl2
    have pl2 := hp7.ne nl2
    generalize upd H7 l2 (.lst [.ref q0, .ref q1]) = H8 at g8 hl8 hp8
    refine ⟨_, rfl, _, rfl, F7, p, few, _, rfl, g8.fh, fp7, hp8, by omega, f0, by omega, fun d5 H9 d50 d51 g9 hp9 => ⟨rfl, .inr ⟨_, rfl, ?_⟩⟩⟩
    refine ⟨l2, _, _, _, rfl, rfl, SqL.of (g9.fr _ _ hl8 (Ne.symm pl2)), at2, ?_⟩
    by_cases c : decide (V.int d5 = V.int 1) = true
    · rw [if_pos c]
      exact q F7 H9 _ Ent.emp (g8.trans g9) (hp9.le (by omega)) i1 (fun p w r z => nomatch z)
    · rw [if_neg c]
      refine q F7 H9 _ _ (g8.trans g9) (hp9.le (by omega)) i0 fun p w r' z => ?_
      cases z
      exact ⟨⟨d10, d11⟩, by omega, r0', r1'⟩
theorem Ow.frz' {H F H1 : Hp} {q r : Addr} {o u : HO} (w : Ow H F H1 q o) (e : q ≠ r) : Ow H (upd F r u) H1 q o := ⟨w.n, by rw [upd_ne e]; exact w.f, w.h⟩
theorem Ow.neq {H F H1 : Hp} {q r : Addr} {o : HO} (w : Ow H F H1 q o) {u : HO} (h : H r = some u) : q ≠ r := fun e => by rw [← e, w.n] at h; cases h
def sp_L_machine : Sp := fun vs H Q _ => ∃ (F : Hp) (p : Addr) (b : Int), vs = [.ref p] ∧ Same F H ∧ F p = none ∧ PuAt H p b ∧ b ≤ 700000 ∧
  ∀ (F' H' : Hp) (v : V) (M : Mach) (R S : Nat), Gr (muP p) F H F' H' → PuAt H' p (b + 1000) → MOk M R S → Is F' v M → Q v H'
theorem ok_L_machine (t : Tx K mg) : FnOk P w K mg base CX0 4 t.a_L_machine t.fd_L_machine ["_law_purse_here"] sp_L_machine := by
  refine t.F_L_machine.ok sc_L_machine (fun vs H Q E h => ?_) (fun cdv A outer s H vs Q E hr h => ?_)
  · obtain ⟨F, p, b, rfl, _⟩ := h
    rfl
  · obtain ⟨F, p, b, rfl, sF, fp, hp, hb, q⟩ := h
    refine ⟨_, (pss_cons (ps_set (i := 1) sc_L_machine.nd rfl (by first | exact Or.inl rfl | exact Or.inr rfl) (pe_op op_add pe_int (pe_call (ok_L_draw t) (hr.mono (by decide)) (by rfl) t.m_L_draw t.F_L_draw.kp t.b_L_draw .nil pass0 (pa_cons (pv 0) (pa_cons pe_int pa_nil)))))
      (pss_cons (ps_set (i := 2) sc_L_machine.nd rfl (by first | exact Or.inl rfl | exact Or.inr rfl) (pe_op op_add pe_int (pe_call (ok_L_draw t) (hr.mono (by decide)) (by rfl) t.m_L_draw t.F_L_draw.kp t.b_L_draw .nil pass0 (pa_cons (pv 0) (pa_cons pe_int pa_nil)))))
      (pss_cons (ps_set (i := 3) sc_L_machine.nd rfl (by first | exact Or.inl rfl | exact Or.inr rfl) (pe_ix ix_list (pe_lst (pa_cons pe_int (pa_cons pe_int (pa_cons pe_int (pa_cons pe_int pa_nil))))) (pe_call (ok_L_draw t) (hr.mono (by decide)) (by rfl) t.m_L_draw t.F_L_draw.kp t.b_L_draw .nil pass0 (pa_cons (pv 0) (pa_cons pe_int pa_nil))) (fun _ _ => rfl)))
      (pss_one (ps_ret (pe_lc (own := [("_law_row", 5)]) (g := gName 5) (tt := tYes) rfl sc_L_machine.nd (pi_range1 (by rfl) t.n_range (pa_cons (pv 1) pa_nil)) (blkOk_by (N := N_L_machine) (sc := defScope s_L_machine) (by decide +kernel)) (fun _ _ _ _ _ => (pg_name (i := 5) sc_L_machine.nd rfl (by first | exact Or.inl rfl | exact Or.inr rfl))) (fun _ _ _ _ _ => pts_nil) (fun _ _ _ _ _ => (pe_lc (own := [("_law_sign", 4)]) (g := gName 4) (tt := tYes) rfl sc_L_machine.nd (pi_range1 (by rfl) t.n_range (pa_cons (pv 2) pa_nil)) (blkOk_by (N := N_L_machine) (sc := { kind := PySem.ScopeKind.function, names := [(PySem.Str.ofString ".0", PySem.NameKind.local), (PySem.Str.ofString "_law_row", PySem.NameKind.cell), (PySem.Str.ofString "range", PySem.NameKind.globalImplicit), (PySem.Str.ofString "_law_few", PySem.NameKind.cell), (PySem.Str.ofString "_law_purse_here", PySem.NameKind.cell), (PySem.Str.ofString "_law_rows", PySem.NameKind.cell), (PySem.Str.ofString "_law_signs", PySem.NameKind.cell)], isGenerator := false, isCoroutine := false }) (by decide +kernel)) (fun _ _ _ _ _ => (pg_name (i := 4) sc_L_machine.nd rfl (by first | exact Or.inl rfl | exact Or.inr rfl))) (fun _ _ _ _ _ => pts_nil) (fun _ _ _ _ _ => (pe_call (ok_L_entry t) (hr.mono (by decide)) (by rfl) t.m_L_entry t.F_L_entry.kp t.b_L_entry .nil pass0 (pa_cons (pv 0) (pa_cons (pv 1) (pa_cons (pv 2) (pa_cons (pv 5) (pa_cons (pv 3) pa_nil))))))))))))))), ?_⟩
    obtain ⟨po, hpo⟩ := hp.ex
    refine ⟨_, rfl, F, p, 4, b, rfl, sF, fp, hp, by omega, by decide, by decide, fun d1 H1 d10 d11 g1 hp1 => ⟨_, _, rfl, rfl, ?_⟩⟩
    refine ⟨_, rfl, F, p, 3, _, rfl, g1.fh, fp, hp1, by omega, by decide, by decide, fun d2 H2 d20 d21 g2 hp2 => ⟨_, _, rfl, rfl, ?_⟩⟩
    refine ⟨by show 4 ≤ sizeLine; decide, fun l nl => ?_⟩
    have g3 := (g1.trans g2).own (o := .lst [.int 4, .int 9, .int 20, .int 60]) nl
    have hl : (upd H2 l (.lst [.int 4, .int 9, .int 20, .int 60])) l = some (.lst [.int 4, .int 9, .int 20, .int 60]) := upd_same
    have hp3 := hp2.ln (o := .lst [.int 4, .int 9, .int 20, .int 60]) nl
    have pl := hp2.ne nl
    generalize upd H2 l (.lst [.int 4, .int 9, .int 20, .int 60]) = H3 at g3 hl hp3
    refine ⟨_, rfl, F, p, 4, _, rfl, g3.fh, fp, hp3, by omega, by decide, by decide, fun d3 H4 d30 d31 g4 hp4 => ?_⟩
    have ef : ∃ f : Int, atI [V.int 4, V.int 9, V.int 20, V.int 60] d3 = some (.int f) ∧ 0 < f ∧ f ≤ 100 := by
      rcases (by omega : d3 = 0 ∨ d3 = 1 ∨ d3 = 2 ∨ d3 = 3) with rfl | rfl | rfl | rfl <;> exact ⟨_, rfl, by decide, by decide⟩
    obtain ⟨few, ef, f0, f1⟩ := ef
    refine ⟨l, _, _, _, rfl, rfl, SqL.of (g4.fr _ _ hl (Ne.symm pl)), ef, ?_⟩
    have g5 := g3.trans g4
    have eR : ((1 + d1).toNat : Int) = 1 + d1 := Int.toNat_of_nonneg (by omega)
    have eS : ((2 + d2).toNat : Int) = 2 + d2 := Int.toNat_of_nonneg (by omega)
    generalize hR : (1 + d1).toNat = R at eR
    generalize hS : (2 + d2).toNat = S at eS
    dsimp only
    rw [← eR, ← eS]
    refine ⟨_, rfl, (R : Int), rfl, by omega, by omega, fun D nD => ?_⟩
    have pD := hp4.ne nD
    refine lc_range (lo := 0) (n := ((R : Int)).toNat) (fun i G => ∃ (F1 : Hp) (rs : List V) (M : Mach) (b1 : Int), Gr (muP p) F H F1 G ∧ PuAt G p b1 ∧ b1 ≤ b + 8 + 40 * i ∧ Ow H F1 G D (.lst rs) ∧ IsAll F1 rs M ∧ M.length = i ∧ ∀ row ∈ M, row.length = S ∧ ∀ e ∈ row, EOk R S e)
      ⟨F, [], [], _, g5.own nD, hp4.ln nD, by omega, Ow.mk1 g5 nD, All2.nil, rfl, fun row z => nomatch z⟩ ?_ ?_
    · rintro i G hi ⟨F1, rs, M, b1, g, hpG, hb1, w, al, lM, hM⟩
      have iR : i < R := by omega
      refine ⟨rfl, yes ⟨_, rfl, (S : Int), rfl, by omega, by omega, fun r nr => ?_⟩⟩
      have pr := hpG.ne nr
      have Dr : D ≠ r := w.ne nr
      refine lc_range (lo := 0) (n := ((S : Int)).toNat) (fun j G => ∃ (F2 : Hp) (es : List V) (row : List Ent) (b2 : Int), Gr (muP p) F H F2 G ∧ PuAt G p b2 ∧ b2 ≤ b1 + 10 * j ∧ Ow H F2 G D (.lst rs) ∧ Ow H F2 G r (.lst es) ∧ IsAll F2 rs M ∧ IsAll F2 es row ∧ row.length = j ∧ ∀ e ∈ row, EOk R S e)
        ⟨F1, [], [], b1, g.own nr, hpG.ln nr, by omega, w.own nr, Ow.mk1 g nr, al, All2.nil, rfl, fun e z => nomatch z⟩ ?_ ?_
      · rintro j G hj ⟨F2, es, row, b2, g, hpG, hb2, w, wr, al, ae, lr, hrow⟩
        have jS : j < S := by omega
        refine ⟨rfl, yes ⟨_, rfl, _, rfl, _, rfl, _, rfl, _, rfl, F2, p, (R : Int), (S : Int), few, b2, (0 + i : Int), rfl, g.fh, hp.f fp g, hpG, by omega, by omega, by omega, by omega, by omega, by omega, by omega, f0, f1, fun F3 G3 v e g3 hp3 ie eo => ?_⟩⟩
        have w3 := w.call g3 (Ne.symm pD)
        have wr3 := wr.call g3 (Ne.symm pr)
        refine ⟨es, wr3.h, by rw [ae.1, lr]; exact lt_size (by omega), F3, es ++ [v], row ++ [e], _, (g.trans g3).set wr3.f (.inl wr3.n), hp3.off pr, by omega, w3.other Dr, wr3.set, al.up g3.ff, (ae.up g3.ff).app (All2.one ie), by rw [List.length_append, lr]; rfl, fun e' z => ?_⟩
        rcases List.mem_append.mp z with z | z
        · exact hrow e' z
        · rw [List.mem_singleton.mp z]; exact ⟨eo⟩
      · rintro G ⟨F2, es, row, b2, g, hpG, hb2, w, wr, al, ae, lr, hrow⟩
        have lr : row.length = S := by rw [lr]; exact Int.toNat_natCast S
        have g2 := g.frz wr.h wr.n wr.f
        have s2 : Same F2 (upd F2 r (.lst es)) := sm_new (Same.refl F2) wr.f
        have w2 := w.frz' (u := .lst es) Dr
        refine ⟨rs, w2.h, by rw [al.1, lM]; exact lt_size (by omega), upd F2 r (.lst es), rs ++ [.ref r], M ++ [row], b2, g2.set w2.f (.inl w2.n), hpG.off pD, by omega, w2.set, (al.up s2).app (All2.one ⟨r, es, rfl, upd_same, ae.up s2⟩), by rw [List.length_append, lM]; rfl, fun row' z => ?_⟩
        rcases List.mem_append.mp z with z | z
        · exact hM row' z
        · rw [List.mem_singleton.mp z]; exact ⟨lr, hrow⟩
    · rintro G ⟨F1, rs, M, b1, g, hpG, hb1, w, al, lM, hM⟩
      have lM : M.length = R := by rw [lM]; exact Int.toNat_natCast R
      have hb1 : b1 ≤ b + 8 + 40 * R := by rw [show ((R : Int).toNat : Int) = R from by rw [Int.toNat_natCast]] at hb1; exact hb1
      refine q (upd F1 D (.lst rs)) G _ M R S (g.frz w.h w.n w.f) (hpG.le (by omega)) ⟨by omega, by omega, by omega, by omega, lM, fun r z => (hM r z).1, fun r z => (hM r z).2⟩ ⟨D, rs, rfl, upd_same, al.up (sm_new (Same.refl F1) w.f)⟩
abbrev Rs := T3 (List PI) Int (List PI)
def OkS (S : Nat) (l : List PI) : Prop := ∀ q ∈ l, (0 ≤ q.a ∧ q.a < S) ∧ 1 ≤ q.b
theorem OkS.nil {S : Nat} : OkS S [] := fun q z => nomatch z
theorem OkS.rev {S : Nat} {l : List PI} (h : OkS S l) : OkS S l.reverse := fun q z => h q (List.mem_reverse.mp z)
theorem All2.rev {α β : Type} {r : α → β → Prop} : ∀ {xs : List α} {ys : List β}, All2 r xs ys → All2 r xs.reverse ys.reverse
  | [], [], _ => All2.nil
  | [], y :: ys, h => by have := h.1; simp at this
  | x :: xs, [], h => by have := h.1; simp at this
  | x :: xs, y :: ys, h => by
    rw [List.reverse_cons, List.reverse_cons]
    exact (All2.rev (xs := xs) (ys := ys) ⟨by have := h.1; simpa using this, fun i a b p q => h.2 (i + 1) a b (by simpa using p) (by simpa using q)⟩).app (All2.one (h.2 0 x y rfl rfl))
def OkR (S : Nat) (x : Rs) : Prop := (OkS S x.a ∧ x.a.length ≤ 900) ∧ (0 ≤ x.b ∧ x.b < S) ∧ OkS S x.c ∧ x.c.length ≤ 900
def sp_L_side : Sp := fun vs H Q _ => ∃ (F : Hp) (p : Addr) (S : Nat) (b : Int) (near : Bool), vs = [.ref p, .int S, .bl near] ∧ Same F H ∧ F p = none ∧ PuAt H p b ∧ b ≤ 700000 ∧ 2 ≤ S ∧ S ≤ 4 ∧
  ∀ (F' H' : Hp) (v : V) (l : List PI), Gr (muP p) F H F' H' → PuAt H' p (b + 100) → Is F' v l → OkS S l → l.length ≤ 8 → Q v H'
theorem ok_L_side (t : Tx K mg) : FnOk P w K mg base CX0 3 t.a_L_side t.fd_L_side ["_law_purse_here", "_law_signs", "_law_near_first"] sp_L_side := by
  refine t.F_L_side.ok sc_L_side (fun vs H Q E h => ?_) (fun cdv A outer s H vs Q E hr h => ?_)
  · obtain ⟨F, p, S, b, near, rfl, _⟩ := h
    rfl
  · obtain ⟨F, p, S, b, near, rfl, sF, fp, hp, hb, S2, S4, q⟩ := h
    refine ⟨_, (pss_cons (ps_set (i := 3) sc_L_side.nd rfl (by first | exact Or.inl rfl | exact Or.inr rfl) (pe_lst pa_nil))
      (pss_cons (ps_set (i := 4) sc_L_side.nd rfl (by first | exact Or.inl rfl | exact Or.inr rfl) pe_int)
      (pss_cons (ps_for PassesOwn.never rfl (pi_range1 (by rfl) t.n_range (pa_cons (pe_call (ok_L_draw t) (hr.mono (by decide)) (by rfl) t.m_L_draw t.F_L_draw.kp t.b_L_draw .nil pass0 (pa_cons (pv 0) (pa_cons (pe_ix ix_list (pe_lst (pa_cons pe_int (pa_cons pe_int (pa_cons pe_int pa_nil)))) (pe_call (ok_L_draw t) (hr.mono (by decide)) (by rfl) t.m_L_draw t.F_L_draw.kp t.b_L_draw .nil pass0 (pa_cons (pv 0) (pa_cons pe_int pa_nil))) (fun _ _ => rfl)) pa_nil))) pa_nil)) (pg_name (i := 5) sc_L_side.nd rfl (by first | exact Or.inl rfl | exact Or.inr rfl)) (pss_cons (ps_set (i := 6) sc_L_side.nd rfl (by first | exact Or.inl rfl | exact Or.inr rfl) (pe_op op_mod (pe_op op_add (pe_op op_add (pv 4) pe_int) (pe_call (ok_L_draw t) (hr.mono (by decide)) (by rfl) t.m_L_draw t.F_L_draw.kp t.b_L_draw .nil pass0 (pa_cons (pv 0) (pa_cons (pe_op op_sub (pv 1) pe_int) pa_nil)))) (pv 1)))
      (pss_cons (ps_set (i := 7) sc_L_side.nd rfl (by first | exact Or.inl rfl | exact Or.inr rfl) (pe_op op_add pe_int (pe_call (ok_L_draw t) (hr.mono (by decide)) (by rfl) t.m_L_draw t.F_L_draw.kp t.b_L_draw .nil pass0 (pa_cons (pv 0) (pa_cons (pe_ix ix_list (pe_lst (pa_cons pe_int (pa_cons pe_int (pa_cons pe_int (pa_cons (pe_op op_pow pe_int pe_int) pa_nil))))) (pe_call (ok_L_draw t) (hr.mono (by decide)) (by rfl) t.m_L_draw t.F_L_draw.kp t.b_L_draw .nil pass0 (pa_cons (pv 0) (pa_cons pe_int pa_nil))) (fun _ _ => rfl)) pa_nil)))))
      (pss_cons (ps_if (pt_cmpR op_gt (pv 7) pe_int (nomark _)) (pss_one (ps_set (i := 7) sc_L_side.nd rfl (by first | exact Or.inl rfl | exact Or.inr rfl) (pe_op op_sub (pe_op op_mul (pv 7) (pe_op op_pow pe_int pe_int)) (pe_call (ok_L_draw t) (hr.mono (by decide)) (by rfl) t.m_L_draw t.F_L_draw.kp t.b_L_draw .nil pass0 (pa_cons (pv 0) (pa_cons (pe_op op_pow pe_int pe_int) pa_nil)))))) pss_nil)
      (pss_cons (ps_expr (pe_bm PySem.F.plainAttrs_list PySem.F.slot_list_append PySem.F.type_list_append mt_append (pv 3) (pa_cons (pe_tup (pa_cons (pv 6) (pa_cons (pv 7) pa_nil))) pa_nil)))
      (pss_one (ps_set (i := 4) sc_L_side.nd rfl (by first | exact Or.inl rfl | exact Or.inr rfl) (pv 6))))))))
      (pss_cons (ps_if (pt_val (pv 2)) (pss_one (ps_ret (pe_revL (pv 3)))) pss_nil)
      (pss_one (ps_ret (pv 3))))))), ?_⟩
    obtain ⟨po, hpo⟩ := hp.ex
    have g0 : Gr (muP p) F H F H := Gr.refl sF
    refine ⟨nil_le, fun D nD => ?_⟩
    have pD := hp.ne nD
    have g1 := g0.own (o := .lst []) nD
    have w1 : Ow H F (upd H D (.lst [])) D (.lst []) := Ow.mk1 g0 nD
    have hp1 := hp.ln (o := .lst []) nD
    generalize upd H D (.lst []) = H1 at g1 w1 hp1
    refine ⟨_, rfl, three_le, fun l nl => ?_⟩
    have g2 := g1.own (o := .lst [.int 1, .int 3, .int 8]) nl
    have w2 := w1.own (u := .lst [.int 1, .int 3, .int 8]) nl
    have hp2 := hp1.ln (o := .lst [.int 1, .int 3, .int 8]) nl
    have pl := hp1.ne nl
    have hl : (upd H1 l (.lst [.int 1, .int 3, .int 8])) l = some (.lst [.int 1, .int 3, .int 8]) := upd_same
    generalize upd H1 l (.lst [.int 1, .int 3, .int 8]) = H2 at g2 w2 hp2 hl
    refine ⟨_, rfl, F, p, 3, _, rfl, g2.fh, fp, hp2, by omega, by decide, by decide, fun d1 H3 d10 d11 g3 hp3 => ?_⟩
    have ef : ∃ f : Int, atI [V.int 1, V.int 3, V.int 8] d1 = some (.int f) ∧ 0 < f ∧ f ≤ 8 := by
      rcases (by omega : d1 = 0 ∨ d1 = 1 ∨ d1 = 2) with rfl | rfl | rfl <;> exact ⟨_, rfl, by decide, by decide⟩
    obtain ⟨f, ef, f0, f1⟩ := ef
    refine ⟨l, _, _, _, rfl, rfl, SqL.of (g3.fr _ _ hl (Ne.symm pl)), ef, ?_⟩
    refine ⟨F, p, f, _, rfl, g3.fh, fp, hp3, by omega, f0, by omega, fun d2 H4 d20 d21 g4 hp4 => ?_⟩
    have g5 := (g2.trans g3).trans g4
    have w5 := (w2.call g3 (Ne.symm pD)).call g4 (Ne.symm pD)
    refine ⟨d2, rfl, by omega, by omega, for_range (lo := 0) (n := d2.toNat) (fun i σ G => ∃ (F1 : Hp) (xs : List V) (l : List PI) (b1 last : Int) (v5 v6 v7 : Option V), σ = [some (.ref p), some (.int S), some (.bl near), some (.ref D), some (.int last), v5, v6, v7] ∧ Gr (muP p) F H F1 G ∧ PuAt G p b1 ∧ b1 ≤ b + 4 + 8 * i ∧ Ow H F1 G D (.lst xs) ∧ IsAll F1 xs l ∧ l.length = i ∧ OkS S l)
      ⟨F, [], [], _, 0, none, none, none, rfl, g5, hp4, by omega, w5, All2.nil, rfl, OkS.nil⟩ ?_ ?_⟩
    · rintro i σ G hi ⟨F1, xs, l, b1, last, v5, v6, v7, rfl, g, hpG, hb1, w, al, ll, hl⟩
      have i8 : i < 8 := by omega
      have fp1 := hp.f fp g
      -- the sign
      refine ⟨_, rfl, _, _, rfl, rfl, _, rfl, _, rfl, _, _, rfl, rfl, F1, p, (S : Int) - 1, b1, rfl, g.fh, fp1, hpG, by omega, by omega, by omega, fun e1 G1 e10 e11 g1 hp1 => ⟨_, _, rfl, rfl, _, rfl, _, _, rfl, rfl, (by show (0 : Int) < S; omega), ?_⟩⟩
      have a0 : 0 ≤ (last + 1 + e1) % (S : Int) := Int.emod_nonneg _ (by omega)
      have a1 : (last + 1 + e1) % (S : Int) < S := Int.emod_lt_of_pos _ (by omega)
      dsimp only
      generalize (last + 1 + e1) % (S : Int) = sg at a0 a1 ⊢
      -- how many
      refine ⟨_, rfl, _, _, rfl, rfl, ⟨by decide, by decide, by decide⟩, by show 4 ≤ sizeLine; decide, fun l' nl' => ?_⟩
      have e14 : (10 : Int) ^ (14 : Int).toNat = 100000000000000 := by decide
      dsimp only
      rw [e14]
      have g2 := (g.trans g1).own (o := .lst [.int 1, .int 3, .int 9, .int 100000000000000]) nl'
      have w2 := (w.call g1 (Ne.symm pD)).own (u := .lst [.int 1, .int 3, .int 9, .int 100000000000000]) nl'
      have hp2 := hp1.ln (o := .lst [.int 1, .int 3, .int 9, .int 100000000000000]) nl'
      have pl' := hp1.ne nl'
      have hl' : (upd G1 l' (.lst [.int 1, .int 3, .int 9, .int 100000000000000])) l' = some (.lst [.int 1, .int 3, .int 9, .int 100000000000000]) := upd_same
      generalize upd G1 l' (.lst [.int 1, .int 3, .int 9, .int 100000000000000]) = G2 at g2 w2 hp2 hl'
      refine ⟨_, rfl, F1, p, 4, _, rfl, g2.fh, fp1, hp2, by omega, by decide, by decide, fun e2 G3 e20 e21 g3 hp3 => ?_⟩
      have ef : ∃ f : Int, atI [V.int 1, V.int 3, V.int 9, V.int 100000000000000] e2 = some (.int f) ∧ 0 < f ∧ f ≤ 100000000000000 := by
        rcases (by omega : e2 = 0 ∨ e2 = 1 ∨ e2 = 2 ∨ e2 = 3) with rfl | rfl | rfl | rfl <;> exact ⟨_, rfl, by decide, by decide⟩
      obtain ⟨f, ef, f0, f1⟩ := ef
      refine ⟨l', _, _, _, rfl, rfl, SqL.of (g3.fr _ _ hl' (Ne.symm pl')), ef, ?_⟩
      refine ⟨F1, p, f, _, rfl, g3.fh, fp1, hp3, by omega, f0, by omega, fun e3 G4 e30 e31 g4 hp4 => ⟨_, _, rfl, rfl, ?_⟩⟩
      have g4' := (g2.trans g3).trans g4
      have w4 := (w2.call g3 (Ne.symm pD)).call g4 (Ne.symm pD)
      refine ⟨_, rfl, _, _, rfl, rfl, _, rfl, ?_⟩
      refine ite2 (fun c => ?A) (fun c => ?B)
      case' A =>
        have c := of_decide_eq_true c
        refine ⟨_, rfl, _, _, rfl, rfl, ⟨by decide, by decide, by decide⟩, _, _, rfl, rfl, .inr ⟨by decide, by decide⟩, _, rfl, _, _, rfl, rfl, ⟨by decide, by decide, by decide⟩, ?_⟩
        dsimp only
        rw [e14]
        refine ⟨F1, p, 100000000000000, _, rfl, g4.fh, fp1, hp4, by omega, by decide, by decide, fun e4 G5 e40 e41 g5 hp5 => ⟨_, _, rfl, rfl, ?_⟩⟩
        have m1 : 1 ≤ (1 + e3) * 100000000000000 - e4 := by omega
        dsimp only
        generalize (1 + e3) * 100000000000000 - e4 = many at m1 ⊢
        have gg := g4'.trans g5
        have ww := w4.call g5 (Ne.symm pD)
        have hh := hp5.le (b' := b1 + 8) (by omega)
      case' B =>
        have m1 : 1 ≤ 1 + e3 := by omega
        dsimp only
        generalize 1 + e3 = many at m1 ⊢
        have gg := g4'
        have ww := w4
        have hh := hp4.le (b' := b1 + 8) (by omega)
      all_goals
        refine ⟨_, rfl, .inl ⟨rfl, _, SqL.of ww.h⟩, _, rfl, _, rfl, two_le, fun t nt => ?_⟩
        have g6 := gg.new (o := .tup [.int sg, .int many]) nt
        have w6 := ww.new (u := .tup [.int sg, .int many]) nt
        have hp6 := hh.ln (o := .tup [.int sg, .int many]) nt
        have s6 : Same F1 (upd F1 t (.tup [.int sg, .int many])) := sm_new (Same.refl F1) (gg.fh.free nt)
        refine ⟨D, _, _, rfl, rfl, w6.h, by rw [al.1, ll]; exact lt_size (by omega), _, rfl, ?_⟩
        refine ⟨upd F1 t (.tup [.int sg, .int many]), xs ++ [.ref t], l ++ [⟨sg, many⟩], b1 + 8, sg, _, _, _, rfl, g6.set w6.f (.inl w6.n), hp6.off pD, by omega, w6.set, (al.up s6).app (All2.one ⟨t, _, _, rfl, upd_same, rfl, rfl⟩), by rw [List.length_append, ll]; rfl, fun q0 z => ?_⟩
        rcases List.mem_append.mp z with z | z
        · exact hl q0 z
        · rw [List.mem_singleton.mp z]; exact ⟨⟨a0, a1⟩, m1⟩
    · rintro σ G ⟨F1, xs, l, b1, last, v5, v6, v7, rfl, g, hpG, hb1, w, al, ll, hl⟩
      have l8 : l.length ≤ 8 := by omega
      have hb2 : b1 ≤ b + 68 := by omega
      have h0 := w.h
      refine ⟨_, rfl, near, rfl, ?_⟩
      refine ite2 (fun c => ?_) (fun c => ?_)
      · refine ⟨_, rfl, _, _, rfl, SqL.of h0, fun u nu => ?_⟩
        refine q (upd F1 u (.lst xs.reverse)) _ _ l.reverse (g.new nu) ((hpG.ln nu).le (by omega)) ⟨u, _, rfl, upd_same, (al.up (sm_new (Same.refl F1) (g.fh.free nu))).rev⟩ hl.rev (by rw [List.length_reverse]; exact l8)
      · exact ⟨_, rfl, q (upd F1 D (.lst xs)) G _ l (g.frz w.h w.n w.f) (hpG.le (by omega)) ⟨D, xs, rfl, upd_same, al.up (sm_new (Same.refl F1) w.f)⟩ hl l8⟩
def sp_L_runs : Sp := fun vs H Q _ => ∃ (F : Hp) (p : Addr) (S : Nat) (b : Int), vs = [.ref p, .int S] ∧ Same F H ∧ F p = none ∧ PuAt H p b ∧ b ≤ 600000 ∧ 2 ≤ S ∧ S ≤ 4 ∧
  ∀ (F' H' : Hp) (v : V) (x : Rs), Gr (muP p) F H F' H' → PuAt H' p (b + 300) → Is F' v x → OkR S x → x.a.length ≤ 8 → x.c.length ≤ 8 → Q v H'
theorem ok_L_runs (t : Tx K mg) : FnOk P w K mg base CX0 4 t.a_L_runs t.fd_L_runs ["_law_purse_here", "_law_signs"] sp_L_runs := by
  refine t.F_L_runs.ok sc_L_runs (fun vs H Q E h => ?_) (fun cdv A outer s H vs Q E hr h => ?_)
  · obtain ⟨F, p, S, b, rfl, _⟩ := h
    rfl
  · obtain ⟨F, p, S, b, rfl, sF, fp, hp, hb, S2, S4, q⟩ := h
    refine ⟨_, (pss_cons (ps_set (i := 2) sc_L_runs.nd rfl (by first | exact Or.inl rfl | exact Or.inr rfl) (pe_call (ok_L_side t) (hr.mono (by decide)) (by rfl) t.m_L_side t.F_L_side.kp t.b_L_side .nil pass0 (pa_cons (pv 0) (pa_cons (pv 1) (pa_cons pe_bl pa_nil)))))
      (pss_one (ps_ret (pe_tup (pa_cons (pv 2) (pa_cons (pe_call (ok_L_draw t) (hr.mono (by decide)) (by rfl) t.m_L_draw t.F_L_draw.kp t.b_L_draw .nil pass0 (pa_cons (pv 0) (pa_cons (pv 1) pa_nil))) (pa_cons (pe_call (ok_L_side t) (hr.mono (by decide)) (by rfl) t.m_L_side t.F_L_side.kp t.b_L_side .nil pass0 (pa_cons (pv 0) (pa_cons (pv 1) (pa_cons pe_bl pa_nil)))) pa_nil))))))), ?_⟩
    refine ⟨_, rfl, _, rfl, F, p, S, b, false, rfl, sF, fp, hp, by omega, S2, S4, fun F1 H1 v1 l1 g1 hp1 i1 o1 k1 => ?_⟩
    have fp1 := hp.f fp g1
    refine ⟨_, rfl, _, rfl, _, rfl, F1, p, (S : Int), _, rfl, g1.fh, fp1, hp1, by omega, by omega, by omega, fun d H2 d0 d1 g2 hp2 => ?_⟩
    refine ⟨_, rfl, _, rfl, F1, p, S, _, true, rfl, g2.fh, fp1, hp2, by omega, S2, S4, fun F3 H3 v3 l3 g3 hp3 i3 o3 k3 => ⟨three_le, fun u nu => ?_⟩⟩
    have g4 := (g1.trans g2).trans g3
    refine q (upd F3 u (.tup [v1, .int d, v3])) _ (.ref u) ⟨l1, d, l3⟩ (g4.new nu) ((hp3.ln nu).le (by omega)) ⟨u, _, _, _, rfl, upd_same, ?_, rfl, ?_⟩ ⟨⟨o1, by show l1.length ≤ 900; omega⟩, ⟨d0, d1⟩, o3, by show l3.length ≤ 900; omega⟩ k1 k3
    · exact (Is.up i1 g3.ff).up (sm_new (Same.refl F3) (g4.fh.free nu))
    · exact i3.up (sm_new (Same.refl F3) (g4.fh.free nu))
def sp_L_copied : Sp := fun vs H Q _ => ∃ (F : Hp) (v : V) (x : Rs), vs = [v] ∧ Same F H ∧ Is F v x ∧ ∀ (F' H' : Hp) (u : V), Gr mu0 F H F' H' → Is F' u x → Q u H'
theorem ok_L_copied (t : Tx K mg) : FnOk P w K mg base CX0 1 t.a_L_copied t.fd_L_copied ["_law_runs_here"] sp_L_copied := by
  refine t.F_L_copied.ok sc_L_copied (fun vs H Q E h => ?_) (fun cdv A outer s H vs Q E hr h => ?_)
  · obtain ⟨F, v, x, rfl, _⟩ := h
    rfl
  · obtain ⟨F, v, x, rfl, sF, hv, q⟩ := h
    refine ⟨_, (pss_one (ps_ret (pe_tup (pa_cons (pe_callTy (T := "list") call_listQ (by rfl) t.n_list (by decide +kernel) (pa_cons (pe_ix ix_tup (pv 0) pe_int (fun _ _ => rfl)) pa_nil)) (pa_cons (pe_ix ix_tup (pv 0) pe_int (fun _ _ => rfl)) (pa_cons (pe_callTy (T := "list") call_listQ (by rfl) t.n_list (by decide +kernel) (pa_cons (pe_ix ix_tup (pv 0) pe_int (fun _ _ => rfl)) pa_nil)) pa_nil)))))), ?_⟩
    have g0 : Gr mu0 F H F H := Gr.refl sF
    obtain ⟨p, x1, x2, x3, rfl, hp, ⟨a, xs, rfl, ha, hxs⟩, e2, ⟨c, zs, rfl, hc, hzs⟩⟩ := hv
    have e2 : x2 = .int x.b := e2
    subst e2
    refine ⟨_, rfl, p, _, _, _, rfl, rfl, SqT.of (sF _ _ hp), atI_nat (j := 0) rfl, a, xs, rfl, .inl (SqL.of (sF _ _ ha)), fun b nb => ?_⟩
    have g1 := g0.new (o := .lst xs) nb
    refine ⟨_, rfl, p, _, _, _, rfl, rfl, SqT.of (g1.fh _ _ (g1.ff _ _ hp)), atI_nat (j := 1) rfl, _, rfl, p, _, _, _, rfl, rfl, SqT.of (g1.fh _ _ (g1.ff _ _ hp)), atI_nat (j := 2) rfl, c, zs, rfl, .inl (SqL.of (g1.fh _ _ (g1.ff _ _ hc))), fun d nd => ⟨three_le, fun u nu => ?_⟩⟩
    have g2 := g1.new (o := .lst zs) nd
    have g3 := g2.new (o := .tup [.ref b, .int x.b, .ref d]) nu
    refine q _ _ (.ref u) g3 ⟨u, _, _, _, rfl, upd_same, ⟨b, xs, rfl, ?_, IsAll.up hxs g3.ff⟩, rfl, ⟨d, zs, rfl, ?_, IsAll.up hzs g3.ff⟩⟩
    · rw [upd_ne (ne_of_none (ln nd upd_same) nu), upd_ne (ne_of_none upd_same nd)]; exact upd_same
    · rw [upd_ne (ne_of_none upd_same nu)]; exact upd_same
/-! ### strips by runs -/
def laid (l : List PI) (s n : Int) : List PI := if n = 0 ∨ (l = [] ∧ s = 0) then l else match l with
  | [] => [⟨s, n⟩]
  | h :: r => if h.a = s then ⟨s, h.b + n⟩ :: r else ⟨s, n⟩ :: h :: r
def takn (l : List PI) : Int × List PI := match l with
  | [] => (0, [])
  | h :: r => if h.b = 1 then (h.a, r) else (h.a, ⟨h.a, h.b - 1⟩ :: r)
theorem laid_len {l : List PI} {s n : Int} : (laid l s n).length ≤ l.length + 1 := by
  unfold laid
  split
  · omega
  · split
    · simp
    · split <;> simp
theorem takn_len {l : List PI} : (takn l).2.length ≤ l.length := by
  unfold takn
  split
  · simp
  · split <;> simp
theorem laid_same {l : List PI} {s n : Int} (h : n = 0 ∨ (l = [] ∧ s = 0)) : laid l s n = l := by
  unfold laid
  rw [if_pos h]
theorem laid_nil {s n : Int} (h : ¬ n = 0) (k : ¬ s = 0) : laid [] s n = [⟨s, n⟩] := by
  unfold laid
  rw [if_neg (by rintro (z | z); exact h z; exact k z.2)]
theorem laid_cons {s n : Int} {x : PI} {r : List PI} (h : ¬ n = 0) : laid (x :: r) s n = if x.a = s then ⟨s, x.b + n⟩ :: r else ⟨s, n⟩ :: x :: r := by
  unfold laid
  rw [if_neg (by
    rintro (z | z)
    · exact h z
    · exact absurd z.1 (by simp))]
theorem laid_ok {S : Nat} {l : List PI} {s n : Int} (h : OkS S l) (h0 : 0 ≤ s) (h1 : s < S) (n1 : 1 ≤ n) : OkS S (laid l s n) := by
  have n0 : ¬ n = 0 := by omega
  cases l with
  | nil =>
    by_cases c : s = 0
    · rw [laid_same (.inr ⟨rfl, c⟩)]; exact h
    · rw [laid_nil n0 c]
      intro q z
      rw [List.mem_singleton.mp z]
      exact ⟨⟨h0, h1⟩, n1⟩
  | cons a r =>
    rw [laid_cons n0]
    have ha := h a (List.mem_cons_self ..)
    split
    · intro q z
      rcases List.mem_cons.mp z with rfl | z
      · exact ⟨⟨h0, h1⟩, by show 1 ≤ a.b + n; omega⟩
      · exact h q (List.mem_cons_of_mem _ z)
    · intro q z
      rcases List.mem_cons.mp z with rfl | z
      · exact ⟨⟨h0, h1⟩, n1⟩
      · exact h q z
theorem takn_ok {S : Nat} {l : List PI} (h : OkS S l) (S1 : 1 ≤ S) : OkS S (takn l).2 ∧ 0 ≤ (takn l).1 ∧ (takn l).1 < S := by
  cases l with
  | nil => exact ⟨OkS.nil, by show (0 : Int) ≤ 0; omega, by show (0 : Int) < S; omega⟩
  | cons a r =>
    unfold takn
    dsimp only
    have ha := h a (List.mem_cons_self ..)
    have hr : OkS S r := fun q z => h q (List.mem_cons_of_mem _ z)
    split
    · exact ⟨hr, ha.1.1, ha.1.2⟩
    · rename_i c
      refine ⟨fun q z => ?_, ha.1.1, ha.1.2⟩
      rcases List.mem_cons.mp z with rfl | z
      · exact ⟨ha.1, by show 1 ≤ a.b - 1; omega⟩
      · exact hr q z
theorem is_nil {F : Hp} {p : Addr} {α : Type} [Dat α] (h : F p = some (.lst [])) : Is F (.ref p) ([] : List α) := ⟨p, [], rfl, h, All2.nil⟩
theorem int_eq {a b : Int} : decide (V.int a = V.int b) = decide (a = b) := by
  by_cases h : a = b
  · subst h; simp
  · rw [decide_eq_false h, decide_eq_false fun e => h (V.int.inj e)]
/-! ### the program's strips by runs: the nearest ones last -/
theorem All2.snoc {α β : Type} {r : α → β → Prop} {xs : List α} {ys : List β} {y : β} (h : All2 r xs (ys ++ [y])) : ∃ xs' x, xs = xs' ++ [x] ∧ All2 r xs' ys ∧ r x y := by
  have l := h.1
  rw [List.length_append] at l
  have l : xs.length = ys.length + 1 := l
  have h1 := h.take ys.length
  have h2 := h.drop ys.length
  rw [List.take_left] at h1
  rw [List.drop_left] at h2
  cases e : xs.drop ys.length with
  | nil => rw [e] at h2; have := h2.1; simp at this
  | cons z zs =>
    rw [e] at h2
    have e3 : zs = [] := by
      have := h2.1
      simp at this
      exact this
    subst e3
    refine ⟨xs.take ys.length, z, ?_, h1, h2.2 0 z y rfl rfl⟩
    rw [← e, List.take_append_drop]
structure LsAt (F H : Hp) (a : Addr) (l : List PI) : Prop where
  h : ∃ xs, H a = some (.lst xs) ∧ IsAll F xs l.reverse
  f : F a = none
theorem LsAt.gr {mu : Addr → Prop} {F H F' H' : Hp} {a : Addr} {l : List PI} (x : LsAt F H a l) (g : Gr mu F H F' H') (m : ¬ mu a) : LsAt F' H' a l := by
  obtain ⟨⟨xs, h, i⟩, f⟩ := x
  exact ⟨⟨xs, g.fr _ _ h m, IsAll.up i g.ff⟩, g.pf0 f h⟩
theorem LsAt.is {F H : Hp} {a : Addr} {l : List PI} (x : LsAt F H a l) (s : Same F H) : Is H (.ref a) l.reverse := by
  obtain ⟨⟨xs, h, i⟩, f⟩ := x
  exact ⟨a, xs, rfl, h, IsAll.up i s⟩
theorem rev_nil_iff {l : List PI} : decide (l.reverse = []) = decide (l = []) := by
  cases l with
  | nil => rfl
  | cons x r => rw [decide_eq_false (by simp), decide_eq_false (by simp)]
def sp_put_run : Sp := fun vs H Q _ => ∃ (F : Hp) (a : Addr) (l : List PI) (s n : Int), vs = [.ref a, .int s, .int n] ∧ Same F H ∧ LsAt F H a l ∧ l.length ≤ 2000 ∧
  ∀ (F' H' : Hp), Gr (muP a) F H F' H' → LsAt F' H' a (laid l s n) → Q .non H'
theorem ok_put_run (t : Tx K mg) : FnOk P w K mg base CX0 1 t.a_put_run t.fd_put_run ["runs", "sign", "many"] sp_put_run := by
  refine t.F_put_run.ok sc_put_run (fun vs H Q E h => ?_) (fun cdv A outer s H vs Q E hr h => ?_)
  · obtain ⟨F, a, l, sg, n, rfl, _⟩ := h
    rfl
  · obtain ⟨F, a, l, sg, n, rfl, sF, hL, hl, q⟩ := h
    refine ⟨_, (pss_cons (ps_if (PW.pt (pw_or (pt_cmpR op_eq (pv 2) pe_int (nomark _)) (pw_or1 (PW.pt (pw_and (pt_cmpR (op_eqD hr.units) (pv 0) (pe_lst pa_nil) (nomark _)) (pw_and1 (pt_cmpR op_eq (pv 1) pe_int (nomark _)))))))) (pss_one ps_retN) pss_nil)
      (pss_cons (ps_if (PW.pt (pw_and (pt_cmpR (op_neD hr.units) (pv 0) (pe_lst pa_nil) (nomark _)) (pw_and1 (pt_cmpR op_eq (pe_ix ix_tup (pe_ix ix_list (pv 0) (pe_un un_neg pe_int) (fun _ _ => rfl)) pe_int (fun _ _ => rfl)) (pv 1) (nomark _))))) (pss_one (ps_aug (i := 2) sc_put_run.nd rfl (by first | exact Or.inl rfl | exact Or.inr rfl) (pe_ix ix_tup (pe_bm0 PySem.F.plainAttrs_list PySem.F.slot_list_pop PySem.F.type_list_pop mt_pop (pv 0)) pe_int (fun _ _ => rfl)) ip_add)) pss_nil)
      (pss_one (ps_expr (pe_bm PySem.F.plainAttrs_list PySem.F.slot_list_append PySem.F.type_list_append mt_append (pv 0) (pa_cons (pe_tup (pa_cons (pv 1) (pa_cons (pv 2) pa_nil))) pa_nil)))))), ?_⟩
    have g0 : Gr (muP a) F H F H := Gr.refl sF
    refine ⟨_, rfl, rfl, _, rfl, ?_⟩
    rw [int_eq]
    refine ite2 (fun c => ifT rfl ?_) (fun c => ?_)
    · exact q F H g0 (by rw [laid_same (.inl (of_decide_eq_true c))]; exact hL)
    have n0 : ¬ n = 0 := fun z => c (decide_eq_true z)
    refine ⟨_, rfl, nil_le, fun e1 ne1 => ?_⟩
    have g1 := g0.own (o := .lst []) ne1
    have ae1 : a ≠ e1 := by obtain ⟨⟨xs, h, i⟩, f⟩ := hL; exact ne_of_none h ne1
    have hL1 : LsAt F (upd H e1 (.lst [])) a l := hL.gr ((Gr.refl (mu := mu0) sF).own ne1) fun z => z
    refine eq_dat (a := l.reverse) (b := ([] : List PI)) (hL1.is g1.fh) (is_nil upd_same) ⟨_, rfl, ?_⟩
    generalize upd H e1 (.lst []) = H1 at g1 hL1 ⊢
    have fin : ∀ {F2 H2 : Hp} {xs : List V} {t : Addr} {l2 : List PI} {x : PI}, Gr (muP a) F H F2 H2 → H2 t = none → H2 a = some (.lst xs) → IsAll F2 xs l2.reverse → F2 a = none →
        ∀ (m : Int), x = ⟨sg, m⟩ → ∃ F3, Gr (muP a) F H F3 (upd (upd H2 t (.tup [.int sg, .int m])) a (.lst (xs ++ [.ref t]))) ∧ LsAt F3 (upd (upd H2 t (.tup [.int sg, .int m])) a (.lst (xs ++ [.ref t]))) a (x :: l2) := by
      intro F2 H2 xs t l2 x g nt h i f m e
      have g2 := g.new (o := .tup [.int sg, .int m]) nt
      have at' : a ≠ t := ne_of_none h nt
      have fa : (upd F2 t (.tup [.int sg, .int m])) a = none := by rw [upd_ne at']; exact f
      have s2 : Same F2 (upd F2 t (.tup [.int sg, .int m])) := sm_new (Same.refl F2) (g.fh.free nt)
      refine ⟨_, g2.set fa (.inr rfl), ⟨⟨_, upd_same, ?_⟩, fa⟩⟩
      rw [List.reverse_cons, e]
      exact (IsAll.up i s2).app (All2.one ⟨t, _, _, rfl, upd_same, rfl, rfl⟩)
    cases l with
    | nil =>
      refine ifT (decide_eq_true rfl) ⟨_, rfl, rfl, _, rfl, ?_⟩
      rw [int_eq]
      refine ite2 (fun c => ?_) (fun c => ?_)
      · exact q F _ g1 (by rw [laid_same (.inr ⟨rfl, of_decide_eq_true c⟩)]; exact hL1)
      · have s0 : ¬ sg = 0 := fun z => c (decide_eq_true z)
        refine ⟨_, rfl, nil_le, fun e2 ne2 => ?_⟩
        have g2 := g1.own (o := .lst []) ne2
        have hL2 : LsAt F (upd H1 e2 (.lst [])) a [] := hL1.gr ((Gr.refl (mu := mu0) g1.fh).own ne2) fun z => z
        refine ne_dat (a := ([] : List PI)) (b := ([] : List PI)) (hL2.is g2.fh) (is_nil upd_same) ⟨_, rfl, ifF (by simp) (ifF rfl ?_)⟩
        generalize upd H1 e2 (.lst []) = H2 at g2 hL2 ⊢
        obtain ⟨⟨xs, h, i⟩, f⟩ := hL2
        refine ⟨_, rfl, .inl ⟨rfl, _, SqL.of h⟩, _, rfl, _, rfl, two_le, fun t nt => ⟨a, _, _, rfl, rfl, ln nt h, by rw [i.1]; exact lt_size (by simp), ?_⟩⟩
        obtain ⟨F3, g3, k3⟩ := fin (t := t) (l2 := []) g2 nt h i f n rfl
        exact q F3 _ g3 (by rw [laid_nil n0 s0]; exact k3)
    | cons x r =>
      refine ifF (by rw [rev_nil_iff]; rfl) (ifF rfl ?_)
      refine ⟨_, rfl, nil_le, fun e2 ne2 => ?_⟩
      have g2 := g1.own (o := .lst []) ne2
      have hL2 : LsAt F (upd H1 e2 (.lst [])) a (x :: r) := hL1.gr ((Gr.refl (mu := mu0) g1.fh).own ne2) fun z => z
      refine ne_dat (a := (x :: r).reverse) (b := ([] : List PI)) (hL2.is g2.fh) (is_nil upd_same) ⟨_, rfl, ifT (by rw [rev_nil_iff]; rfl) ?_⟩
      generalize upd H1 e2 (.lst []) = H2 at g2 hL2 ⊢
      obtain ⟨⟨xs, h, i⟩, f⟩ := hL2
      have i' := i
      rw [List.reverse_cons] at i'
      obtain ⟨ys, y, rfl, iy, p, y1, y2, rfl, hp, e1', e2'⟩ := i'.snoc
      have e1' : y1 = .int x.a := e1'
      have e2' : y2 = .int x.b := e2'
      subst e1'
      subst e2'
      refine ⟨_, rfl, _, rfl, a, _, _, _, rfl, rfl, SqL.of h, atI_last _ _, p, _, _, _, rfl, rfl, SqT.of (g2.fh _ _ hp), atI_nat (j := 0) rfl, _, rfl, rfl, _, rfl, ?_⟩
      rw [int_eq]
      refine ite2 (fun c => ?_) (fun c => ?_)
      · have c := of_decide_eq_true c
        refine ⟨_, rfl, _, rfl, .inl ⟨rfl, _, SqL.of h⟩, a, _, .ref p, rfl, rfl, h, (by simp), ?_⟩
        rw [List.dropLast_concat]
        have g3 := g2.set (o := .lst ys) f (.inr rfl)
        refine ⟨p, _, _, _, rfl, rfl, SqT.of (g3.fh _ _ hp), atI_nat (j := 1) rfl, _, _, rfl, rfl, ?_⟩
        have h3 : (upd H2 a (.lst ys)) a = some (.lst ys) := upd_same
        refine ⟨_, rfl, .inl ⟨rfl, _, SqL.of h3⟩, _, rfl, _, rfl, two_le, fun t nt => ⟨a, _, _, rfl, rfl, ln nt h3, by rw [iy.1, List.length_reverse]; exact lt_size (by simp at hl; omega), ?_⟩⟩
        obtain ⟨F3, g4, k3⟩ := fin (t := t) (l2 := r) g3 nt h3 iy f (n + x.b) rfl
        refine q F3 _ g4 ?_
        rw [laid_cons n0, if_pos c, Int.add_comm x.b n]
        exact k3
      · have c : ¬ x.a = sg := fun z => c (decide_eq_true z)
        refine ⟨_, rfl, .inl ⟨rfl, _, SqL.of h⟩, _, rfl, _, rfl, two_le, fun t nt => ⟨a, _, _, rfl, rfl, ln nt h, by rw [i.1, List.length_reverse]; exact lt_size (by simp at hl ⊢; omega), ?_⟩⟩
        obtain ⟨F3, g4, k3⟩ := fin (t := t) (l2 := x :: r) g2 nt h i f n rfl
        refine q F3 _ g4 ?_
        rw [laid_cons n0, if_neg c]
        exact k3
def sp_taken : Sp := fun vs H Q _ => ∃ (F : Hp) (a : Addr) (l : List PI), vs = [.ref a] ∧ Same F H ∧ LsAt F H a l ∧ l.length ≤ 2000 ∧ (∀ q ∈ l, 1 ≤ q.b) ∧
  ∀ (F' H' : Hp), Gr (muP a) F H F' H' → LsAt F' H' a (takn l).2 → Q (.int (takn l).1) H'
theorem ok_taken (t : Tx K mg) : FnOk P w K mg base CX0 1 t.a_taken t.fd_taken ["runs"] sp_taken := by
  refine t.F_taken.ok sc_taken (fun vs H Q E h => ?_) (fun cdv A outer s H vs Q E hr h => ?_)
  · obtain ⟨F, a, l, rfl, _⟩ := h
    rfl
  · obtain ⟨F, a, l, rfl, sF, hL, hl, hp1, q⟩ := h
    refine ⟨_, (pss_cons (ps_if (pt_cmpR (op_eqD hr.units) (pv 0) (pe_lst pa_nil) (nomark _)) (pss_one (ps_ret pe_int)) pss_nil)
      (pss_cons (ps_asg (pe_bm0 PySem.F.plainAttrs_list PySem.F.slot_list_pop PySem.F.type_list_pop mt_pop (pv 0)) (pg_tup rfl (pgs_cons (pg_name (i := 1) sc_taken.nd rfl (by first | exact Or.inl rfl | exact Or.inr rfl)) (pgs_cons (pg_name (i := 2) sc_taken.nd rfl (by first | exact Or.inl rfl | exact Or.inr rfl)) pgs_nil))))
      (pss_cons (ps_if (pt_cmpR op_gt (pv 2) pe_int (nomark _)) (pss_one (ps_expr (pe_bm PySem.F.plainAttrs_list PySem.F.slot_list_append PySem.F.type_list_append mt_append (pv 0) (pa_cons (pe_tup (pa_cons (pv 1) (pa_cons (pe_op op_sub (pv 2) pe_int) pa_nil))) pa_nil)))) pss_nil)
      (pss_one (ps_ret (pv 1)))))), ?_⟩
    have g0 : Gr (muP a) F H F H := Gr.refl sF
    refine ⟨_, rfl, nil_le, fun e1 ne1 => ?_⟩
    have g1 := g0.own (o := .lst []) ne1
    have hL1 : LsAt F (upd H e1 (.lst [])) a l := hL.gr ((Gr.refl (mu := mu0) sF).own ne1) fun z => z
    refine eq_dat (a := l.reverse) (b := ([] : List PI)) (hL1.is g1.fh) (is_nil upd_same) ⟨_, rfl, ?_⟩
    generalize upd H e1 (.lst []) = H1 at g1 hL1 ⊢
    cases l with
    | nil => exact ifT (decide_eq_true rfl) (q F H1 g1 hL1)
    | cons x r =>
      refine ifF (by rw [rev_nil_iff]; rfl) ?_
      obtain ⟨⟨xs, h, i⟩, f⟩ := hL1
      rw [List.reverse_cons] at i
      obtain ⟨ys, y, rfl, iy, p, y1, y2, rfl, hp, e1', e2'⟩ := i.snoc
      have e1' : y1 = .int x.a := e1'
      have e2' : y2 = .int x.b := e2'
      subst e1'
      subst e2'
      have xb := hp1 x (List.mem_cons_self ..)
      refine ⟨_, rfl, .inl ⟨rfl, _, SqL.of h⟩, a, _, .ref p, rfl, rfl, h, (by simp), ?_⟩
      rw [List.dropLast_concat]
      have g3 := g1.set (o := .lst ys) f (.inr rfl)
      have h3 : (upd H1 a (.lst ys)) a = some (.lst ys) := upd_same
      refine ⟨p, _, rfl, SqT.of (g3.fh _ _ hp), rfl, _, _, rfl, _, _, rfl, rfl, _, rfl, _, _, rfl, rfl, _, rfl, ?_⟩
      refine ite2 (fun c => ?_) (fun c => ?_)
      · have c := of_decide_eq_true c
        have et : takn (x :: r) = (x.a, ⟨x.a, x.b - 1⟩ :: r) := by
          unfold takn
          exact if_neg (by omega)
        refine ⟨_, rfl, .inl ⟨rfl, _, SqL.of h3⟩, _, rfl, _, rfl, _, _, rfl, rfl, two_le, fun t nt => ⟨a, _, _, rfl, rfl, ln nt h3, by rw [iy.1, List.length_reverse]; exact lt_size (by simp at hl; omega), ?_⟩⟩
        have g4 := g3.new (o := .tup [.int x.a, .int (x.b - 1)]) nt
        have at' : a ≠ t := ne_of_none h3 nt
        have fa : (upd F t (.tup [.int x.a, .int (x.b - 1)])) a = none := by rw [upd_ne at']; exact f
        have s2 : Same F (upd F t (.tup [.int x.a, .int (x.b - 1)])) := sm_new (Same.refl F) (g3.fh.free nt)
        have z := q _ _ (g4.set (o := .lst (ys ++ [.ref t])) fa (.inr rfl)) (by
          rw [et]
          refine ⟨⟨_, upd_same, ?_⟩, fa⟩
          rw [List.reverse_cons]
          exact (IsAll.up iy s2).app (All2.one ⟨t, _, _, rfl, upd_same, rfl, rfl⟩))
        rw [et] at z
        exact ⟨_, rfl, z⟩
      · have c : ¬ 1 < x.b := fun z => c (decide_eq_true z)
        have et : takn (x :: r) = (x.a, r) := by
          unfold takn
          exact if_pos (by omega)
        have z := q F _ g3 (by rw [et]; exact ⟨⟨ys, h3, iy⟩, f⟩)
        rw [et] at z
        exact ⟨_, rfl, z⟩
/-! ### words -/
/-- a text that may stand in a datum -/
structure TStr where
  x : Str
  ok : PyData.strOk x = true
  deriving DecidableEq
instance : Dat TStr where
  rep := fun _ v d => v = .str d.x
  mono := fun _ h => h
  py := fun d => .str d.x
  dp := fun h => h ▸ .str _
  can := fun d => d.ok
  dep := 0
  depth := fun _ => Nat.le_refl _
  eqv := fun a b => by
    obtain ⟨a, _⟩ := a; obtain ⟨b, _⟩ := b
    simp [PyData.eqv]
/-! ### four -/
structure T4 (α β γ δ : Type) where
  a : α
  b : β
  c : γ
  d : δ
  deriving DecidableEq
instance [Dat α] [Dat β] [Dat γ] [Dat δ] : Dat (T4 α β γ δ) where
  rep := fun H v d => ∃ p x y z w, v = .ref p ∧ H p = some (.tup [x, y, z, w]) ∧ Is H x d.a ∧ Is H y d.b ∧ Is H z d.c ∧ Is H w d.d
  mono := fun s h => by
    obtain ⟨p, x, y, z, w, e, h, i, j, k, l⟩ := h
    exact ⟨p, x, y, z, w, e, s _ _ h, Is.up i s, Is.up j s, Is.up k s, Is.up l s⟩
  py := fun d => .tuple [Dat.py d.a, Dat.py d.b, Dat.py d.c, Dat.py d.d]
  dp := fun h => by
    obtain ⟨p, x, y, z, w, rfl, h, i, j, k, l⟩ := h
    exact .tup (SqT.of h) (.cons (Dat.dp i) (.cons (Dat.dp j) (.cons (Dat.dp k) (.cons (Dat.dp l) .nil))))
  can := fun d => by
    show (PyData.canLay0 (Dat.py d.a) && (PyData.canLay0 (Dat.py d.b) && (PyData.canLay0 (Dat.py d.c) && (PyData.canLay0 (Dat.py d.d) && true)))) = true
    rw [Dat.can, Dat.can, Dat.can, Dat.can]; rfl
  dep := max (Dat.dep α) (max (Dat.dep β) (max (Dat.dep γ) (Dat.dep δ))) + 1
  depth := fun d => by
    have h1 := Dat.depth d.a
    have h2 := Dat.depth d.b
    have h3 := Dat.depth d.c
    have h4 := Dat.depth d.d
    show max (PyData.depth (Dat.py d.a)) (max (PyData.depth (Dat.py d.b)) (max (PyData.depth (Dat.py d.c)) (max (PyData.depth (Dat.py d.d)) 0))) + 1 ≤ _
    omega
  eqv := fun a b => by
    obtain ⟨a, a', a'', a3⟩ := a; obtain ⟨b, b', b'', b3⟩ := b
    simp [PyData.eqv, PyData.eqvAll, Dat.eqv]
/-! ### five -/
structure T5 (α β γ δ ε : Type) where
  a : α
  b : β
  c : γ
  d : δ
  e : ε
  deriving DecidableEq
instance [Dat α] [Dat β] [Dat γ] [Dat δ] [Dat ε] : Dat (T5 α β γ δ ε) where
  rep := fun H v q => ∃ p x1 x2 x3 x4 x5, v = .ref p ∧ H p = some (.tup [x1, x2, x3, x4, x5]) ∧ Is H x1 q.a ∧ Is H x2 q.b ∧ Is H x3 q.c ∧ Is H x4 q.d ∧ Is H x5 q.e
  mono := fun s h => by
    obtain ⟨p, x1, x2, x3, x4, x5, e, h, i1, i2, i3, i4, i5⟩ := h
    exact ⟨p, x1, x2, x3, x4, x5, e, s _ _ h, Is.up i1 s, Is.up i2 s, Is.up i3 s, Is.up i4 s, Is.up i5 s⟩
  py := fun q => .tuple [Dat.py q.a, Dat.py q.b, Dat.py q.c, Dat.py q.d, Dat.py q.e]
  dp := fun h => by
    obtain ⟨p, x1, x2, x3, x4, x5, rfl, h, i1, i2, i3, i4, i5⟩ := h
    exact .tup (SqT.of h) (.cons (Dat.dp i1) (.cons (Dat.dp i2) (.cons (Dat.dp i3) (.cons (Dat.dp i4) (.cons (Dat.dp i5) .nil)))))
  can := fun q => by
    show (PyData.canLay0 (Dat.py q.a) && (PyData.canLay0 (Dat.py q.b) && (PyData.canLay0 (Dat.py q.c) && (PyData.canLay0 (Dat.py q.d) && (PyData.canLay0 (Dat.py q.e) && true))))) = true
    rw [Dat.can, Dat.can, Dat.can, Dat.can, Dat.can]; rfl
  dep := max (Dat.dep α) (max (Dat.dep β) (max (Dat.dep γ) (max (Dat.dep δ) (Dat.dep ε)))) + 1
  depth := fun q => by
    have h1 := Dat.depth q.a
    have h2 := Dat.depth q.b
    have h3 := Dat.depth q.c
    have h4 := Dat.depth q.d
    have h5 := Dat.depth q.e
    show max (PyData.depth (Dat.py q.a)) (max (PyData.depth (Dat.py q.b)) (max (PyData.depth (Dat.py q.c)) (max (PyData.depth (Dat.py q.d)) (max (PyData.depth (Dat.py q.e)) 0)))) + 1 ≤ _
    omega
  eqv := fun a b => by
    obtain ⟨a1, a2, a3, a4, a5⟩ := a; obtain ⟨b1, b2, b3, b4, b5⟩ := b
    simp [PyData.eqv, PyData.eqvAll, Dat.eqv]
/-! ### an entry -/
def entAt (M : Mach) (r s : Int) : Ent := (((M[r.toNat]?).getD [])[s.toNat]?).getD .emp
theorem ent_of {M : Mach} {R S : Nat} (h : MOk M R S) {r s : Int} (r0 : 0 ≤ r) (r1 : r < R) (s0 : 0 ≤ s) (s1 : s < S) : ∃ row, M[r.toNat]? = some row ∧ row[s.toNat]? = some (entAt M r s) ∧ EOk R S (entAt M r s) := by
  have hr : r.toNat < M.length := by rw [h.len]; omega
  have e1 : M[r.toNat]? = some M[r.toNat] := List.getElem?_eq_getElem hr
  have hs : s.toNat < (M[r.toNat]).length := by rw [h.row _ (List.getElem_mem hr)]; omega
  have e2 : (M[r.toNat])[s.toNat]? = some (M[r.toNat])[s.toNat] := List.getElem?_eq_getElem hs
  have e3 : entAt M r s = (M[r.toNat])[s.toNat] := by
    unfold entAt
    rw [e1]
    show ((M[r.toNat])[s.toNat]?).getD Ent.emp = _
    rw [e2]; rfl
  exact ⟨_, e1, by rw [e3]; exact e2, by rw [e3]; exact h.ent _ (List.getElem_mem hr) _ (List.getElem_mem hs)⟩
def tEnd : TStr := ⟨"end", by decide +kernel⟩
/-! ### out of a block -/
def tOut : TStr := ⟨"out", by decide +kernel⟩
def tStay : TStr := ⟨"stay", by decide +kernel⟩
/-! ### strides, gone through -/
structure Sk where
  l : List PI
  r : List PI
  s : Int
  row : Int
  st : Int
def Sk.ah (k : Sk) (b : Bool) : List PI := if b then k.r else k.l
def Sk.bh (k : Sk) (b : Bool) : List PI := if b then k.l else k.r
def eats (k : Sk) (b : Bool) (t : Int) : Bool := decide (t = k.row) && match k.ah b with
  | [] => false
  | h :: _ => decide (h.a = k.s)
def farOf (k : Sk) (b : Bool) (t : Int) : Int := if eats k b t then 1 + (match k.ah b with
  | [] => 0
  | h :: _ => h.b) else 1
def ahOf (k : Sk) (b : Bool) (t : Int) : List PI := if eats k b t then (k.ah b).drop 1 else k.ah b
def stepS (k : Sk) (b : Bool) (p t : Int) : Sk :=
  ⟨if b then laid (k.bh b) p (farOf k b t) else (takn (ahOf k b t)).2, if b then (takn (ahOf k b t)).2 else laid (k.bh b) p (farOf k b t), (takn (ahOf k b t)).1, t, k.st + farOf k b t⟩
def nevr (k : Sk) (b : Bool) (t : Int) : Bool := decide (t = k.row) && (decide (k.s = 0) && decide (k.ah b = []))
def tNev : TStr := ⟨"never", by decide +kernel⟩
def tOnn : TStr := ⟨"on", by decide +kernel⟩
def strd (M : Mach) : Nat → Sk → TStr × Sk
  | 0, k => (tOnn, k)
  | n + 1, k => match entAt M k.row k.s with
    | .emp => (tEnd, k)
    | .go p w t => if nevr k (decide (w = 1)) t = true then (tNev, k) else strd M n (if n = 0 then k else stepS k (decide (w = 1)) p t)
structure OkK (R S : Nat) (k : Sk) : Prop where
  l : OkS S k.l
  r : OkS S k.r
  s0 : 0 ≤ k.s
  s1 : k.s < S
  r0 : 0 ≤ k.row
  r1 : k.row < R
theorem OkK.ah {R S : Nat} {k : Sk} (h : OkK R S k) (b : Bool) : OkS S (k.ah b) := by
  cases b
  · exact h.l
  · exact h.r
theorem OkK.bh {R S : Nat} {k : Sk} (h : OkK R S k) (b : Bool) : OkS S (k.bh b) := by
  cases b
  · exact h.r
  · exact h.l
theorem OkS.drop {S : Nat} {l : List PI} (h : OkS S l) : OkS S (l.drop 1) := fun q z => h q (List.mem_of_mem_drop z)
theorem far_pos {R S : Nat} {k : Sk} (h : OkK R S k) (b : Bool) (t : Int) : 1 ≤ farOf k b t := by
  unfold farOf
  split
  · have z := h.ah b
    cases e : k.ah b with
    | nil => simp
    | cons x r =>
      rw [e] at z
      have := (z x (List.mem_cons_self ..)).2
      show 1 ≤ 1 + x.b
      omega
  · omega
theorem ahOf_ok {R S : Nat} {k : Sk} (h : OkK R S k) (b : Bool) (t : Int) : OkS S (ahOf k b t) := by
  unfold ahOf
  split
  · exact (h.ah b).drop
  · exact h.ah b
theorem OkK.step {R S : Nat} {k : Sk} (h : OkK R S k) (b : Bool) {p t : Int} (S1 : 1 ≤ S) (p0 : 0 ≤ p) (p1 : p < S) (t0 : 0 ≤ t) (t1 : t < R) : OkK R S (stepS k b p t) := by
  have z := takn_ok (ahOf_ok h b t) S1
  have y := laid_ok (h.bh b) p0 p1 (far_pos h b t)
  cases b
  · exact ⟨z.1, y, z.2.1, z.2.2, t0, t1⟩
  · exact ⟨y, z.1, z.2.1, z.2.2, t0, t1⟩
def LenK (k : Sk) (n : Nat) : Prop := k.l.length ≤ n ∧ k.r.length ≤ n
theorem LenK.ah {k : Sk} {n : Nat} (h : LenK k n) (b : Bool) : (k.ah b).length ≤ n := by
  cases b
  · exact h.1
  · exact h.2
theorem LenK.bh {k : Sk} {n : Nat} (h : LenK k n) (b : Bool) : (k.bh b).length ≤ n := by
  cases b
  · exact h.2
  · exact h.1
theorem ahOf_len {k : Sk} {b : Bool} {t : Int} : (ahOf k b t).length ≤ (k.ah b).length := by
  unfold ahOf
  split
  · rw [List.length_drop]; omega
  · omega
theorem LenK.step {k : Sk} {n : Nat} (h : LenK k n) (b : Bool) {p t : Int} : LenK (stepS k b p t) (n + 1) := by
  have x := @takn_len (ahOf k b t)
  have y := @laid_len (k.bh b) p (farOf k b t)
  have z := @ahOf_len k b t
  have a := h.ah b
  have c := h.bh b
  cases b
  · exact ⟨by show (takn _).2.length ≤ _; omega, by show (laid _ _ _).length ≤ _; omega⟩
  · exact ⟨by show (laid _ _ _).length ≤ _; omega, by show (takn _).2.length ≤ _; omega⟩
/-! two sides: ahead, behind -/
def sd (b : Bool) (x y : V) : List V := [if b then y else x, if b then x else y]
theorem sd_mk (b : Bool) (v w : V) : [v, w] = sd b (if b then w else v) (if b then v else w) := by cases b <;> rfl
theorem sd_at {b : Bool} {x y : V} : atI (sd b x y) (if b = true then 1 else 0) = some x := by cases b <;> rfl
theorem sd_bt {b : Bool} {x y : V} : atI (sd b x y) (1 - (if b = true then 1 else 0)) = some y := by cases b <;> rfl
theorem sd_ia {b : Bool} {x y : V} : ixN (sd b x y).length (if b = true then 1 else 0) = some (if b = true then 1 else 0) := by cases b <;> rfl
theorem sd_ib {b : Bool} {x y : V} : ixN (sd b x y).length (1 - (if b = true then 1 else 0)) = some (if b = true then 0 else 1) := by cases b <;> rfl
theorem sd_sa {b : Bool} {x y z : V} : (sd b x y).set (if b = true then 1 else 0) z = sd b z y := by cases b <;> rfl
theorem sd_sb {b : Bool} {x y z : V} : (sd b x y).set (if b = true then 0 else 1) z = sd b x z := by cases b <;> rfl
theorem Ow.sdb {H F H1 : Hp} {q : Addr} {b : Bool} {x y : V} (w : Ow H F H1 q (.lst (sd b x y))) (z : V) : Ow H F (upd H1 q (.lst (sd b x z))) q (.lst (sd b x z)) := w.set
theorem Gr.sdb {mu : Addr → Prop} {H0 H F H1 : Hp} {q : Addr} {b : Bool} {x y : V} (g : Gr mu H0 H F H1) (w : Ow H F H1 q (.lst (sd b x y))) (z : V) : Gr mu H0 H F (upd H1 q (.lst (sd b x z))) := g.set w.f (.inl w.n)
abbrev Res4 := T4 TStr Int Int Rs
def resOf (z : TStr × Sk) : Res4 := ⟨z.1, z.2.st, z.2.row, ⟨z.2.l.reverse, z.2.s, z.2.r⟩⟩
theorem is_ah {F : Hp} {v0 v1 : V} {k : Sk} (h0 : Is F v0 k.l) (h1 : Is F v1 k.r) (b : Bool) : Is F (if b = true then v1 else v0) (k.ah b) ∧ Is F (if b = true then v0 else v1) (k.bh b) := by
  cases b
  · exact ⟨h0, h1⟩
  · exact ⟨h1, h0⟩
def k0Of (x : Rs) (row : Int) : Sk := ⟨x.a.reverse, x.c, x.b, row, 0⟩
/-! ### the program's strip -/
def sdD (a b : Addr) : List (Key × V) := [(Sum.inl (-1), .ref a), (Sum.inl 1, .ref b)]
theorem sd_dg {H : Hp} {d a b : Addr} (h : H d = some (.dK (sdD a b))) {w : Int} (hw : w = -1 ∨ w = 1) : DGet H d (.int w) (some (.ref (if decide (w = 1) = true then b else a))) := by
  rcases hw with rfl | rfl
  · exact DGet.k (k := Sum.inl (-1)) h
  · exact DGet.k (k := Sum.inl 1) h
theorem sd_dgn {H : Hp} {d a b : Addr} (h : H d = some (.dK (sdD a b))) {w : Int} (hw : w = -1 ∨ w = 1) : DGet H d (.int (-w)) (some (.ref (if decide (w = 1) = true then a else b))) := by
  rcases hw with rfl | rfl
  · exact DGet.k (k := Sum.inl 1) h
  · exact DGet.k (k := Sum.inl (-1)) h
structure StAt (C : Addr) (F H : Hp) (o d a b : Addr) (k : Sk) : Prop where
  ob : ∃ dx, H o = some (.ins C dx (Strip_F (.ref d) (.int k.s) (.int k.row) (.int k.st)))
  dd : F d = some (.dK (sdD a b))
  la : LsAt F H a k.l
  lb : LsAt F H b k.r
  fo : F o = none
  ab : a ≠ b
theorem LsAt.ne {F H : Hp} {a o : Addr} {l : List PI} {C dx : Addr} {fs : List (Str × V)} (x : LsAt F H a l) (h : H o = some (.ins C dx fs)) : a ≠ o := by
  obtain ⟨⟨xs, h1, _⟩, _⟩ := x
  exact ne_of h1 h (by intro z; cases z)
abbrev muS (o a b : Addr) : Addr → Prop := fun c => c = o ∨ c = a ∨ c = b
theorem StAt.gr {mu : Addr → Prop} {C : Addr} {F H F' H' : Hp} {o d a b : Addr} {k : Sk} (x : StAt C F H o d a b k) (g : Gr mu F H F' H') (m : ∀ c, mu c → c ≠ o ∧ c ≠ a ∧ c ≠ b) : StAt C F' H' o d a b k := by
  obtain ⟨⟨dx, ho⟩, dd, la, lb, fo, ab⟩ := x
  exact ⟨⟨dx, g.fr _ _ ho fun z => (m _ z).1 rfl⟩, g.ff _ _ dd, la.gr g fun z => (m _ z).2.1 rfl, lb.gr g fun z => (m _ z).2.2 rfl, g.pf0 fo ho, ab⟩
theorem merge_sd {a b : Addr} : mergeK [] [(Sum.inl (-1), V.ref a), (Sum.inl 1, V.ref b)] = sdD a b := rfl
def sp_Strip_init (C : Addr) : Sp := fun vs H Q _ => ∃ (F : Hp) (g dx : Addr) (v : V) (x : Rs) (row : Int), vs = [.ref g, .int row, v] ∧ H g = some (.ins C dx []) ∧ F g = none ∧ Same F H ∧ Is F v x ∧
  ∀ (F' H' : Hp) (d a b : Addr), Gr (muP g) F H F' H' → H d = none → H a = none → H b = none → StAt C F' H' g d a b (k0Of x row) → Q .non H'
theorem ok_Strip_init (t : Tx K mg) : FnOk P w K mg base CX0 1 t.a_Strip_init t.fd_Strip_init ["self", "row", "runs"] (sp_Strip_init t.C_Strip) := by
  refine t.F_Strip_init.ok sc_Strip_init (fun vs H Q E h => ?_) (fun cdv A outer s H vs Q E hr h => ?_)
  · obtain ⟨F, g, dx, v, x, row, rfl, _⟩ := h
    rfl
  · obtain ⟨F, g, dx, v, x, row, rfl, hg, fg, sF, hv, q⟩ := h
    refine ⟨_, (pss_cons (ps_asg (pv 2) (pg_tup rfl (pgs_cons (pg_name (i := 3) sc_Strip_init.nd rfl (by first | exact Or.inl rfl | exact Or.inr rfl)) (pgs_cons (pg_name (i := 4) sc_Strip_init.nd rfl (by first | exact Or.inl rfl | exact Or.inr rfl)) (pgs_cons (pg_name (i := 5) sc_Strip_init.nd rfl (by first | exact Or.inl rfl | exact Or.inr rfl)) pgs_nil)))))
      (pss_cons (ps_fld (pv 0) (pe_disp (pps_cons (pe_un un_neg pe_int) (pe_callTy (T := "list") call_listQ (by rfl) t.n_list (by decide +kernel) (pa_cons (pv 3) pa_nil)) (pps_cons pe_int (pe_revL (pv 5)) pps_nil)) (by rfl) (by rfl) (fun z => by cases z) (by decide)) rfl)
      (pss_cons (ps_fld (pv 0) (pv 4) rfl)
      (pss_cons (ps_fld (pv 0) (pv 1) rfl)
      (pss_one (ps_fld (pv 0) pe_int rfl)))))), ?_⟩
    obtain ⟨p, x1, x2, x3, rfl, hp, ⟨a0, xs, rfl, ha, hxs⟩, e2, ⟨c0, zs, rfl, hc, hzs⟩⟩ := hv
    have e2 : x2 = .int x.b := e2
    subst e2
    have g0 : Gr (muP g) F H F H := Gr.refl sF
    refine ⟨_, rfl, p, _, rfl, SqT.of (sF _ _ hp), rfl, _, _, rfl, _, _, rfl, _, _, rfl, rfl, ?_⟩
    refine fun d nd => ?_
    have gd : g ≠ d := ne_of_none hg nd
    have g1 := g0.own (o := .dK []) nd
    have w1 : Ow H F (upd H d (.dK [])) d (.dK []) := Ow.mk1 g0 nd
    have hg1 := ln (u := .dK []) nd hg
    generalize upd H d (.dK []) = H1 at g1 w1 hg1 ⊢
    refine ⟨_, rfl, _, rfl, a0, xs, rfl, .inl (SqL.of (g1.fh _ _ ha)), fun a na => ?_⟩
    have g2 := g1.own (o := .lst xs) na
    have w2 := w1.own (u := .lst xs) na
    have wa2 : Ow H F (upd H1 a (.lst xs)) a (.lst xs) := Ow.mk1 g1 na
    have hg2 := ln (u := .lst xs) na hg1
    have ga : g ≠ a := ne_of_none hg1 na
    have da : d ≠ a := w1.ne na
    generalize upd H1 a (.lst xs) = H2 at g2 w2 wa2 hg2 ⊢
    refine ⟨_, rfl, c0, zs, rfl, SqL.of (g2.fh _ _ hc), fun b nb => ?_⟩
    have g3 := g2.own (o := .lst zs.reverse) nb
    have w3 := w2.own (u := .lst zs.reverse) nb
    have wa3 := wa2.own (u := .lst zs.reverse) nb
    have wb3 : Ow H F (upd H2 b (.lst zs.reverse)) b (.lst zs.reverse) := Ow.mk1 g2 nb
    have hg3 := ln (u := .lst zs.reverse) nb hg2
    have gb : g ≠ b := ne_of_none hg2 nb
    have db : d ≠ b := w2.ne nb
    have ab : a ≠ b := wa2.ne nb
    generalize upd H2 b (.lst zs.reverse) = H3 at g3 w3 wa3 wb3 hg3 ⊢
    refine ⟨w3.h, [(Sum.inl (-1), .ref a), (Sum.inl 1, .ref b)], rfl, (by show 2 ≤ 15; decide), ?_⟩
    rw [merge_sd]
    have g4 := g3.set (o := .dK (sdD a b)) w3.f (.inl w3.n)
    have w4 := w3.set (u := .dK (sdD a b))
    have wa4 := wa3.other (u := .dK (sdD a b)) (Ne.symm da)
    have wb4 := wb3.other (u := .dK (sdD a b)) (Ne.symm db)
    have hg4 : (upd H3 d (.dK (sdD a b))) g = some (.ins t.C_Strip dx []) := by rw [upd_ne gd]; exact hg3
    generalize upd H3 d (.dK (sdD a b)) = H4 at g4 w4 wa4 wb4 hg4 ⊢
    have g5 := g4.frz w4.h w4.n w4.f
    have wa5 := wa4.frz' (u := .dK (sdD a b)) (Ne.symm da)
    have wb5 := wb4.frz' (u := .dK (sdD a b)) (Ne.symm db)
    have fg5 : (upd F d (.dK (sdD a b))) g = none := by rw [upd_ne gd]; exact fg
    have fd5 : (upd F d (.dK (sdD a b))) d = some (.dK (sdD a b)) := upd_same
    have s5 : Same F (upd F d (.dK (sdD a b))) := g5.ff
    have hxs5 := IsAll.up hxs s5
    have hzs5 := IsAll.up hzs s5
    generalize upd F d (.dK (sdD a b)) = F5 at g5 wa5 wb5 fg5 fd5 hxs5 hzs5
    refine ⟨_, rfl, g, t.C_Strip, dx, [], rfl, hg4, t.cl_Strip, t.nA_Strip_sides, by show 0 < 1000; decide, ?_⟩
    rw [Strip_mk0]
    have g6 := g5.set (o := .ins t.C_Strip dx [("sides", .ref d)]) fg5 (.inr rfl)
    refine ⟨_, rfl, _, rfl, g, t.C_Strip, dx, _, rfl, upd_same, t.cl_Strip, t.nA_Strip_sign, by show 1 < 1000; decide, ?_⟩
    rw [Strip_mk1]
    have g7 := g6.set (o := .ins t.C_Strip dx [("sides", .ref d), ("sign", .int x.b)]) fg5 (.inr rfl)
    refine ⟨_, rfl, _, rfl, g, t.C_Strip, dx, _, rfl, upd_same, t.cl_Strip, t.nA_Strip_row, by show 2 < 1000; decide, ?_⟩
    rw [Strip_mk2]
    have g8 := g7.set (o := .ins t.C_Strip dx [("sides", .ref d), ("sign", .int x.b), ("row", .int row)]) fg5 (.inr rfl)
    refine ⟨_, rfl, g, t.C_Strip, dx, _, rfl, upd_same, t.cl_Strip, t.nA_Strip_steps, by show 3 < 1000; decide, ?_⟩
    rw [Strip_mk3]
    have g9 := g8.set (o := .ins t.C_Strip dx [("sides", .ref d), ("sign", .int x.b), ("row", .int row), ("steps", .int 0)]) fg5 (.inr rfl)
    refine q F5 _ d a b g9 w3.n wa3.n wb3.n ⟨⟨dx, upd_same⟩, fd5, ⟨⟨xs, ?_, ?_⟩, wa5.f⟩, ⟨⟨zs.reverse, ?_, ?_⟩, wb5.f⟩, fg5, ab⟩
    · rw [upd_ne (Ne.symm ga), upd_ne (Ne.symm ga), upd_ne (Ne.symm ga), upd_ne (Ne.symm ga)]; exact wa5.h
    · show IsAll F5 xs x.a.reverse.reverse
      rw [List.reverse_reverse]; exact hxs5
    · rw [upd_ne (Ne.symm gb), upd_ne (Ne.symm gb), upd_ne (Ne.symm gb), upd_ne (Ne.symm gb)]; exact wb5.h
    · exact hzs5.rev
def sp_Strip_told (C : Addr) : Sp := fun vs H Q _ => ∃ (F : Hp) (o d a b : Addr) (k : Sk), vs = [.ref o] ∧ Same F H ∧ StAt C F H o d a b k ∧
  ∀ (F' H' : Hp) (t l1 l2 : Addr) (xs1 xs2 : List V), Gr mu0 F H F' H' → F' t = some (.tup [.ref l1, .int k.s, .ref l2]) → Ow H F' H' l1 (.lst xs1) → Ow H F' H' l2 (.lst xs2) → l1 ≠ l2 → IsAll F' xs1 k.l.reverse → IsAll F' xs2 k.r → Q (.ref t) H'
theorem ok_Strip_told (t : Tx K mg) : FnOk P w K mg base CX0 1 t.a_Strip_told t.fd_Strip_told ["self"] (sp_Strip_told t.C_Strip) := by
  refine t.F_Strip_told.ok sc_Strip_told (fun vs H Q E h => ?_) (fun cdv A outer s H vs Q E hr h => ?_)
  · obtain ⟨F, o, d, a, b, k, rfl, _⟩ := h
    rfl
  · obtain ⟨F, o, d, a, b, k, rfl, sF, hS, q⟩ := h
    refine ⟨_, (pss_one (ps_ret (pe_tup (pa_cons (pe_callTy (T := "list") call_listQ (by rfl) t.n_list (by decide +kernel) (pa_cons (pe_dget (hu_of hr) (pe_fld (pv 0) rfl) (pe_un un_neg pe_int) (fun _ _ => rfl)) pa_nil)) (pa_cons (pe_fld (pv 0) rfl) (pa_cons (pe_revL (pe_dget (hu_of hr) (pe_fld (pv 0) rfl) pe_int (fun _ _ => rfl))) pa_nil)))))), ?_⟩
    obtain ⟨⟨dx, ho⟩, dd, ⟨⟨xs, hxa, ixs⟩, fa⟩, ⟨⟨zs, hzb, izs⟩, fb⟩, fo, ab⟩ := hS
    have g0 : Gr mu0 F H F H := Gr.refl sF
    refine ⟨_, rfl, o, t.C_Strip, dx, _, _, rfl, ho, t.cl_Strip, t.nA_Strip_sides, Strip_get_sides, _, rfl, d, _, rfl, sd_dg (sF _ _ dd) (.inl rfl), a, xs, rfl, .inl (SqL.of hxa), fun l1 n1 => ?_⟩
    have g1 := g0.own (o := .lst xs) n1
    have ho1 := ln (u := .lst xs) n1 ho
    have hzb1 := ln (u := .lst xs) n1 hzb
    have w1 : Ow H F (upd H l1 (.lst xs)) l1 (.lst xs) := Ow.mk1 g0 n1
    generalize upd H l1 (.lst xs) = H1 at g1 ho1 hzb1 w1 ⊢
    refine ⟨_, rfl, o, t.C_Strip, dx, _, _, rfl, ho1, t.cl_Strip, t.nA_Strip_sign, Strip_get_sign, ?_⟩
    refine ⟨_, rfl, o, t.C_Strip, dx, _, _, rfl, ho1, t.cl_Strip, t.nA_Strip_sides, Strip_get_sides, d, _, rfl, sd_dg (g1.fh _ _ dd) (.inr rfl), b, zs, rfl, SqL.of hzb1, fun l2 n2 => ⟨three_le, fun u nu => ?_⟩⟩
    have g2 := g1.own (o := .lst zs.reverse) n2
    have w12 := w1.own (u := .lst zs.reverse) n2
    have w2 : Ow H F (upd H1 l2 (.lst zs.reverse)) l2 (.lst zs.reverse) := Ow.mk1 g1 n2
    have l12 : l1 ≠ l2 := w1.ne n2
    have g3 := g2.new (o := .tup [.ref l1, .int k.s, .ref l2]) nu
    have w13 := w12.new (u := .tup [.ref l1, .int k.s, .ref l2]) nu
    have w23 := w2.new (u := .tup [.ref l1, .int k.s, .ref l2]) nu
    refine q _ _ u l1 l2 xs zs.reverse g3 upd_same w13 w23 l12 (IsAll.up ixs g3.ff) ?_
    have z := (IsAll.up izs g3.ff).rev
    rw [List.reverse_reverse] at z
    exact z
theorem muA {o a b : Addr} {bb : Bool} {c : Addr} : muP (if bb = true then b else a) c → muS o a b c := fun z => by
  have z : c = _ := z
  rw [z]
  cases bb
  · exact .inr (.inl rfl)
  · exact .inr (.inr rfl)
theorem muB {o a b : Addr} {bb : Bool} {c : Addr} : muP (if bb = true then a else b) c → muS o a b c := fun z => by
  have z : c = _ := z
  rw [z]
  cases bb
  · exact .inr (.inr rfl)
  · exact .inr (.inl rfl)
theorem StAt.sides {C : Addr} {F H : Hp} {o d a b : Addr} {k : Sk} (x : StAt C F H o d a b k) (bb : Bool) : LsAt F H (if bb = true then b else a) (k.ah bb) ∧ LsAt F H (if bb = true then a else b) (k.bh bb) ∧ (if bb = true then b else a) ≠ (if bb = true then a else b) := by
  cases bb
  · exact ⟨x.la, x.lb, x.ab⟩
  · exact ⟨x.lb, x.la, Ne.symm x.ab⟩
theorem ls_back {F H : Hp} {a b : Addr} {l m : List PI} (bb : Bool) (h : LsAt F H (if bb = true then b else a) l) (h' : LsAt F H (if bb = true then a else b) m) : LsAt F H a (if bb = true then m else l) ∧ LsAt F H b (if bb = true then l else m) := by
  cases bb
  · exact ⟨h, h'⟩
  · exact ⟨h', h⟩
theorem far_no {k : Sk} {b : Bool} {t : Int} (h : eats k b t = false) : farOf k b t = 1 := by
  unfold farOf
  rw [if_neg (by rw [h]; exact Bool.false_ne_true)]
theorem ah_no {k : Sk} {b : Bool} {t : Int} (h : eats k b t = false) : ahOf k b t = k.ah b := by
  unfold ahOf
  rw [if_neg (by rw [h]; exact Bool.false_ne_true)]
theorem not_or3 {o a b A : Addr} (h : A = a ∨ A = b) (ao : a ≠ o) (bo : b ≠ o) : A ≠ o := by
  rcases h with h | h
  · rw [h]; exact ao
  · rw [h]; exact bo
theorem ifAB {a b : Addr} (bb : Bool) : (if bb = true then b else a) = a ∨ (if bb = true then b else a) = b := by
  cases bb
  · exact .inl rfl
  · exact .inr rfl
def sp_Strip_stride (C : Addr) : Sp := fun vs H Q _ => ∃ (F : Hp) (o d a b : Addr) (k : Sk) (pu wa : Int) (R S : Nat), vs = [.ref o, .int pu, .int wa] ∧ Same F H ∧ StAt C F H o d a b k ∧ (wa = -1 ∨ wa = 1) ∧ OkK R S k ∧ LenK k 1500 ∧
  ∀ (F' H' : Hp), Gr (muS o a b) F H F' H' → StAt C F' H' o d a b (stepS k (decide (wa = 1)) pu k.row) → Q .non H'
theorem ok_Strip_stride (t : Tx K mg) : FnOk P w K mg base CX0 2 t.a_Strip_stride t.fd_Strip_stride ["self", "put", "way"] (sp_Strip_stride t.C_Strip) := by
  refine t.F_Strip_stride.ok sc_Strip_stride (fun vs H Q E h => ?_) (fun cdv A outer s H vs Q E hr h => ?_)
  · obtain ⟨F, o, d, a, b, k, pu, wa, R, S, rfl, _⟩ := h
    rfl
  · obtain ⟨F, o, d, a, b, k, pu, wa, R, S, rfl, sF, hS, hw, ok, lk, q⟩ := h
    refine ⟨_, (pss_cons (ps_set (i := 3) sc_Strip_stride.nd rfl (by first | exact Or.inl rfl | exact Or.inr rfl) (pe_dget (hu_of hr) (pe_fld (pv 0) rfl) (pv 2) (fun _ _ => rfl)))
      (pss_cons (ps_set (i := 4) sc_Strip_stride.nd rfl (by first | exact Or.inl rfl | exact Or.inr rfl) pe_int)
      (pss_cons (ps_if (PW.pt (pw_and (pt_cmpR (op_neD hr.units) (pv 3) (pe_lst pa_nil) (nomark _)) (pw_and1 (pt_cmpR op_eq (pe_ix ix_tup (pe_ix ix_list (pv 3) (pe_un un_neg pe_int) (fun _ _ => rfl)) pe_int (fun _ _ => rfl)) (pe_fld (pv 0) rfl) (nomark _))))) (pss_one (ps_aug (i := 4) sc_Strip_stride.nd rfl (by first | exact Or.inl rfl | exact Or.inr rfl) (pe_ix ix_tup (pe_bm0 PySem.F.plainAttrs_list PySem.F.slot_list_pop PySem.F.type_list_pop mt_pop (pv 3)) pe_int (fun _ _ => rfl)) ip_add)) pss_nil)
      (pss_cons (ps_expr (pe_call (ok_put_run t) (hr.mono (by decide)) (by rfl) t.m_put_run t.F_put_run.kp t.b_put_run .nil pass0 (pa_cons (pe_dget (hu_of hr) (pe_fld (pv 0) rfl) (pe_un un_neg (pv 2)) (fun _ _ => rfl)) (pa_cons (pv 1) (pa_cons (pv 4) pa_nil)))))
      (pss_cons (ps_fld (pv 0) (pe_call (ok_taken t) (hr.mono (by decide)) (by rfl) t.m_taken t.F_taken.kp t.b_taken .nil pass0 (pa_cons (pv 3) pa_nil)) rfl)
      (pss_one (ps_fldaug (pv 0) (pv 4) in_add))))))), ?_⟩
    have dga := fun (H : Hp) (h : H d = some (.dK (sdD a b))) => sd_dg h hw
    have dgb := fun (H : Hp) (h : H d = some (.dK (sdD a b))) => sd_dgn h hw
    generalize decide (wa = 1) = bb at q dga dgb
    obtain ⟨lA, lB, hAB⟩ := hS.sides bb
    have mA : ∀ c, muP (if bb = true then b else a) c → muS o a b c := fun c z => muA z
    have mB : ∀ c, muP (if bb = true then a else b) c → muS o a b c := fun c z => muB z
    have back := fun (F H : Hp) (l m : List PI) => @ls_back F H a b l m bb
    obtain ⟨⟨dx, ho⟩, dd, la, lb, fo, ab⟩ := hS
    have oA := lA.ne ho
    have oB := lB.ne ho
    generalize (if bb = true then b else a) = aA at lA hAB mA back dga oA
    generalize (if bb = true then a else b) = aB at lB hAB mB back dgb oB
    have g0 : Gr (muS o a b) F H F H := Gr.refl sF
    have lenA := lk.ah bb
    have lenB := lk.bh bb
    have posA := ok.ah bb
    refine ⟨_, rfl, o, t.C_Strip, dx, _, _, rfl, ho, t.cl_Strip, t.nA_Strip_sides, Strip_get_sides, _, rfl, d, _, rfl, dga _ (sF _ _ dd), ?_⟩
    refine ⟨_, rfl, nil_le, fun e1 ne1 => ?_⟩
    have gA := g0.own (o := .lst []) ne1
    have k1 := (Gr.refl (mu := mu0) sF).own (o := .lst []) ne1
    have lA1 := lA.gr k1 fun z => z
    have lB1 := lB.gr k1 fun z => z
    have ho1 := ln (u := .lst []) ne1 ho
    refine ne_dat (a := (k.ah bb).reverse) (b := ([] : List PI)) (lA1.is k1.fh) (is_nil upd_same) ⟨_, rfl, ?_⟩
    rw [rev_nil_iff]
    generalize upd H e1 (.lst []) = H1 at gA lA1 lB1 ho1 ⊢
    refine ite2 (fun c1 => ?E1) (fun c1 => ?E0)
    case' E1 =>
      have eah : ∃ hd tl, k.ah bb = hd :: tl := by
        cases e : k.ah bb with
        | nil => rw [e] at c1; simp at c1
        | cons a b => exact ⟨_, _, rfl⟩
      obtain ⟨hd, tl, eah⟩ := eah
      obtain ⟨⟨xs, h, i⟩, f⟩ := id lA1
      rw [eah, List.reverse_cons] at i
      obtain ⟨ys, y, rfl, iy, p, y1, y2, rfl, hp, e1', e2'⟩ := i.snoc
      have e1' : y1 = .int hd.a := e1'
      have e2' : y2 = .int hd.b := e2'
      subst e1'
      subst e2'
      refine ⟨_, rfl, _, rfl, aA, _, _, _, rfl, rfl, SqL.of h, atI_last _ _, p, _, _, _, rfl, rfl, SqT.of (gA.fh _ _ hp), atI_nat (j := 0) rfl, _, rfl, o, t.C_Strip, dx, _, _, rfl, ho1, t.cl_Strip, t.nA_Strip_sign, Strip_get_sign, rfl, _, rfl, ?_⟩
      rw [int_eq]
      refine ite2 (fun c7 => ?E5) (fun c7 => ?E4)
    case' E5 =>
      refine ⟨_, rfl, _, rfl, .inl ⟨rfl, _, SqL.of h⟩, aA, _, .ref p, rfl, rfl, h, (by simp), ?_⟩
      rw [List.dropLast_concat]
      have gz := gA.set (o := .lst ys) f (.inr (mA aA rfl))
      refine ⟨p, _, _, _, rfl, rfl, SqT.of (gz.fh _ _ hp), atI_nat (j := 1) rfl, _, _, rfl, rfl, ?_⟩
      have ea : eats k bb k.row = true := by
        unfold eats
        rw [eah, decide_eq_true rfl]
        show (true && decide (hd.a = k.s)) = true
        rw [c7]; rfl
      have ef : farOf k bb k.row = 1 + hd.b := by
        unfold farOf
        rw [if_pos ea, eah]
      have lAz : LsAt F (upd H1 aA (.lst ys)) aA (ahOf k bb k.row) := by
        unfold ahOf
        rw [if_pos ea, eah]
        exact ⟨⟨ys, upd_same, iy⟩, f⟩
      have lBz := lB1.gr ((Gr.refl (mu := muP aA) gA.fh).set (o := .lst ys) f (.inr rfl)) (fun z => hAB (show aB = aA from z).symm)
      have hoz := (upd_ne (H := H1) (o := .lst ys) (Ne.symm oA)).trans ho1
      generalize upd H1 aA (.lst ys) = Hz at gz lAz lBz hoz ⊢
    case' E4 =>
      have ea : eats k bb k.row = false := by
        unfold eats
        rw [eah, decide_eq_true rfl]
        show (true && decide (hd.a = k.s)) = false
        rw [Bool.eq_false_iff.mpr c7]; rfl
    case' E0 =>
      refine ifF rfl ?_
      have ea : eats k bb k.row = false := by
        unfold eats
        have eah : k.ah bb = [] := by
          refine Decidable.byContradiction fun z => c1 ?_
          rw [decide_eq_false z]; rfl
        rw [eah]
        exact Bool.and_false _
    case' E4 | E0 =>
      have ef := far_no ea
      have lAz := lA1
      rw [← ah_no ea] at lAz
      have gz := gA
      have lBz := lB1
      have hoz := ho1
    all_goals
      refine ⟨_, rfl, o, t.C_Strip, dx, _, _, rfl, hoz, t.cl_Strip, t.nA_Strip_sides, Strip_get_sides, _, rfl, _, rfl, d, _, rfl, dgb _ (gz.fh _ _ dd), _, rfl, _, rfl, F, aB, k.bh bb, pu, farOf k bb k.row, by rw [ef]; exact rfl, gz.fh, lBz, by omega, fun F5 H5 g5 l5 => ?_⟩
      have gz5 := gz.trans (g5.weak mB)
      have lA5 := lAz.gr g5 (fun z => hAB z)
      have ho5 := g5.fr _ _ hoz (fun z => oB (show o = aB from z).symm)
      refine ⟨_, rfl, F5, aA, ahOf k bb k.row, rfl, gz5.fh, lA5, by have := @ahOf_len k bb k.row; omega, fun q0 z => (ahOf_ok ok bb k.row q0 z).2, fun F6 H6 g6 l6 => ?_⟩
      have gz6 := gz5.trans (g6.weak mA)
      have lB6 := l5.gr g6 (fun z => hAB (show aB = aA from z).symm)
      have ho6 := g6.fr _ _ ho5 (fun z => oA (show o = aA from z).symm)
      have fo6 : F6 o = none := gz6.pf0 fo ho
      have dd6 := gz6.ff _ _ dd
      refine ⟨_, rfl, o, t.C_Strip, dx, _, rfl, ho6, t.cl_Strip, t.nA_Strip_sign, Strip_few, ?_⟩
      rw [Strip_put_sign]
      have g7 := gz6.set (o := .ins t.C_Strip dx (Strip_F (.ref d) (.int (takn (ahOf k bb k.row)).1) (.int k.row) (.int k.st))) fo6 (.inr (.inl rfl))
      have h7 : (upd H6 o (.ins t.C_Strip dx (Strip_F (.ref d) (.int (takn (ahOf k bb k.row)).1) (.int k.row) (.int k.st)))) o = _ := upd_same
      refine ⟨_, rfl, o, t.C_Strip, dx, _, _, rfl, h7, t.cl_Strip, t.nA_Strip_steps, Strip_get_steps, _, rfl, _, _, rfl, rfl, _, _, h7, Strip_few, ?_⟩
      rw [Strip_put_steps]
      have g8 := g7.set (o := .ins t.C_Strip dx (Strip_F (.ref d) (.int (takn (ahOf k bb k.row)).1) (.int k.row) (.int (k.st + farOf k bb k.row)))) fo6 (.inr (.inl rfl))
      rw [upd_upd] at g8
      obtain ⟨b1, b2⟩ := back F6 H6 _ _ l6 lB6
      have off : ∀ {c : Addr} {l : List PI} {u : HO}, c ≠ o → LsAt F6 H6 c l → LsAt F6 (upd H6 o u) c l := fun n x => ⟨by
        obtain ⟨⟨xs, h, i⟩, f⟩ := x
        exact ⟨xs, by rw [upd_ne n]; exact h, i⟩, x.f⟩
      have z := q F6 _ g8 ⟨⟨dx, upd_same⟩, dd6, off (la.ne ho) b1, off (lb.ne ho) b2, fo6, ab⟩
      rw [ef] at z
      rw [upd_upd]
      exact z
def sp_Strip_step (C : Addr) : Sp := fun vs H Q _ => ∃ (F : Hp) (o d a b : Addr) (k : Sk) (pu wa to : Int) (R S : Nat), vs = [.ref o, .int pu, .int wa, .int to] ∧ Same F H ∧ StAt C F H o d a b k ∧ (wa = -1 ∨ wa = 1) ∧ to ≠ k.row ∧ OkK R S k ∧ LenK k 1500 ∧
  ∀ (F' H' : Hp), Gr (muS o a b) F H F' H' → StAt C F' H' o d a b (stepS k (decide (wa = 1)) pu to) → Q .non H'
theorem ok_Strip_step (t : Tx K mg) : FnOk P w K mg base CX0 2 t.a_Strip_step t.fd_Strip_step ["self", "put", "way", "row"] (sp_Strip_step t.C_Strip) := by
  refine t.F_Strip_step.ok sc_Strip_step (fun vs H Q E h => ?_) (fun cdv A outer s H vs Q E hr h => ?_)
  · obtain ⟨F, o, d, a, b, k, pu, wa, to, R, S, rfl, _⟩ := h
    rfl
  · obtain ⟨F, o, d, a, b, k, pu, wa, to, R, S, rfl, sF, hS, hw, ht, ok, lk, q⟩ := h
    refine ⟨_, (pss_cons (ps_expr (pe_call (ok_put_run t) (hr.mono (by decide)) (by rfl) t.m_put_run t.F_put_run.kp t.b_put_run .nil pass0 (pa_cons (pe_dget (hu_of hr) (pe_fld (pv 0) rfl) (pe_un un_neg (pv 2)) (fun _ _ => rfl)) (pa_cons (pv 1) (pa_cons pe_int pa_nil)))))
      (pss_cons (ps_fld (pv 0) (pe_call (ok_taken t) (hr.mono (by decide)) (by rfl) t.m_taken t.F_taken.kp t.b_taken .nil pass0 (pa_cons (pe_dget (hu_of hr) (pe_fld (pv 0) rfl) (pv 2) (fun _ _ => rfl)) pa_nil)) rfl)
      (pss_cons (ps_fld (pv 0) (pv 3) rfl)
      (pss_one (ps_fldaug (pv 0) pe_int in_add))))), ?_⟩
    have dga := fun (H : Hp) (h : H d = some (.dK (sdD a b))) => sd_dg h hw
    have dgb := fun (H : Hp) (h : H d = some (.dK (sdD a b))) => sd_dgn h hw
    generalize decide (wa = 1) = bb at q dga dgb
    obtain ⟨lA, lB, hAB⟩ := hS.sides bb
    have mA : ∀ c, muP (if bb = true then b else a) c → muS o a b c := fun c z => muA z
    have mB : ∀ c, muP (if bb = true then a else b) c → muS o a b c := fun c z => muB z
    have back := fun (F H : Hp) (l m : List PI) => @ls_back F H a b l m bb
    obtain ⟨⟨dx, ho⟩, dd, la, lb, fo, ab⟩ := hS
    have oA := lA.ne ho
    have oB := lB.ne ho
    generalize (if bb = true then b else a) = aA at lA hAB mA back dga oA
    generalize (if bb = true then a else b) = aB at lB hAB mB back dgb oB
    have gz : Gr (muS o a b) F H F H := Gr.refl sF
    have lenA := lk.ah bb
    have lenB := lk.bh bb
    have ea : eats k bb to = false := by
      unfold eats
      rw [decide_eq_false ht]; rfl
    have ef := far_no ea
    rw [← ah_no ea] at lA
    refine ⟨_, rfl, o, t.C_Strip, dx, _, _, rfl, ho, t.cl_Strip, t.nA_Strip_sides, Strip_get_sides, _, rfl, _, rfl, d, _, rfl, dgb _ (gz.fh _ _ dd), _, rfl, F, aB, k.bh bb, pu, farOf k bb to, by rw [ef]; exact rfl, gz.fh, lB, by omega, fun F5 H5 g5 l5 => ?_⟩
    have gz5 := gz.trans (g5.weak mB)
    have lA5 := lA.gr g5 (fun z => hAB z)
    have ho5 := g5.fr _ _ ho (fun z => oB (show o = aB from z).symm)
    refine ⟨_, rfl, o, t.C_Strip, dx, _, _, rfl, ho5, t.cl_Strip, t.nA_Strip_sides, Strip_get_sides, _, rfl, d, _, rfl, dga _ (gz5.fh _ _ (gz5.ff _ _ dd)), F5, aA, ahOf k bb to, rfl, gz5.fh, lA5, by have := @ahOf_len k bb to; omega, fun q0 z => (ahOf_ok ok bb to q0 z).2, fun F6 H6 g6 l6 => ?_⟩
    have gz6 := gz5.trans (g6.weak mA)
    have lB6 := l5.gr g6 (fun z => hAB (show aB = aA from z).symm)
    have ho6 := g6.fr _ _ ho5 (fun z => oA (show o = aA from z).symm)
    have fo6 : F6 o = none := gz6.pf0 fo ho
    have dd6 := gz6.ff _ _ dd
    refine ⟨_, rfl, o, t.C_Strip, dx, _, rfl, ho6, t.cl_Strip, t.nA_Strip_sign, Strip_few, ?_⟩
    rw [Strip_put_sign]
    have h7 : (upd H6 o (.ins t.C_Strip dx (Strip_F (.ref d) (.int (takn (ahOf k bb to)).1) (.int k.row) (.int k.st)))) o = _ := upd_same
    refine ⟨_, rfl, _, rfl, o, t.C_Strip, dx, _, rfl, h7, t.cl_Strip, t.nA_Strip_row, Strip_few, ?_⟩
    rw [Strip_put_row, upd_upd]
    have h8 : (upd H6 o (.ins t.C_Strip dx (Strip_F (.ref d) (.int (takn (ahOf k bb to)).1) (.int to) (.int k.st)))) o = _ := upd_same
    refine ⟨_, rfl, o, t.C_Strip, dx, _, _, rfl, h8, t.cl_Strip, t.nA_Strip_steps, Strip_get_steps, _, _, rfl, rfl, _, _, h8, Strip_few, ?_⟩
    rw [Strip_put_steps, upd_upd]
    have g8 := gz6.set (o := .ins t.C_Strip dx (Strip_F (.ref d) (.int (takn (ahOf k bb to)).1) (.int to) (.int (k.st + farOf k bb to)))) fo6 (.inr (.inl rfl))
    obtain ⟨b1, b2⟩ := back F6 H6 _ _ l6 lB6
    have off : ∀ {c : Addr} {l : List PI} {u : HO}, c ≠ o → LsAt F6 H6 c l → LsAt F6 (upd H6 o u) c l := fun n x => ⟨by
      obtain ⟨⟨xs, h, i⟩, f⟩ := x
      exact ⟨xs, by rw [upd_ne n]; exact h, i⟩, x.f⟩
    have z := q F6 _ g8 ⟨⟨dx, upd_same⟩, dd6, off (la.ne ho) b1, off (lb.ne ho) b2, fo6, ab⟩
    rw [ef] at z
    exact z
/-! ### by strides -/
def sp_by_strides : Sp := fun vs H Q _ => ∃ (F : Hp) (m v : V) (M : Mach) (R S : Nat) (x : Rs) (row : Int) (n : Nat), vs = [m, .int row, v, .int n] ∧ Same F H ∧ Is F m M ∧ MOk M R S ∧ Is F v x ∧ OkR S x ∧ 0 ≤ row ∧ row < R ∧ n ≤ 600 ∧
  ∀ (F' H' : Hp) (t u l1 l2 : Addr) (xs1 xs2 : List V) (z : TStr × Sk), strd M (n + 1) (k0Of x row) = z → Gr mu0 F H F' H' → F' t = some (.tup [.str z.1.x, .int z.2.st, .int z.2.row, .ref u]) → F' u = some (.tup [.ref l1, .int z.2.s, .ref l2]) →
    Ow H F' H' l1 (.lst xs1) → Ow H F' H' l2 (.lst xs2) → l1 ≠ l2 → IsAll F' xs1 z.2.l.reverse → IsAll F' xs2 z.2.r → Q (.ref t) H'
theorem ok_by_strides (t : Tx K mg) : FnOk P w K mg base CX0 4 t.a_by_strides t.fd_by_strides ["machine", "row", "runs", "many"] sp_by_strides := by
  refine t.F_by_strides.ok sc_by_strides (fun vs H Q E h => ?_) (fun cdv A outer s H vs Q E hr h => ?_)
  · obtain ⟨F, m, v, M, R, S, x, row, n, rfl, _⟩ := h
    rfl
  · obtain ⟨F, m, v, M, R, S, x, row, n, rfl, sF, hm, hM, hv, hx, r0, r1, hn, q⟩ := h
    refine ⟨_, (pss_cons (ps_expr (pe_call (ok_must_machine t) (hr.mono (by decide)) (by rfl) t.m_must_machine t.F_must_machine.kp t.b_must_machine .nil pass0 (pa_cons (pv 0) pa_nil)))
      (pss_cons (ps_set (i := 4) sc_by_strides.nd rfl (by first | exact Or.inl rfl | exact Or.inr rfl) (pe_make t.M_Strip (ok_Strip_init t) (hr.mono (by decide)) (by rfl) t.m_Strip t.b_Strip_init .nil pass0 (pa_cons (pv 1) (pa_cons (pv 2) pa_nil))))
      (pss_cons (ps_for PassesOwn.never rfl (pi_range1 (by rfl) t.n_range (pa_cons (pe_op op_add (pv 3) pe_int) pa_nil)) (pg_name (i := 5) sc_by_strides.nd rfl (by first | exact Or.inl rfl | exact Or.inr rfl)) (pss_cons (ps_set (i := 6) sc_by_strides.nd rfl (by first | exact Or.inl rfl | exact Or.inr rfl) (pe_ix ix_list (pe_ix ix_list (pv 0) (pe_fld (pv 4) rfl) (fun _ _ => rfl)) (pe_fld (pv 4) rfl) (fun _ _ => rfl)))
      (pss_cons (ps_if (pt_cmpR (op_eqD hr.units) (pv 6) (pe_tup pa_nil) (nomark _)) (pss_one (ps_ret (pe_tup (pa_cons pe_str (pa_cons (pe_fld (pv 4) rfl) (pa_cons (pe_fld (pv 4) rfl) (pa_cons (pe_meth0 (pv 4) t.cl_Strip t.M_Strip_told (ok_Strip_told t) (hr.mono (by decide)) t.b_Strip_told .nil pass0) pa_nil))))))) pss_nil)
      (pss_cons (ps_asg (pv 6) (pg_tup rfl (pgs_cons (pg_name (i := 7) sc_by_strides.nd rfl (by first | exact Or.inl rfl | exact Or.inr rfl)) (pgs_cons (pg_name (i := 8) sc_by_strides.nd rfl (by first | exact Or.inl rfl | exact Or.inr rfl)) (pgs_cons (pg_name (i := 9) sc_by_strides.nd rfl (by first | exact Or.inl rfl | exact Or.inr rfl)) pgs_nil)))))
      (pss_cons (ps_if (PW.pt (pw_and (pt_cmpR op_eq (pv 9) (pe_fld (pv 4) rfl) (nomark _)) (pw_and (pt_cmpR op_eq (pe_fld (pv 4) rfl) pe_int (nomark _)) (pw_and1 (pt_cmpR (op_eqD hr.units) (pe_dget (hu_of hr) (pe_fld (pv 4) rfl) (pv 8) (fun _ _ => rfl)) (pe_lst pa_nil) (nomark _)))))) (pss_one (ps_ret (pe_tup (pa_cons pe_str (pa_cons (pe_fld (pv 4) rfl) (pa_cons (pe_fld (pv 4) rfl) (pa_cons (pe_meth0 (pv 4) t.cl_Strip t.M_Strip_told (ok_Strip_told t) (hr.mono (by decide)) t.b_Strip_told .nil pass0) pa_nil))))))) pss_nil)
      (pss_one (ps_if (PW.pt (pw_and (pt_cmpR op_lt (pv 5) (pv 3) (nomark _)) (pw_and1 (pt_cmpR op_eq (pv 9) (pe_fld (pv 4) rfl) (nomark _))))) (pss_one (ps_expr (pe_meth (pv 4) t.cl_Strip t.M_Strip_stride (ok_Strip_stride t) (hr.mono (by decide)) t.b_Strip_stride .nil pass0 (pa_cons (pv 7) (pa_cons (pv 8) pa_nil))))) (pss_one (ps_if (pt_cmpR op_lt (pv 5) (pv 3) (nomark _)) (pss_one (ps_expr (pe_meth (pv 4) t.cl_Strip t.M_Strip_step (ok_Strip_step t) (hr.mono (by decide)) t.b_Strip_step .nil pass0 (pa_cons (pv 7) (pa_cons (pv 8) (pa_cons (pv 9) pa_nil)))))) pss_nil)))))))))
      (pss_one (ps_ret (pe_tup (pa_cons pe_str (pa_cons (pe_fld (pv 4) rfl) (pa_cons (pe_fld (pv 4) rfl) (pa_cons (pe_meth0 (pv 4) t.cl_Strip t.M_Strip_told (ok_Strip_told t) (hr.mono (by decide)) t.b_Strip_told .nil pass0) pa_nil)))))))))), ?_⟩
    have S1 : 1 ≤ S := by have := hM.s2; omega
    refine ⟨_, rfl, F, m, M, R, S, rfl, sF, hm, hM, fun H1 g1 => ?_⟩
    refine ⟨_, rfl, _, rfl, fun o do' no ndo neo => ?_⟩
    have g2 := g1.own (o := .own o) ndo
    have no2 : (upd H1 do' (.own o)) o = none := by rw [upd_ne neo.symm]; exact no
    have g3 := g2.own (o := .ins t.C_Strip do' []) no2
    have hno : H o = none := g1.th _ no
    refine ⟨F, o, do', v, x, row, rfl, upd_same, g1.fh.free no, g3.fh, hv, fun F4 H4 d a b g4 nd na nb st => ⟨rfl, ?_⟩⟩
    have g5 := g3.thn g4 fun c z => .inr (by rw [show c = o from z]; exact hno)
    have hna : H a = none := g3.th _ na
    have hnb : H b = none := g3.th _ nb
    have muN : ∀ c, muS o a b c → (mu0 c ∨ H c = none) := fun c z => .inr (by
      rcases z with rfl | rfl | rfl
      · exact hno
      · exact hna
      · exact hnb)
    have hm4 := hm.up g5.ff
    clear g1 g2 g3 g4 no2
    -- what is told at an end
    have fin : ∀ {F1 G : Hp} {k : Sk} {F5 H5 : Hp} {u l1 l2 : Addr} {xs1 xs2 : List V} {w : TStr}, Gr mu0 F H F1 G → strd M (n + 1) (k0Of x row) = (w, k) → Gr mu0 F1 G F5 H5 → F5 u = some (.tup [.ref l1, .int k.s, .ref l2]) → Ow G F5 H5 l1 (.lst xs1) → Ow G F5 H5 l2 (.lst xs2) → l1 ≠ l2 → IsAll F5 xs1 k.l.reverse → IsAll F5 xs2 k.r →
        ∀ t, H5 t = none → Q (.ref t) (upd H5 t (.tup [.str w.x, .int k.st, .int k.row, .ref u])) := by
      intro F1 G k F5 H5 u l1 l2 xs1 xs2 w g es g5 hu w1 w2 l12 i1 i2 t nt
      have g6 := g.trans g5
      have w1' : Ow H F5 H5 l1 (.lst xs1) := ⟨g.th _ w1.n, w1.f, w1.h⟩
      have w2' : Ow H F5 H5 l2 (.lst xs2) := ⟨g.th _ w2.n, w2.f, w2.h⟩
      have s6 : Same F5 (upd F5 t (.tup [.str w.x, .int k.st, .int k.row, .ref u])) := sm_new (Same.refl F5) (g6.fh.free nt)
      exact q _ _ t u l1 l2 xs1 xs2 (w, k) es (g6.new nt) upd_same (s6 _ _ hu) (w1'.new nt) (w2'.new nt) l12 (IsAll.up i1 s6) (IsAll.up i2 s6)
    refine ⟨_, rfl, _, _, rfl, rfl, (n : Int) + 1, rfl, by omega, by omega, for_range (lo := 0) (n := ((n : Int) + 1).toNat) (fun i σ G => ∃ (F1 : Hp) (k : Sk) (u0 u1 u2 u3 u4 : Option V), σ = [some m, some (.int row), some v, some (.int n), some (.ref o), u0, u1, u2, u3, u4] ∧
      Gr mu0 F H F1 G ∧ Is F1 m M ∧ StAt t.C_Strip F1 G o d a b k ∧ OkK R S k ∧ LenK k (900 + i) ∧ i ≤ n + 1 ∧ strd M (n + 1) (k0Of x row) = strd M (n + 1 - i) k)
      ⟨F4, k0Of x row, none, none, none, none, none, rfl, g5, hm4, st, ⟨hx.1.1.rev, hx.2.2.1, hx.2.1.1, hx.2.1.2, r0, r1⟩, ⟨by show x.a.reverse.length ≤ _; rw [List.length_reverse]; exact hx.1.2, hx.2.2.2⟩, by omega, rfl⟩ ?_ ?_⟩
    · rintro i σ G hi ⟨F1, k, u0, u1, u2, u3, u4, rfl, g, hmF, st, ok, lk, hin, es⟩
      have i1 : i ≤ n := by omega
      obtain ⟨rw', hrw, he, eo⟩ := ent_of hM ok.r0 ok.r1 ok.s0 ok.s1
      obtain ⟨am, rs, rfl, ha, hrs⟩ := id hmF
      obtain ⟨y, hy, bm, es', rfl, hb, hes⟩ := hrs.get hrw
      obtain ⟨z, hz, hze⟩ := hes.get he
      obtain ⟨dx, ho⟩ := st.ob
      refine ⟨_, rfl, _, rfl, o, t.C_Strip, dx, _, _, rfl, ho, t.cl_Strip, t.nA_Strip_row, Strip_get_row, am, rs, _, _, rfl, rfl, SqL.of (g.fh _ _ ha), at_of (Int.toNat_of_nonneg ok.r0).symm hy, _, rfl, o, t.C_Strip, dx, _, _, rfl, ho, t.cl_Strip, t.nA_Strip_sign, Strip_get_sign, bm, es', _, _, rfl, rfl, SqL.of (g.fh _ _ hb), at_of (Int.toNat_of_nonneg ok.s0).symm hz, ?_⟩
      have en : n + 1 - i = (n - i) + 1 := by omega
      rw [en] at es
      have es2 : strd M (n + 1) (k0Of x row) = match entAt M k.row k.s with
        | .emp => (tEnd, k)
        | .go p w t => if nevr k (decide (w = 1)) t = true then (tNev, k) else strd M (n - i) (if n - i = 0 then k else stepS k (decide (w = 1)) p t) := es
      refine ⟨_, rfl, nil_le, fun e1 ne1 => ?_⟩
      have gg := g.own (o := .tup []) ne1
      have k1 := (Gr.refl (mu := mu0) g.fh).own (o := .tup []) ne1
      have s1 := st.gr k1 (fun c z => z.elim)
      refine eq_dat (a := entAt M k.row k.s) (b := Ent.emp) (hze.up gg.fh) ⟨e1, rfl, upd_same⟩ ⟨_, rfl, ?_⟩
      generalize upd G e1 (.tup []) = G1 at gg s1 ⊢
      obtain ⟨dx, ho⟩ := s1.ob
      cases ee : entAt M k.row k.s with
      | emp =>
        rw [ee] at es2
        have es2 : strd M (n + 1) (k0Of x row) = (tEnd, k) := es2
        refine ifT (decide_eq_true rfl) ⟨_, rfl, o, t.C_Strip, dx, _, _, rfl, ho, t.cl_Strip, t.nA_Strip_steps, Strip_get_steps, _, rfl, o, t.C_Strip, dx, _, _, rfl, ho, t.cl_Strip, t.nA_Strip_row, Strip_get_row, _, rfl, o, dx, _, rfl, ho, Strip_no (by decide +kernel) (by decide +kernel) (by decide +kernel) (by decide +kernel), F1, o, d, a, b, k, rfl, gg.fh, s1, fun F5 H5 u l1 l2 xs1 xs2 g5 hu w1 w2 l12 i1 i2 => ⟨by show 4 ≤ sizeLine; decide, fun t nt => ?_⟩⟩
        exact fin gg es2 g5 hu w1 w2 l12 i1 i2 t nt
      | go pu wa to =>
        rw [ee] at es2 hze eo
        obtain ⟨⟨p0, p1⟩, wo, t0, t1⟩ := eo.ok _ _ _ rfl
        obtain ⟨ae, rfl, hae⟩ := hze
        refine ifF (decide_eq_false (by intro z; cases z)) ?_
        refine ⟨_, rfl, ae, _, rfl, SqT.of (gg.fh _ _ hae), rfl, _, _, rfl, _, _, rfl, _, _, rfl, rfl, ?_⟩
        have es2 : strd M (n + 1) (k0Of x row) = if nevr k (decide (wa = 1)) to = true then (tNev, k) else strd M (n - i) (if n - i = 0 then k else stepS k (decide (wa = 1)) pu to) := es2
        refine ⟨_, rfl, _, rfl, o, t.C_Strip, dx, _, _, rfl, ho, t.cl_Strip, t.nA_Strip_row, Strip_get_row, rfl, _, rfl, ?_⟩
        rw [int_eq]
        refine ite2 (fun c1 => ?N) (fun c1 => ?A)
        case' N =>
          refine ⟨_, rfl, o, t.C_Strip, dx, _, _, rfl, ho, t.cl_Strip, t.nA_Strip_sign, Strip_get_sign, rfl, _, rfl, ?_⟩
          rw [int_eq]
          refine ite2 (fun c2 => ?N2) (fun c2 => ?B)
        case' N2 =>
          refine ⟨_, rfl, o, t.C_Strip, dx, _, _, rfl, ho, t.cl_Strip, t.nA_Strip_sides, Strip_get_sides, _, rfl, d, _, rfl, sd_dg (gg.fh _ _ s1.dd) wo, nil_le, fun e2 ne2 => ?_⟩
          have gA := gg.own (o := .lst []) ne2
          have k2 := (Gr.refl (mu := mu0) gg.fh).own (o := .lst []) ne2
          have sA := s1.gr k2 (fun c z => z.elim)
          refine eq_dat (a := (k.ah (decide (wa = 1))).reverse) (b := ([] : List PI)) ((sA.sides _).1.is gA.fh) (is_nil upd_same) ⟨_, rfl, ?_⟩
          rw [rev_nil_iff]
          generalize upd G1 e2 (.lst []) = G2 at gA sA ⊢
          refine ite2 (fun c3 => ?N3) (fun c3 => ?C)
        case N3 =>
          have nv : nevr k (decide (wa = 1)) to = true := by
            unfold nevr
            rw [c1, c2, c3]; rfl
          rw [if_pos nv] at es2
          obtain ⟨dx, ho⟩ := sA.ob
          refine ⟨_, rfl, o, t.C_Strip, dx, _, _, rfl, ho, t.cl_Strip, t.nA_Strip_steps, Strip_get_steps, _, rfl, o, t.C_Strip, dx, _, _, rfl, ho, t.cl_Strip, t.nA_Strip_row, Strip_get_row, _, rfl, o, dx, _, rfl, ho, Strip_no (by decide +kernel) (by decide +kernel) (by decide +kernel) (by decide +kernel), F1, o, d, a, b, k, rfl, gA.fh, sA, fun F5 H5 u l1 l2 xs1 xs2 g5 hu w1 w2 l12 i1 i2 => ⟨by show 4 ≤ sizeLine; decide, fun t nt => ?_⟩⟩
          exact fin gA es2 g5 hu w1 w2 l12 i1 i2 t nt
        case' A =>
          refine ifF rfl ?_
          have gA := gg
          have sA := s1
          have nv : nevr k (decide (wa = 1)) to = false := by
            unfold nevr
            rw [Bool.eq_false_iff.mpr c1]; rfl
        case' B =>
          refine ifF rfl ?_
          have gA := gg
          have sA := s1
          have nv : nevr k (decide (wa = 1)) to = false := by
            unfold nevr
            rw [c1, Bool.eq_false_iff.mpr c2]; rfl
        case' C =>
          have nv : nevr k (decide (wa = 1)) to = false := by
            unfold nevr
            rw [c1, c2, Bool.eq_false_iff.mpr c3]; rfl
        all_goals
          rw [if_neg (by rw [nv]; exact Bool.false_ne_true)] at es2
          obtain ⟨dx, ho⟩ := sA.ob
          refine ⟨_, rfl, _, rfl, _, _, rfl, rfl, _, rfl, ?_⟩
          refine ite2 (fun c4 => ?_) (fun c4 => ?_)
          · have i2 : i < n := by
              have c4 := of_decide_eq_true c4
              omega
            have c4n : ((0 + (i : Int)) < n) := of_decide_eq_true c4
            rw [if_neg (by omega)] at es2
            have ok2 := ok.step (decide (wa = 1)) S1 p0 p1 t0 t1
            have lk2 := lk.step (decide (wa = 1)) (p := pu) (t := to)
            have lk3 : LenK k 1500 := ⟨by have := lk.1; omega, by have := lk.2; omega⟩
            refine ⟨_, rfl, _, rfl, o, t.C_Strip, dx, _, _, rfl, ho, t.cl_Strip, t.nA_Strip_row, Strip_get_row, rfl, _, rfl, ?_⟩
            rw [int_eq]
            refine ite2 (fun c5 => ?_) (fun c5 => ?_)
            · have c5 := of_decide_eq_true c5
              subst c5
              refine ⟨_, rfl, o, dx, _, rfl, ho, Strip_no (by decide +kernel) (by decide +kernel) (by decide +kernel) (by decide +kernel), _, rfl, _, rfl, F1, o, d, a, b, k, pu, wa, R, S, rfl, gA.fh, sA, wo, ok, lk3, fun F5 H5 g5 st5 => ?_⟩
              refine ⟨F5, _, _, _, _, _, _, rfl, gA.thn g5 muN, hmF.up g5.ff, st5, ok2, by rw [show 900 + (i + 1) = 900 + i + 1 by omega]; exact lk2, by omega, ?_⟩
              rw [es2, show n + 1 - (i + 1) = n - i by omega]
            · have c5 : ¬ to = k.row := fun z => c5 (decide_eq_true z)
              refine ⟨_, rfl, _, rfl, _, _, rfl, rfl, _, rfl, ifT c4 ?_⟩
              refine ⟨_, rfl, o, dx, _, rfl, ho, Strip_no (by decide +kernel) (by decide +kernel) (by decide +kernel) (by decide +kernel), _, rfl, _, rfl, _, rfl, F1, o, d, a, b, k, pu, wa, to, R, S, rfl, gA.fh, sA, wo, c5, ok, lk3, fun F5 H5 g5 st5 => ?_⟩
              refine ⟨F5, _, _, _, _, _, _, rfl, gA.thn g5 muN, hmF.up g5.ff, st5, ok2, by rw [show 900 + (i + 1) = 900 + i + 1 by omega]; exact lk2, by omega, ?_⟩
              rw [es2, show n + 1 - (i + 1) = n - i by omega]
          · have c4' : ¬ ((0 + (i : Int)) < n) := fun z => c4 (decide_eq_true z)
            have en0 : n - i = 0 := by omega
            rw [if_pos en0] at es2
            refine ifF rfl ⟨_, rfl, _, rfl, _, _, rfl, rfl, _, rfl, ifF (Bool.eq_false_iff.mpr c4) ?_⟩
            refine ⟨F1, k, _, _, _, _, _, rfl, gA, hmF, sA, ok, ⟨by have := lk.1; omega, by have := lk.2; omega⟩, by omega, ?_⟩
            rw [es2, show n + 1 - (i + 1) = n - i by omega]
    · rintro σ G ⟨F1, k, u0, u1, u2, u3, u4, rfl, g, hmF, st, ok, lk, hin, es⟩
      have es : strd M (n + 1) (k0Of x row) = (tOnn, k) := by
        rw [es, show n + 1 - ((n : Int) + 1).toNat = 0 by omega]; rfl
      obtain ⟨dx, ho⟩ := st.ob
      refine ⟨_, rfl, o, t.C_Strip, dx, _, _, rfl, ho, t.cl_Strip, t.nA_Strip_steps, Strip_get_steps, _, rfl, o, t.C_Strip, dx, _, _, rfl, ho, t.cl_Strip, t.nA_Strip_row, Strip_get_row, _, rfl, o, dx, _, rfl, ho, Strip_no (by decide +kernel) (by decide +kernel) (by decide +kernel) (by decide +kernel), F1, o, d, a, b, k, rfl, g.fh, st, fun F5 H5 u l1 l2 xs1 xs2 g5 hu w1 w2 l12 i1 i2 => ⟨by show 4 ≤ sizeLine; decide, fun t nt => ?_⟩⟩
      exact fin g es g5 hu w1 w2 l12 i1 i2 t nt
theorem bs_frz {F H F' H' : Hp} {t u l1 l2 : Addr} {xs1 xs2 : List V} {z : TStr × Sk} (g : Gr mu0 F H F' H') (ht : F' t = some (.tup [.str z.1.x, .int z.2.st, .int z.2.row, .ref u])) (hu : F' u = some (.tup [.ref l1, .int z.2.s, .ref l2]))
    (w1 : Ow H F' H' l1 (.lst xs1)) (w2 : Ow H F' H' l2 (.lst xs2)) (l12 : l1 ≠ l2) (i1 : IsAll F' xs1 z.2.l.reverse) (i2 : IsAll F' xs2 z.2.r) :
    ∃ F2, Gr mu0 F H F2 H' ∧ F2 t = some (.tup [.str z.1.x, .int z.2.st, .int z.2.row, .ref u]) ∧ Is F2 (.ref u) (⟨z.2.l.reverse, z.2.s, z.2.r⟩ : Rs) := by
  have g1 := g.frz w1.h w1.n w1.f
  have s1 : Same F' (upd F' l1 (.lst xs1)) := sm_new (Same.refl F') w1.f
  have w2' := w2.frz' (u := .lst xs1) (Ne.symm l12)
  have g2 := g1.frz w2'.h w2'.n w2'.f
  have s2 : Same (upd F' l1 (.lst xs1)) (upd (upd F' l1 (.lst xs1)) l2 (.lst xs2)) := sm_new (Same.refl _) w2'.f
  have s12 := s1.trans s2
  exact ⟨_, g2, s12 _ _ ht, u, _, _, _, rfl, s12 _ _ hu, ⟨l1, xs1, rfl, s2 _ _ upd_same, IsAll.up i1 s12⟩, rfl, ⟨l2, xs2, rfl, upd_same, IsAll.up i2 s12⟩⟩
/-! ### blocks, gone through (plain) -/
structure Bs where
  s : List Int
  p : Int
  r : Int
  deriving DecidableEq
inductive Bn where
  | nxt (b : Bs)
  | lv (w : TStr) (s : List Int) (r x d : Int)
def sgB (b : Bs) : Int := (b.s[b.p.toNat]?).getD 0
def bn (M : Mach) (b : Bs) : Bn := match entAt M b.r (sgB b) with
  | .emp => .lv tEnd b.s b.r b.p 0
  | .go pu wa to => if 0 ≤ b.p + wa ∧ b.p + wa < (b.s.length : Int) then .nxt ⟨b.s.set b.p.toNat pu, b.p + wa, to⟩ else .lv tOut (b.s.set b.p.toNat pu) to wa 1
theorem bn_emp {M : Mach} {b : Bs} (e : entAt M b.r (sgB b) = .emp) : bn M b = .lv tEnd b.s b.r b.p 0 := by
  unfold bn; rw [e]
theorem bn_go {M : Mach} {b : Bs} {pu wa to : Int} (e : entAt M b.r (sgB b) = .go pu wa to) (h : 0 ≤ b.p + wa ∧ b.p + wa < (b.s.length : Int)) : bn M b = .nxt ⟨b.s.set b.p.toNat pu, b.p + wa, to⟩ := by
  unfold bn; rw [e]; exact if_pos h
theorem bn_out {M : Mach} {b : Bs} {pu wa to : Int} (e : entAt M b.r (sgB b) = .go pu wa to) (h : ¬ (0 ≤ b.p + wa ∧ b.p + wa < (b.s.length : Int))) : bn M b = .lv tOut (b.s.set b.p.toNat pu) to wa 1 := by
  unfold bn; rw [e]; exact if_neg h
def tj (M : Mach) : Nat → Bs → Option Bs
  | 0, b => some b
  | n + 1, b => match bn M b with
    | .nxt c => tj M n c
    | .lv .. => none
inductive ThR where
  | stay
  | fin (w : TStr) (s : List Int) (r x n : Int)
  deriving DecidableEq
def bgo (M : Mach) : Nat → Bs → Int → ThR
  | 0, _, _ => .stay
  | n + 1, b, k => match bn M b with
    | .nxt c => bgo M n c (k + 1)
    | .lv w s r x d => .fin w s r x (k + d)
section
variable {M : Mach} {b c : Bs}
theorem tj_nxt {n : Nat} (e : bn M b = .nxt c) : tj M (n + 1) b = tj M n c := by
  show (match bn M b with | .nxt c => tj M n c | .lv .. => none) = _
  rw [e]
theorem tj_lv {n : Nat} {w s r x d} (e : bn M b = .lv w s r x d) : tj M (n + 1) b = none := by
  show (match bn M b with | .nxt c => tj M n c | .lv .. => none) = _
  rw [e]
theorem bgo_nxt {n : Nat} {k : Int} (e : bn M b = .nxt c) : bgo M (n + 1) b k = bgo M n c (k + 1) := by
  show (match bn M b with | .nxt c => bgo M n c (k + 1) | .lv w s r x d => .fin w s r x (k + d)) = _
  rw [e]
theorem bgo_lv {n : Nat} {k : Int} {w s r x d} (e : bn M b = .lv w s r x d) : bgo M (n + 1) b k = .fin w s r x (k + d) := by
  show (match bn M b with | .nxt c => bgo M n c (k + 1) | .lv w s r x d => .fin w s r x (k + d)) = _
  rw [e]
theorem tj_add (M : Mach) : ∀ (m n : Nat) (b : Bs), tj M (m + n) b = (tj M m b).bind (tj M n)
  | 0, n, b => by rw [Nat.zero_add]; rfl
  | m + 1, n, b => by
    rw [show m + 1 + n = (m + n) + 1 by omega]
    cases e : bn M b with
    | nxt c => rw [tj_nxt e, tj_nxt e]; exact tj_add M m n c
    | lv w s r x d => rw [tj_lv e, tj_lv e]; rfl
theorem tj_at {m n : Nat} {c : Bs} (h : tj M m b = some c) : tj M (m + n) b = tj M n c := by
  rw [tj_add, h]; rfl
theorem tj_le {m n : Nat} (l : m ≤ n) (h : tj M n b ≠ none) : tj M m b ≠ none := fun z => by
  obtain ⟨k, rfl⟩ := Nat.le.dest l
  rw [tj_add, z] at h
  exact h rfl
/-- it leaves behind i steps, from c -/
theorem bgo_of : ∀ (i n : Nat) (b : Bs) (k : Int) (c : Bs) (w : TStr) (s : List Int) (r x d : Int), tj M i b = some c → bn M c = .lv w s r x d → i < n → bgo M n b k = .fin w s r x (k + i + d)
  | 0, n + 1, b, k, c, w, s, r, x, d, h, e, _ => by
    cases h
    rw [bgo_lv e]; congr 1; omega
  | i + 1, n + 1, b, k, c, w, s, r, x, d, h, e, l => by
    cases eb : bn M b with
    | nxt b' =>
      rw [tj_nxt eb] at h
      rw [bgo_nxt eb, bgo_of i n b' (k + 1) c w s r x d h e (by omega)]
      congr 1; omega
    | lv w s r x d => rw [tj_lv eb] at h; cases h
theorem bgo_fin : ∀ (n : Nat) (b : Bs) (k : Int) (w : TStr) (s : List Int) (r x m : Int), bgo M n b k = .fin w s r x m → ∃ (i : Nat) (c : Bs) (d : Int), i < n ∧ tj M i b = some c ∧ bn M c = .lv w s r x d ∧ m = k + i + d
  | 0, b, k, w, s, r, x, m, h => by cases h
  | n + 1, b, k, w, s, r, x, m, h => by
    cases eb : bn M b with
    | nxt b' =>
      rw [bgo_nxt eb] at h
      obtain ⟨i, c, d, l, h1, h2, h3⟩ := bgo_fin n b' (k + 1) w s r x m h
      exact ⟨i + 1, c, d, by omega, by rw [tj_nxt eb]; exact h1, h2, by rw [h3]; omega⟩
    | lv w' s' r' x' d' =>
      rw [bgo_lv eb] at h
      cases h
      exact ⟨0, b, d', by omega, rfl, eb, by omega⟩
theorem bgo_stay : ∀ (n : Nat) (b : Bs) (k : Int), bgo M n b k = .stay → tj M n b ≠ none
  | 0, b, k, _ => fun z => nomatch z
  | n + 1, b, k, h => by
    cases eb : bn M b with
    | nxt b' =>
      rw [bgo_nxt eb] at h
      rw [tj_nxt eb]
      exact bgo_stay n b' _ h
    | lv w' s' r' x' d' => rw [bgo_lv eb] at h; cases h
/-- it never leaves -/
def NV (M : Mach) (b : Bs) : Prop := ∀ n, tj M n b ≠ none
theorem NV.fin {w s r x m} (h : NV M b) (n : Nat) (k : Int) : bgo M n b k ≠ .fin w s r x m := fun z => by
  obtain ⟨i, c, d, _, h1, h2, _⟩ := bgo_fin n b k w s r x m z
  refine h (i + 1) ?_
  rw [tj_at h1, tj_lv h2]
theorem NV.stay (h : NV M b) (n : Nat) (k : Int) : bgo M n b k = .stay := by
  cases e : bgo M n b k with
  | stay => rfl
  | fin w s r x m => exact absurd e (h.fin n k)
theorem NV.of {i : Nat} (h : tj M i b = some c) (z : NV M c) : NV M b := fun n => by
  refine tj_le (n := i + n) (by omega) ?_
  rw [tj_at h]; exact z n
theorem NV.cyc {d : Nat} (h : tj M d c = some c) (p : 0 < d) : NV M c := fun n => by
  have z : ∀ q, tj M (q * d) c = some c := fun q => by
    induction q with
    | zero => rw [Nat.zero_mul]; rfl
    | succ q ih => rw [Nat.succ_mul, tj_at ih, h]
  refine tj_le (n := n * d) (Nat.le_mul_of_pos_right n p) ?_
  rw [z]; exact fun e => nomatch e
theorem NV.two {i j : Nat} (l : i < j) (h : tj M i b = some c) (h' : tj M j b = some c) : NV M b := by
  refine NV.of h (NV.cyc (d := j - i) ?_ (by omega))
  rw [← tj_at (n := j - i) h, show i + (j - i) = j by omega]; exact h'
end
/-! ### how many there are -/
theorem pig : ∀ (n : Nat) (f : Nat → Nat), (∀ i, i ≤ n → f i < n) → ∃ i j, i < j ∧ j ≤ n ∧ f i = f j
  | 0, f, h => absurd (h 0 (Nat.le_refl 0)) (by omega)
  | n + 1, f, h => by
    by_cases e : ∃ i, i ≤ n ∧ f i = f (n + 1)
    · obtain ⟨i, l, e⟩ := e
      exact ⟨i, n + 1, by omega, Nat.le_refl _, e⟩
    · have e : ∀ i, i ≤ n → f i ≠ f (n + 1) := fun i l z => e ⟨i, l, z⟩
      have hl := h (n + 1) (Nat.le_refl _)
      obtain ⟨i, j, l, lj, q⟩ := pig n (fun i => if f i = n then f (n + 1) else f i) fun i l => by
        have h1 := h i (by omega)
        have h2 := e i l
        show (if f i = n then f (n + 1) else f i) < n
        split
        · omega
        · omega
      refine ⟨i, j, l, by omega, ?_⟩
      have ei := e i (by omega)
      have ej := e j lj
      have q : (if f i = n then f (n + 1) else f i) = (if f j = n then f (n + 1) else f j) := q
      split at q
      · split at q
        · omega
        · exact absurd q.symm ej
      · split at q
        · exact absurd q ei
        · exact q
def enc (S : Nat) : List Int → Nat
  | [] => 0
  | x :: l => x.toNat + S * enc S l
def SOk (S : Nat) (l : List Int) : Prop := ∀ x ∈ l, 0 ≤ x ∧ x < (S : Int)
theorem SOk.tail {S : Nat} {x : Int} {l : List Int} (h : SOk S (x :: l)) : SOk S l := fun y z => h y (List.mem_cons_of_mem _ z)
theorem SOk.app {S : Nat} {l m : List Int} (h : SOk S l) (k : SOk S m) : SOk S (l ++ m) := fun y z => (List.mem_append.mp z).elim (h y) (k y)
theorem SOk.set {S : Nat} {l : List Int} (h : SOk S l) {i : Nat} {v : Int} (k : 0 ≤ v ∧ v < (S : Int)) : SOk S (l.set i v) := fun y z => by
  rcases List.mem_or_eq_of_mem_set z with z | z
  · exact h y z
  · rw [z]; exact k
theorem SOk.rev {S : Nat} {l : List Int} (h : SOk S l) : SOk S l.reverse := fun y z => h y (List.mem_reverse.mp z)
theorem enc_lt {S : Nat} : ∀ {l : List Int}, SOk S l → enc S l < S ^ l.length
  | [], _ => by show 0 < 1; omega
  | x :: l, h => by
    have h1 := enc_lt h.tail
    have hx := h x (List.mem_cons_self ..)
    show x.toNat + S * enc S l < S ^ (l.length + 1)
    rw [Nat.pow_succ, Nat.mul_comm (S ^ l.length) S]
    have : S * (enc S l + 1) ≤ S * S ^ l.length := Nat.mul_le_mul_left S h1
    rw [Nat.mul_add, Nat.mul_one] at this
    omega
theorem div_eq2 {S x y a b : Nat} (hx : x < S) (hy : y < S) (e : x + S * a = y + S * b) : x = y ∧ a = b := by
  have p : 0 < S := by omega
  have e1 : (x + S * a) % S = x := by rw [Nat.add_mul_mod_self_left, Nat.mod_eq_of_lt hx]
  have e2 : (y + S * b) % S = y := by rw [Nat.add_mul_mod_self_left, Nat.mod_eq_of_lt hy]
  have exy : x = y := by rw [← e1, ← e2, e]
  subst exy
  refine ⟨rfl, Nat.eq_of_mul_eq_mul_left p (by omega)⟩
theorem enc_inj {S : Nat} : ∀ {l m : List Int}, SOk S l → SOk S m → l.length = m.length → enc S l = enc S m → l = m
  | [], [], _, _, _, _ => rfl
  | [], _ :: _, _, _, h, _ => by simp at h
  | _ :: _, [], _, _, h, _ => by simp at h
  | x :: l, y :: m, h, k, hl, e => by
    have hx := h x (List.mem_cons_self ..)
    have hy := k y (List.mem_cons_self ..)
    obtain ⟨e1, e2⟩ := div_eq2 (S := S) (x := x.toNat) (y := y.toNat) (by omega) (by omega) e
    rw [enc_inj h.tail k.tail (by simpa using hl) e2, show x = y by omega]
structure BOk (R S L : Nat) (b : Bs) : Prop where
  len : b.s.length = L
  s : SOk S b.s
  p0 : 0 ≤ b.p
  p1 : b.p < L
  r0 : 0 ≤ b.r
  r1 : b.r < R
section
variable {M : Mach} {R S L : Nat} {b c : Bs}
theorem BOk.sgB (h : BOk R S L b) : b.s[b.p.toNat]? = some (sgB b) ∧ 0 ≤ sgB b ∧ sgB b < S := by
  have l : b.p.toNat < b.s.length := by have := h.len; have := h.p0; have := h.p1; omega
  have e : b.s[b.p.toNat]? = some b.s[b.p.toNat] := List.getElem?_eq_getElem l
  have e2 : E.sgB b = b.s[b.p.toNat] := by unfold E.sgB; rw [e]; rfl
  rw [e2]
  exact ⟨e, h.s _ (List.getElem_mem l)⟩
theorem BOk.ent (h : BOk R S L b) (hM : MOk M R S) : EOk R S (entAt M b.r (E.sgB b)) := (ent_of hM h.r0 h.r1 h.sgB.2.1 h.sgB.2.2).choose_spec.2.2
theorem bn_ok (h : BOk R S L b) (hM : MOk M R S) (e : bn M b = .nxt c) : BOk R S L c := by
  have eo := h.ent hM
  cases ee : entAt M b.r (E.sgB b) with
  | emp => rw [bn_emp ee] at e; cases e
  | go pu wa to =>
    rw [ee] at eo
    obtain ⟨o1, o2, o3⟩ := eo.ok _ _ _ rfl
    by_cases z : 0 ≤ b.p + wa ∧ b.p + wa < (b.s.length : Int)
    · rw [bn_go ee z] at e
      cases e
      exact ⟨by rw [List.length_set]; exact h.len, h.s.set o1, z.1, by rw [← h.len]; exact z.2, o3.1, o3.2⟩
    · rw [bn_out ee z] at e; cases e
theorem tj_ok (hM : MOk M R S) : ∀ (n : Nat) (b c : Bs), BOk R S L b → tj M n b = some c → BOk R S L c
  | 0, b, c, h, e => by cases e; exact h
  | n + 1, b, c, h, e => by
    cases eb : bn M b with
    | nxt b' => rw [tj_nxt eb] at e; exact tj_ok hM n b' c (bn_ok h hM eb) e
    | lv w s r x d => rw [tj_lv eb] at e; cases e
def code (R S L : Nat) (b : Bs) : Nat := b.r.toNat + R * (b.p.toNat + L * enc S b.s)
theorem code_lt (h : BOk R S L b) : code R S L b < R * L * S ^ L := by
  have h1 := enc_lt h.s
  rw [h.len] at h1
  have hp : b.p.toNat < L := by have := h.p0; have := h.p1; omega
  have hr : b.r.toNat < R := by have := h.r0; have := h.r1; omega
  have a1 : L * (enc S b.s + 1) ≤ L * S ^ L := Nat.mul_le_mul_left L h1
  rw [Nat.mul_add, Nat.mul_one] at a1
  have a2 : b.p.toNat + L * enc S b.s + 1 ≤ L * S ^ L := by omega
  have a3 : R * (b.p.toNat + L * enc S b.s + 1) ≤ R * (L * S ^ L) := Nat.mul_le_mul_left R a2
  rw [Nat.mul_add, Nat.mul_one, ← Nat.mul_assoc] at a3
  show b.r.toNat + R * (b.p.toNat + L * enc S b.s) < _
  omega
theorem code_inj (h : BOk R S L b) (k : BOk R S L c) (e : code R S L b = code R S L c) : b = c := by
  have h1 := h.p0; have h2 := h.p1; have h3 := h.r0; have h4 := h.r1
  have k1 := k.p0; have k2 := k.p1; have k3 := k.r0; have k4 := k.r1
  obtain ⟨e1, e2⟩ := div_eq2 (S := R) (by omega) (by omega) e
  obtain ⟨e3, e4⟩ := div_eq2 (S := L) (by omega) (by omega) e2
  have e5 := enc_inj h.s k.s (h.len.trans k.len.symm) e4
  obtain ⟨s, p, r⟩ := b
  obtain ⟨s', p', r'⟩ := c
  simp only at *
  rw [e5, show p = p' by omega, show r = r' by omega]
/-- what has gone on for so long never leaves -/
theorem nv_of (hM : MOk M R S) (h : BOk R S L b) {N : Nat} (l : R * L * S ^ L ≤ N) (e : tj M N b ≠ none) : NV M b := by
  have a : ∀ i, i ≤ R * L * S ^ L → ∃ c, tj M i b = some c := fun i li => by
    cases z : tj M i b with
    | none => exact absurd z (tj_le (n := N) (by omega) e)
    | some c => exact ⟨c, rfl⟩
  obtain ⟨i, j, ij, jn, q⟩ := pig (R * L * S ^ L) (fun i => code R S L ((tj M i b).getD b)) fun i li => by
    obtain ⟨c, ec⟩ := a i li
    show code R S L ((tj M i b).getD b) < _
    rw [ec]
    exact code_lt (tj_ok hM i b c h ec)
  obtain ⟨c, ec⟩ := a i (by omega)
  obtain ⟨c', ec'⟩ := a j jn
  have q : code R S L ((tj M i b).getD b) = code R S L ((tj M j b).getD b) := q
  rw [ec, ec'] at q
  have e := code_inj (tj_ok hM i b c h ec) (tj_ok hM j b c' h ec') q
  rw [← e] at ec'
  exact NV.two ij ec ec'
end
/-! ### a block is gone through -/
def st0 (s : List Int) (row : Int) (far : Bool) : Bs := ⟨s, if far then (s.length : Int) - 1 else 0, row⟩
def mostB (R S L : Nat) : Nat := R * L * S ^ L
def thr (M : Mach) (R S : Nat) (s : List Int) (row : Int) (far : Bool) : ThR := bgo M (mostB R S s.length + 1) (st0 s row far) 0
section
variable {M : Mach} {R S L : Nat} {s : List Int} {row : Int} {far : Bool}
theorem st0_ok (h : SOk S s) (l : 1 ≤ s.length) (r0 : 0 ≤ row) (r1 : row < R) : BOk R S s.length (st0 s row far) := by
  refine ⟨rfl, h, ?_, ?_, r0, r1⟩
  · show 0 ≤ (if far then (s.length : Int) - 1 else 0); split <;> omega
  · show (if far then (s.length : Int) - 1 else 0) < s.length; split <;> omega
theorem thr_stay (hM : MOk M R S) (h : SOk S s) (l : 1 ≤ s.length) (r0 : 0 ≤ row) (r1 : row < R) (e : thr M R S s row far = .stay) : NV M (st0 s row far) :=
  nv_of hM (st0_ok h l r0 r1) (Nat.le_succ _) (bgo_stay _ _ _ e)
theorem thr_nv (e : NV M (st0 s row far)) : thr M R S s row far = .stay := e.stay _ _
theorem thr_fin {w s' r x m} (e : thr M R S s row far = .fin w s' r x m) : ∃ (i : Nat) (c : Bs) (d : Int), tj M i (st0 s row far) = some c ∧ bn M c = .lv w s' r x d ∧ m = i + d := by
  obtain ⟨i, c, d, _, h1, h2, h3⟩ := bgo_fin _ _ _ _ _ _ _ _ e
  exact ⟨i, c, d, h1, h2, by omega⟩
theorem thr_of (hM : MOk M R S) (h : SOk S s) (l : 1 ≤ s.length) (r0 : 0 ≤ row) (r1 : row < R) {i : Nat} {c : Bs} {w s' r x d} (e : tj M i (st0 s row far) = some c) (e' : bn M c = .lv w s' r x d) : thr M R S s row far = .fin w s' r x (i + d) := by
  by_cases z : i < mostB R S s.length + 1
  · have := bgo_of (M := M) i _ (st0 s row far) 0 c w s' r x d e e' z
    rw [Int.zero_add] at this
    exact this
  · exfalso
    have nv := nv_of (N := i) hM (st0_ok (far := far) h l r0 r1) (by unfold mostB at z; omega) (by rw [e]; exact fun z => nomatch z)
    exact nv (i + 1) (by rw [tj_at e, tj_lv e'])
end
/-! ### what is told of a block, as a datum -/
theorem all_ints {H : Hp} : ∀ s : List Int, IsAll H (s.map V.int) s := fun s => ⟨by rw [List.length_map], fun i x y h k => by
  rw [List.getElem?_map, k] at h
  cases h; rfl⟩
def ThR.py : ThR → PyData
  | .stay => .tuple [.str tStay.x]
  | .fin w s r x n => .tuple [.str w.x, .tuple (s.map .int), .int r, .int x, .int n]
def ThR.rep (H : Hp) (v : V) : ThR → Prop
  | .stay => ∃ p, v = .ref p ∧ H p = some (.tup [.str tStay.x])
  | .fin w s r x n => ∃ p q, v = .ref p ∧ H p = some (.tup [.str w.x, .ref q, .int r, .int x, .int n]) ∧ H q = some (.tup (s.map V.int))
theorem can_ints (s : List Int) : PyData.canLayAll0 (s.map .int) = true := can_all (α := Int) s
theorem depth_ints (s : List Int) : PyData.depthAll (s.map .int) ≤ 0 := depth_all (α := Int) s
theorem eqv_ints (a b : List Int) : PyData.eqvAll (a.map .int) (b.map .int) = true ↔ a = b := eqv_all (α := Int) a b
instance : Dat ThR where
  rep := ThR.rep
  mono := fun {H H' v d} s h => by
    cases d with
    | stay => obtain ⟨p, e, h⟩ := h; exact ⟨p, e, s _ _ h⟩
    | fin w l r x n => obtain ⟨p, q, e, h, k⟩ := h; exact ⟨p, q, e, s _ _ h, s _ _ k⟩
  py := ThR.py
  dp := fun {K H v d} h => by
    cases d with
    | stay => obtain ⟨p, rfl, h⟩ := h; exact .tup (SqT.of h) (.cons (.str _) .nil)
    | fin w l r x n =>
      obtain ⟨p, q, rfl, h, k⟩ := h
      exact .tup (SqT.of h) (.cons (.str _) (.cons (.tup (SqT.of k) (dp_all (α := Int) (all_ints l))) (.cons (.int _) (.cons (.int _) (.cons (.int _) .nil)))))
  can := fun d => by
    cases d with
    | stay => decide +kernel
    | fin w l r x n =>
      show (PyData.canLay0 (.str w.x) && (PyData.canLayAll0 (l.map .int) && (true && (true && (true && true))))) = true
      rw [show PyData.canLay0 (.str w.x) = true from w.ok, can_ints]
      rfl
  dep := 2
  depth := fun d => by
    cases d with
    | stay => decide +kernel
    | fin w l r x n =>
      have h := depth_ints l
      show max 0 (max (PyData.depthAll (l.map .int) + 1) (max 0 (max 0 (max 0 0)))) + 1 ≤ 2
      omega
  eqv := fun a b => by
    cases a with
    | stay =>
      cases b with
      | stay => simp [ThR.py, PyData.eqv, PyData.eqvAll]
      | fin w l r x n => simp [ThR.py, PyData.eqv, PyData.eqvAll]
    | fin w l r x n =>
      cases b with
      | stay => simp [ThR.py, PyData.eqv, PyData.eqvAll]
      | fin w' l' r' x' n' =>
        obtain ⟨wx, wo⟩ := w
        obtain ⟨wx', wo'⟩ := w'
        simp only [ThR.py, PyData.eqv, PyData.eqvAll, Bool.and_eq_true, eqv_ints, decide_eq_true_eq, beq_iff_eq, ThR.fin.injEq, TStr.mk.injEq, and_true]
theorem units65 {k : Nat} {A : Around} (r : Room k A) : A.units + 65 < cLine := by have := r.un; omega
/-! ### most_setups, through -/
theorem ixN_of {n : Nat} {i : Int} (h0 : 0 ≤ i) (h1 : i < n) : ixN n i = some i.toNat := by
  unfold ixN
  rw [if_pos h0, if_pos h1]
theorem int_eq2 {a b : Int} : decide (V.int a = V.int b) = decide (a = b) := by
  by_cases h : a = b
  · subst h; rw [decide_eq_true rfl, decide_eq_true rfl]
  · rw [decide_eq_false h, decide_eq_false fun e => h (V.int.inj e)]
theorem most_le {R S L : Nat} (hR : R ≤ 4) (hS : S ≤ 4) (hL : L ≤ 8) {i : Nat} (hi : i ≤ L) : R * L * S ^ i ≤ 2097152 := by
  have a : S ^ i ≤ 4 ^ 8 := Nat.le_trans (Nat.pow_le_pow_left hS i) (Nat.pow_le_pow_right (by decide) (by omega))
  have b : R * L ≤ 4 * 8 := Nat.mul_le_mul hR hL
  exact Nat.le_trans (Nat.mul_le_mul b a) (by decide)
def sp_most_setups : Sp := fun vs H Q _ => ∃ (F : Hp) (m : V) (b : Addr) (M : Mach) (R S : Nat) (s : List Int), vs = [m, .ref b] ∧ Same F H ∧ Is F m M ∧ MOk M R S ∧ F b = some (.tup (s.map V.int)) ∧ s.length ≤ 8 ∧ Q (.int (mostB R S s.length : Nat)) H
theorem ok_most_setups (t : Tx K mg) : FnOk P w K mg base CX0 1 t.a_most_setups t.fd_most_setups ["machine", "block"] sp_most_setups := by
  refine t.F_most_setups.ok sc_most_setups (fun vs H Q E h => ?_) (fun cdv A outer s H vs Q E hr h => ?_)
  · obtain ⟨F, m, b, M, R, S, ss, rfl, _⟩ := h
    rfl
  · obtain ⟨F, m, b, M, R, S, ss, rfl, sF, hm, hM, hb, l8, q⟩ := h
    refine ⟨_, (pss_cons (ps_set (i := 2) sc_most_setups.nd rfl (by first | exact Or.inl rfl | exact Or.inr rfl) (pe_op op_mul (pe_callB (id := "len") call_lenQ (by rfl) t.n_len (by decide +kernel) (pa_cons (pv 0) pa_nil)) (pe_callB (id := "len") call_lenQ (by rfl) t.n_len (by decide +kernel) (pa_cons (pv 1) pa_nil))))
      (pss_cons (ps_for PassesOwn.never rfl (pi_tup (pv 1)) (pg_name (i := 3) sc_most_setups.nd rfl (by first | exact Or.inl rfl | exact Or.inr rfl)) (pss_one (ps_set (i := 2) sc_most_setups.nd rfl (by first | exact Or.inl rfl | exact Or.inr rfl) (pe_op op_mul (pv 2) (pe_callB (id := "len") call_lenQ (by rfl) t.n_len (by decide +kernel) (pa_cons (pe_ix ix_list (pv 0) pe_int (fun _ _ => rfl)) pa_nil))))))
      (pss_one (ps_ret (pv 2))))), ?_⟩
    obtain ⟨am, rs, rfl, ha, hrs⟩ := hm
    have lrs : rs.length = R := hrs.1.trans hM.len
    have r1 := hM.r1; have r4 := hM.r4; have s2 := hM.s2; have s4 := hM.s4
    have hx0 : rs[0]? = some rs[0] := List.getElem?_eq_getElem (by omega)
    obtain ⟨row0, hM0, a0, es0, e0, ha0, hes0⟩ := hrs.get' hx0
    have ls0 : es0.length = S := hes0.1.trans (hM.row _ (List.mem_of_getElem? hM0))
    have lb : (ss.map V.int).length = ss.length := List.length_map ..
    refine ⟨_, rfl, am, rs, rfl, .inl (SqL.of (sF _ _ ha)), _, rfl, b, _, rfl, .inr (SqT.of (sF _ _ hb)), _, _, rfl, rfl, .inl ⟨by omega, by omega⟩, ?_⟩
    refine ⟨_, rfl, b, rfl, ⟨_, SqT.of (sF _ _ hb)⟩, for_tup (K := K) (a := b) (xs := ss.map V.int) (fun i σ G => ∃ v3 : Option V, σ = [some (.ref am), some (.ref b), some (.int (R * ss.length * S ^ i : Nat)), v3] ∧ G = H)
      ⟨none, by rw [lrs, lb, Nat.pow_zero, Nat.mul_one, Int.natCast_mul]; rfl, rfl⟩ (fun i σ G _ ⟨_, _, e⟩ => by rw [e]; exact SqT.of (sF _ _ hb)) ?_ ?_⟩
    · rintro i x σ G hi ⟨v3, rfl, rfl⟩
      have il : i < ss.length := by have := (List.getElem?_eq_some_iff.mp hi).1; omega
      have bd := most_le r4 s4 l8 (Nat.le_of_lt il)
      refine ⟨_, rfl, _, rfl, am, rs, _, _, rfl, rfl, SqL.of (sF _ _ ha), atI_nat (j := 0) hx0, ?_⟩
      rw [e0]
      refine ⟨a0, es0, rfl, .inl (SqL.of (sF _ _ ha0)), _, _, rfl, rfl, .inl ⟨by omega, by omega⟩, some x, ?_, rfl⟩
      rw [ls0, Nat.pow_succ, ← Nat.mul_assoc]
      rfl
    · rintro σ G ⟨v3, rfl, rfl⟩
      rw [lb]
      exact ⟨_, rfl, q⟩
def sp_through : Sp := fun vs H Q _ => ∃ (F : Hp) (m : V) (b : Addr) (M : Mach) (R S : Nat) (s : List Int) (row side : Int), vs = [m, .ref b, .int row, .int side] ∧ Same F H ∧ Is F m M ∧ MOk M R S ∧ F b = some (.tup (s.map V.int)) ∧ SOk S s ∧ 1 ≤ s.length ∧ s.length ≤ 8 ∧ 0 ≤ row ∧ row < R ∧
  ∀ (F' H' : Hp) (v : V), Gr mu0 F H F' H' → Is F' v (thr M R S s row (decide (side = 1))) → Q v H'
theorem ok_through (t : Tx K mg) : FnOk P w K mg base CX0 4 t.a_through t.fd_through ["machine", "block", "row", "side"] sp_through := by
  refine t.F_through.ok sc_through (fun vs H Q E h => ?_) (fun cdv A outer s H vs Q E hr h => ?_)
  · obtain ⟨F, m, b, M, R, S, ss, row, side, rfl, _⟩ := h
    rfl
  · obtain ⟨F, m, b, M, R, S, ss, row, side, rfl, sF, hm, hM, hb, hs, l1, l8, r0, r1, q⟩ := h
    refine ⟨_, (pss_cons (ps_expr (pe_call (ok_must_machine t) (hr.mono (by decide)) (by rfl) t.m_must_machine t.F_must_machine.kp t.b_must_machine .nil pass0 (pa_cons (pv 0) pa_nil)))
      (pss_cons (ps_set (i := 4) sc_through.nd rfl (by first | exact Or.inl rfl | exact Or.inr rfl) (pe_callTy (T := "list") call_listQ (by rfl) t.n_list (by decide +kernel) (pa_cons (pv 1) pa_nil)))
      (pss_cons (ps_set (i := 5) sc_through.nd rfl (by first | exact Or.inl rfl | exact Or.inr rfl) pe_int)
      (pss_cons (ps_if (pt_cmpR op_eq (pv 3) pe_int (nomark _)) (pss_one (ps_set (i := 5) sc_through.nd rfl (by first | exact Or.inl rfl | exact Or.inr rfl) (pe_op op_sub (pe_callB (id := "len") call_lenQ (by rfl) t.n_len (by decide +kernel) (pa_cons (pv 4) pa_nil)) pe_int))) pss_nil)
      (pss_cons (ps_for PassesOwn.never rfl (pi_range1 (by rfl) t.n_range (pa_cons (pe_op op_add (pe_call (ok_most_setups t) (hr.mono (by decide)) (by rfl) t.m_most_setups t.F_most_setups.kp t.b_most_setups .nil pass0 (pa_cons (pv 0) (pa_cons (pv 1) pa_nil))) pe_int) pa_nil)) (pg_name (i := 6) sc_through.nd rfl (by first | exact Or.inl rfl | exact Or.inr rfl)) (pss_cons (ps_set (i := 7) sc_through.nd rfl (by first | exact Or.inl rfl | exact Or.inr rfl) (pe_ix ix_list (pe_ix ix_list (pv 0) (pv 2) (fun _ _ => rfl)) (pe_ix ix_list (pv 4) (pv 5) (fun _ _ => rfl)) (fun _ _ => rfl)))
      (pss_cons (ps_if (pt_cmpR (op_eqD hr.units) (pv 7) (pe_tup pa_nil) (nomark _)) (pss_one (ps_ret (pe_tup (pa_cons pe_str (pa_cons (pe_callTy (T := "tuple") call_tupQ (by rfl) t.n_tuple (by decide +kernel) (pa_cons (pv 4) pa_nil)) (pa_cons (pv 2) (pa_cons (pv 5) (pa_cons (pv 6) pa_nil)))))))) pss_nil)
      (pss_cons (ps_asg (pe_ix ix_tup (pv 7) pe_int (fun _ _ => rfl)) (pg_sub (pv 4) (pv 5) set_list))
      (pss_cons (ps_aug (i := 5) sc_through.nd rfl (by first | exact Or.inl rfl | exact Or.inr rfl) (pe_ix ix_tup (pv 7) pe_int (fun _ _ => rfl)) ip_add)
      (pss_cons (ps_set (i := 2) sc_through.nd rfl (by first | exact Or.inl rfl | exact Or.inr rfl) (pe_ix ix_tup (pv 7) pe_int (fun _ _ => rfl)))
      (pss_one (ps_if (pt_not (pt_chain op_le op_lt pe_int (pv 5) (pe_callB (id := "len") call_lenQ (by rfl) t.n_len (by decide +kernel) (pa_cons (pv 4) pa_nil)))) (pss_one (ps_ret (pe_tup (pa_cons pe_str (pa_cons (pe_callTy (T := "tuple") call_tupQ (by rfl) t.n_tuple (by decide +kernel) (pa_cons (pv 4) pa_nil)) (pa_cons (pv 2) (pa_cons (pe_ix ix_tup (pv 7) pe_int (fun _ _ => rfl)) (pa_cons (pe_op op_add (pv 6) pe_int) pa_nil)))))))) pss_nil))))))))
      (pss_one (ps_ret (pe_tup (pa_cons pe_str pa_nil))))))))), ?_⟩
    refine ⟨_, rfl, F, m, M, R, S, rfl, sF, hm, hM, fun H1 g1 => ?_⟩
    refine ⟨_, rfl, b, _, rfl, .inr (SqT.of (g1.fh _ _ hb)), fun l nl => ?_⟩
    have g2 := g1.own (o := .lst (ss.map V.int)) nl
    have w2 : Ow H F (upd H1 l (.lst (ss.map V.int))) l (.lst (ss.map V.int)) := Ow.mk1 g1 nl
    generalize upd H1 l (.lst (ss.map V.int)) = H2 at g2 w2 ⊢
    refine ⟨_, rfl, rfl, _, rfl, ?_⟩
    rw [int_eq2]
    have lb : (ss.map V.int).length = ss.length := List.length_map ..
    have mb := most_le (S := S) hM.r4 hM.s4 l8 (Nat.le_refl _)
    refine ite2 (fun c => ?A) (fun c => ?B)
    case' A =>
      refine ⟨_, rfl, l, _, rfl, .inl (SqL.of w2.h), _, _, rfl, rfl, ?_⟩
      have ep : (st0 ss row (decide (side = 1))).p = ((ss.map V.int).length : Int) - 1 := by rw [lb]; unfold st0; rw [if_pos c]
    case' B =>
      have ep : (st0 ss row (decide (side = 1))).p = 0 := by unfold st0; rw [if_neg c]
    all_goals
      refine ⟨_, rfl, _, rfl, F, m, b, M, R, S, ss, rfl, g2.fh, hm, hM, hb, l8, _, _, rfl, rfl, ((mostB R S ss.length : Nat) : Int) + 1, rfl, by omega, by unfold mostB; omega, ?_⟩
      refine for_range (lo := 0) (n := (((mostB R S ss.length : Nat) : Int) + 1).toNat) (fun i σ G => ∃ (c : Bs) (v6 v7 : Option V), σ = [some m, some (.ref b), some (.int c.r), some (.int side), some (.ref l), some (.int c.p), v6, v7] ∧ Gr mu0 F H F G ∧ Ow H F G l (.lst (c.s.map V.int)) ∧ BOk R S ss.length c ∧ thr M R S ss row (decide (side = 1)) = bgo M (mostB R S ss.length + 1 - i) c i)
        ⟨st0 ss row (decide (side = 1)), none, none, by rw [ep]; rfl, g2, w2, st0_ok hs l1 r0 r1, rfl⟩ ?_ ?_
      · rintro i σ G hi ⟨c, v6, v7, rfl, g, w, ok, et⟩
        have en : mostB R S ss.length + 1 - i = (mostB R S ss.length - i) + 1 := by omega
        rw [en] at et
        have lc := ok.len
        have c0 := ok.p0
        have c1 := ok.p1
        obtain ⟨rw', hrw, he, eo⟩ := ent_of hM ok.r0 ok.r1 ok.sgB.2.1 ok.sgB.2.2
        obtain ⟨am, rs, rfl, ha, hrs⟩ := id hm
        obtain ⟨y, hy, bm, es', rfl, hbm, hes⟩ := hrs.get hrw
        obtain ⟨z, hz, hze⟩ := hes.get he
        have hsg : (c.s.map V.int)[c.p.toNat]? = some (.int (sgB c)) := by rw [List.getElem?_map, ok.sgB.1]; rfl
        refine ⟨_, rfl, _, rfl, am, rs, _, _, rfl, rfl, SqL.of (g.fh _ _ ha), at_of (Int.toNat_of_nonneg ok.r0).symm hy, ?_⟩
        refine ⟨_, rfl, _, rfl, l, _, _, _, rfl, rfl, SqL.of w.h, at_of (Int.toNat_of_nonneg c0).symm hsg, bm, es', _, _, rfl, rfl, SqL.of (g.fh _ _ hbm), at_of (Int.toNat_of_nonneg ok.sgB.2.1).symm hz, ?_⟩
        refine ⟨_, rfl, nil_le, fun e1 ne1 => ?_⟩
        have gg := g.own (o := .tup []) ne1
        have ww := w.own (u := .tup []) ne1
        refine eq_dat (a := entAt M c.r (sgB c)) (b := Ent.emp) (hze.up gg.fh) ⟨e1, rfl, upd_same⟩ ⟨_, rfl, ?_⟩
        generalize upd G e1 (.tup []) = G1 at gg ww ⊢
        -- what is told when it leaves
        have fin : ∀ (s' : List Int) (tg : TStr) (r x n : Int) (G2 : Hp), Gr mu0 F H F G2 → thr M R S ss row (decide (side = 1)) = .fin tg s' r x n → ∀ p, G2 p = none → ∀ u, upd G2 p (.tup (s'.map V.int)) u = none → Q (.ref u) (upd (upd G2 p (.tup (s'.map V.int))) u (.tup [.str tg.x, .ref p, .int r, .int x, .int n])) := by
          intro s' tg r x n G2 k e p np u nu
          have k1 := k.new (o := .tup (s'.map V.int)) np
          have n2 : (upd F p (.tup (s'.map V.int))) u = none := k1.fh.free nu
          refine q _ _ (.ref u) (k1.new (o := .tup [.str tg.x, .ref p, .int r, .int x, .int n]) nu) ?_
          rw [e]
          exact ⟨u, p, rfl, upd_same, ln n2 upd_same⟩
        cases ee : entAt M c.r (sgB c) with
        | emp =>
          refine ifT (decide_eq_true rfl) ⟨_, rfl, l, _, rfl, .inl ⟨SqL.of ww.h, fun p np => ⟨_, rfl, _, rfl, _, rfl, five_le, fun u nu => ?_⟩⟩⟩
          refine fin c.s tEnd c.r c.p _ G1 gg ?_ p np u nu
          rw [et, bgo_lv (bn_emp ee)]
          congr 1; omega
        | go pu wa to =>
          rw [ee] at hze eo
          obtain ⟨o1, o2, o3⟩ := eo.ok _ _ _ rfl
          obtain ⟨ae, rfl, hae⟩ := hze
          have hae1 := gg.fh _ _ hae
          refine ifF (decide_eq_false (by intro z; cases z)) ?_
          refine ⟨_, rfl, ae, _, _, _, rfl, rfl, SqT.of hae1, atI_nat (j := 0) rfl, _, rfl, _, rfl, l, _, _, c.p.toNat, rfl, rfl, ww.h, ixN_of c0 (by rw [List.length_map]; omega), ?_⟩
          have g3 := gg.set (o := .lst ((c.s.map V.int).set c.p.toNat (.int pu))) ww.f (.inl ww.n)
          have w3 := ww.set (u := .lst ((c.s.map V.int).set c.p.toNat (.int pu)))
          rw [← List.map_set] at g3 w3 ⊢
          generalize upd G1 l (.lst ((c.s.set c.p.toNat pu).map V.int)) = G3 at g3 w3 ⊢
          have hae3 := g3.fh _ _ hae
          refine ⟨_, rfl, _, rfl, ae, _, _, _, rfl, rfl, SqT.of hae3, atI_nat (j := 1) rfl, _, _, rfl, rfl, ?_⟩
          refine ⟨_, rfl, ae, _, _, _, rfl, rfl, SqT.of hae3, atI_nat (j := 2) rfl, ?_⟩
          have ll : ((c.s.set c.p.toNat pu).map V.int).length = c.s.length := by rw [List.length_map, List.length_set]
          refine ⟨_, rfl, _, _, rfl, rfl, _, rfl, ?_⟩
          by_cases z : 0 ≤ c.p + wa ∧ c.p + wa < (c.s.length : Int)
          · refine ifT (decide_eq_true z.1) ⟨_, rfl, l, _, rfl, .inl (SqL.of w3.h), _, _, rfl, rfl, _, rfl, ?_⟩
            refine ifF (by rw [ll, decide_eq_true z.2]; rfl) ?_
            refine ⟨⟨c.s.set c.p.toNat pu, c.p + wa, to⟩, _, _, rfl, g3, w3, bn_ok ok hM (bn_go ee z), ?_⟩
            rw [et, bgo_nxt (bn_go ee z), show mostB R S ss.length + 1 - (i + 1) = mostB R S ss.length - i by omega]
            congr 1
          · by_cases k : 0 ≤ c.p + wa
            · refine ifT (decide_eq_true k) ⟨_, rfl, l, _, rfl, .inl (SqL.of w3.h), _, _, rfl, rfl, _, rfl, ?_⟩
              refine ifT (by rw [ll, decide_eq_false (fun y => z ⟨k, y⟩)]; rfl) ?_
              refine ⟨_, rfl, l, _, rfl, .inl ⟨SqL.of w3.h, fun p np => ⟨_, rfl, _, rfl, ae, _, _, _, rfl, rfl, SqT.of (ln np hae3), atI_nat (j := 1) rfl, _, rfl, _, _, rfl, rfl, five_le, fun u nu => ?_⟩⟩⟩
              refine fin (c.s.set c.p.toNat pu) tOut to wa _ G3 g3 ?_ p np u nu
              rw [et, bgo_lv (bn_out ee z)]
              congr 1; omega
            · refine ifF (decide_eq_false k) ⟨_, rfl, ?_⟩
              refine ifT rfl ?_
              refine ⟨_, rfl, l, _, rfl, .inl ⟨SqL.of w3.h, fun p np => ⟨_, rfl, _, rfl, ae, _, _, _, rfl, rfl, SqT.of (ln np hae3), atI_nat (j := 1) rfl, _, rfl, _, _, rfl, rfl, five_le, fun u nu => ?_⟩⟩⟩
              refine fin (c.s.set c.p.toNat pu) tOut to wa _ G3 g3 ?_ p np u nu
              rw [et, bgo_lv (bn_out ee z)]
              congr 1; omega
      · rintro σ G ⟨c, v6, v7, rfl, g, w, ok, et⟩
        refine ⟨one_le, fun u nu => ?_⟩
        refine q _ _ (.ref u) (g.new (o := .tup [.str tStay.x]) nu) ?_
        rw [et, show mostB R S ss.length + 1 - (((mostB R S ss.length : Nat) : Int) + 1).toNat = 0 by omega]
        exact ⟨u, rfl, upd_same⟩
/-! ### strips told, whatever keeps them (plain) -/
structure IsSt (l : List PI) (f : Int → Int) : Prop where
  rise : l.Pairwise (fun p q => p.a < q.a)
  mem : ∀ x s, (⟨x, s⟩ : PI) ∈ l ↔ (f x = s ∧ s ≠ 0)
theorem IsSt.nz {l : List PI} {f : Int → Int} (h : IsSt l f) {p : PI} (m : p ∈ l) : f p.a = p.b ∧ p.b ≠ 0 := (h.mem p.a p.b).mp m
theorem rise_eq : ∀ {l m : List PI}, l.Pairwise (fun p q => p.a < q.a) → m.Pairwise (fun p q => p.a < q.a) → (∀ p, p ∈ l ↔ p ∈ m) → l = m
  | [], [], _, _, _ => rfl
  | [], q :: m, _, _, h => nomatch (h q).mpr (List.mem_cons_self ..)
  | p :: l, [], _, _, h => nomatch (h p).mp (List.mem_cons_self ..)
  | p :: l, q :: m, hl, hm, h => by
    obtain ⟨hp, hl2⟩ := List.pairwise_cons.mp hl
    obtain ⟨hq, hm2⟩ := List.pairwise_cons.mp hm
    have e : p = q := by
      rcases List.mem_cons.mp ((h p).mp (List.mem_cons_self ..)) with e | m1
      · exact e
      · rcases List.mem_cons.mp ((h q).mpr (List.mem_cons_self ..)) with e | m2
        · exact e.symm
        · have a := hq p m1
          have b := hp q m2
          omega
    subst e
    congr 1
    refine rise_eq hl2 hm2 fun r => ⟨fun z => ?_, fun z => ?_⟩
    · rcases List.mem_cons.mp ((h r).mp (List.mem_cons_of_mem _ z)) with e | m1
      · subst e; have := hp _ z; omega
      · exact m1
    · rcases List.mem_cons.mp ((h r).mpr (List.mem_cons_of_mem _ z)) with e | m1
      · subst e; have := hq _ z; omega
      · exact m1
theorem IsSt.uniq {l m : List PI} {f : Int → Int} (h : IsSt l f) (k : IsSt m f) : l = m := rise_eq h.rise k.rise fun p => (h.mem p.a p.b).trans (k.mem p.a p.b).symm
/-- the sign at x of a strip kept by blocks of k -/
def fB (k : Nat) (B : Int → List Int) (x : Int) : Int := ((B (x / (k : Int)))[(x % (k : Int)).toNat]?).getD 0
def piece (base : Int) : List Int → List PI
  | [] => []
  | s :: r => (if s ≠ 0 then [⟨base, s⟩] else []) ++ piece (base + 1) r
theorem mem_piece : ∀ (s : List Int) (base x v : Int), (⟨x, v⟩ : PI) ∈ piece base s ↔ ∃ j : Nat, x = base + j ∧ s[j]? = some v ∧ v ≠ 0
  | [], base, x, v => by simp [piece]
  | s :: r, base, x, v => by
    rw [piece, List.mem_append, mem_piece r (base + 1) x v]
    constructor
    · rintro (h | ⟨j, h1, h2, h3⟩)
      · by_cases z : s ≠ 0
        · rw [if_pos z, List.mem_singleton] at h
          cases h
          exact ⟨0, by omega, rfl, z⟩
        · rw [if_neg z] at h; cases h
      · exact ⟨j + 1, by omega, h2, h3⟩
    · rintro ⟨j, h1, h2, h3⟩
      cases j with
      | zero =>
        cases h2
        refine .inl ?_
        rw [if_pos h3, List.mem_singleton, show x = base by omega]
      | succ j => exact .inr ⟨j, by omega, h2, h3⟩
theorem piece_rise : ∀ (s : List Int) (base : Int), (piece base s).Pairwise (fun p q => p.a < q.a)
  | [], _ => .nil
  | s :: r, base => by
    rw [piece, List.pairwise_append]
    refine ⟨by split <;> simp, piece_rise r (base + 1), fun p hp q hq => ?_⟩
    obtain ⟨x, v⟩ := q
    obtain ⟨j, h1, _, _⟩ := (mem_piece r (base + 1) x v).mp hq
    have : p.a = base := by
      split at hp
      · rw [List.mem_singleton.mp hp]
      · cases hp
    show p.a < x
    omega
theorem piece_snoc : ∀ (s : List Int) (base : Int) (v : Int), piece base (s ++ [v]) = piece base s ++ (if v ≠ 0 then [⟨base + s.length, v⟩] else [])
  | [], base, v => by
    show (if v ≠ 0 then ([⟨base, v⟩] : List PI) else []) ++ [] = [] ++ _
    rw [List.append_nil, List.nil_append, show base + ((([] : List Int).length : Nat) : Int) = base by simp]
  | s :: r, base, v => by
    rw [List.cons_append, piece, piece, piece_snoc r (base + 1) v, List.append_assoc]
    congr 2
    rw [show base + 1 + (r.length : Int) = base + ((s :: r).length : Int) by simp; omega]
def stripO (k : Nat) (B : Int → List Int) (ys : List Int) : List PI := ys.flatMap fun a => piece (a * k) (B a)
theorem strip_ok {k : Nat} (k1 : 1 ≤ k) {B : Int → List Int} (hB : ∀ a, (B a).length = k) {ys : List Int} (hy : ys.Pairwise (· < ·)) (out : ∀ a, a ∉ ys → ∀ v ∈ B a, v = 0) : IsSt (stripO k B ys) (fB k B) := by
  have pl : ∀ (a x v : Int), (⟨x, v⟩ : PI) ∈ piece (a * k) (B a) → a * k ≤ x ∧ x < a * k + k := fun a x v m => by
    obtain ⟨j, h1, h2, _⟩ := (mem_piece _ _ x v).mp m
    have := (List.getElem?_eq_some_iff.mp h2).1
    rw [hB] at this
    omega
  refine ⟨?_, fun x s => ?_⟩
  · unfold stripO
    rw [List.pairwise_flatMap]
    refine ⟨fun a _ => piece_rise _ _, hy.imp fun {a b} ab p hp q hq => ?_⟩
    obtain ⟨x, v⟩ := p
    obtain ⟨y, u⟩ := q
    have h1 := pl a x v hp
    have h2 := pl b y u hq
    show x < y
    have : (a + 1) * (k : Int) ≤ b * k := Int.mul_le_mul_of_nonneg_right (by omega) (by omega)
    rw [Int.add_mul, Int.one_mul] at this
    omega
  · unfold stripO
    rw [List.mem_flatMap]
    have km : (k : Int) ≠ 0 := by omega
    have hd := Int.mul_ediv_add_emod x k
    have h0 := Int.emod_nonneg x km
    have h1 := Int.emod_lt_of_pos x (show (0 : Int) < k by omega)
    have hc := Int.mul_comm (x / (k : Int)) k
    constructor
    · rintro ⟨a, ha, hm⟩
      have hp := pl a x s hm
      obtain ⟨j, e1, e2, e3⟩ := (mem_piece _ _ x s).mp hm
      have ea : x / (k : Int) = a := by
        have := (Int.ediv_emod_unique (a := x) (b := k) (r := j) (q := a) (by omega)).mpr ⟨by rw [Int.mul_comm]; omega, by omega, by omega⟩
        exact this.1
      have ej : x % (k : Int) = j := by
        have := (Int.ediv_emod_unique (a := x) (b := k) (r := j) (q := a) (by omega)).mpr ⟨by rw [Int.mul_comm]; omega, by omega, by omega⟩
        exact this.2
      refine ⟨?_, e3⟩
      unfold fB
      rw [ea, ej, Int.toNat_natCast, e2]; rfl
    · rintro ⟨hf, hs⟩
      have l : (x % (k : Int)).toNat < (B (x / (k : Int))).length := by rw [hB]; omega
      have e : (B (x / (k : Int)))[(x % (k : Int)).toNat]? = some s := by
        rw [List.getElem?_eq_getElem l]
        unfold fB at hf
        rw [List.getElem?_eq_getElem l] at hf
        exact congrArg some hf
      refine ⟨x / (k : Int), ?_, (mem_piece _ _ x s).mpr ⟨(x % (k : Int)).toNat, by omega, e, hs⟩⟩
      by_cases z : x / (k : Int) ∈ ys
      · exact z
      · exact absurd (out _ z s (List.mem_of_getElem? e)) hs
/-! ### walks by blocks (plain) -/
structure Wk where
  B : Int → List Int
  at_ : Int
  row : Int
  far : Bool
  st : Int
def updB (B : Int → List Int) (a : Int) (s : List Int) : Int → List Int := fun x => if x = a then s else B x
def Wk.out (W : Wk) (s : List Int) (r wa m : Int) : Wk := ⟨updB W.B W.at_ s, W.at_ + wa, r, decide (-wa = 1), W.st + m⟩
def plB (k : Nat) (W : Wk) : Int := W.at_ * k + (if W.far then (k : Int) - 1 else 0)
structure ByR where
  w : TStr
  st : Int
  row : Int
  pl : Int
  B : Int → List Int
def tOnB : TStr := ⟨"on", by decide +kernel⟩
def byB (M : Mach) (R S k : Nat) : Nat → Wk → ByR
  | 0, W => ⟨tOnB, W.st, W.row, plB k W, W.B⟩
  | n + 1, W => match thr M R S (W.B W.at_) W.row W.far with
    | .stay => ⟨tStay, W.st, W.row, plB k W, W.B⟩
    | .fin w s r x m => if w = tEnd then ⟨tEnd, W.st + m, r, W.at_ * k + x, updB W.B W.at_ s⟩ else byB M R S k n (W.out s r x m)
theorem byB_stay {M : Mach} {R S k n : Nat} {W : Wk} (e : thr M R S (W.B W.at_) W.row W.far = .stay) : byB M R S k (n + 1) W = ⟨tStay, W.st, W.row, plB k W, W.B⟩ := by
  rw [byB, e]
theorem byB_end {M : Mach} {R S k n : Nat} {W : Wk} {s : List Int} {r x m : Int} (e : thr M R S (W.B W.at_) W.row W.far = .fin tEnd s r x m) : byB M R S k (n + 1) W = ⟨tEnd, W.st + m, r, W.at_ * k + x, updB W.B W.at_ s⟩ := by
  rw [byB, e]
  exact if_pos rfl
theorem byB_out {M : Mach} {R S k n : Nat} {W : Wk} {s : List Int} {r x m : Int} (e : thr M R S (W.B W.at_) W.row W.far = .fin tOut s r x m) : byB M R S k (n + 1) W = byB M R S k n (W.out s r x m) := by
  rw [byB, e]
  exact if_neg (by decide +kernel)
structure OkW (R S k : Nat) (W : Wk) : Prop where
  len : ∀ a, (W.B a).length = k
  s : ∀ a, SOk S (W.B a)
  r0 : 0 ≤ W.row
  r1 : W.row < R
def W0 (k : Nat) : Wk := ⟨fun _ => List.replicate k 0, 0, 0, false, 0⟩
theorem W0_ok {R S k : Nat} (r1 : 1 ≤ R) (s1 : 1 ≤ S) : OkW R S k (W0 k) :=
  ⟨fun _ => List.length_replicate, fun _ x m => by rw [(List.mem_replicate.mp m).2]; omega, Int.le_refl 0, by show (0 : Int) < R; omega⟩
theorem updB_same {B : Int → List Int} {a : Int} {s : List Int} : updB B a s a = s := if_pos rfl
/-- what a way through a block leaves -/
theorem thr_ok {M : Mach} {R S : Nat} {s : List Int} {row : Int} {far : Bool} (hM : MOk M R S) (h : SOk S s) (l : 1 ≤ s.length) (r0 : 0 ≤ row) (r1 : row < R) {w s' r x m} (e : thr M R S s row far = .fin w s' r x m) :
    (w = tEnd ∨ w = tOut) ∧ s'.length = s.length ∧ SOk S s' ∧ (0 ≤ r ∧ r < R) ∧ 0 ≤ m ∧ (w = tEnd → 0 ≤ x ∧ x < s.length) ∧ (w = tOut → (x = -1 ∨ x = 1) ∧ 1 ≤ m) := by
  obtain ⟨i, c, d, t1, t2, t3⟩ := thr_fin e
  have okc := tj_ok hM i _ c (st0_ok (far := far) h l r0 r1) t1
  have eo := okc.ent hM
  cases ee : entAt M c.r (sgB c) with
  | emp =>
    rw [bn_emp ee] at t2
    cases t2
    exact ⟨.inl rfl, okc.len, okc.s, ⟨okc.r0, okc.r1⟩, by omega, fun _ => ⟨okc.p0, okc.p1⟩, fun z => absurd z (by decide +kernel)⟩
  | go pu wa to =>
    rw [ee] at eo
    obtain ⟨o1, o2, o3⟩ := eo.ok _ _ _ rfl
    by_cases z : 0 ≤ c.p + wa ∧ c.p + wa < (c.s.length : Int)
    · rw [bn_go ee z] at t2; cases t2
    · rw [bn_out ee z] at t2
      cases t2
      exact ⟨.inr rfl, by rw [List.length_set]; exact okc.len, okc.s.set o1, o3, by omega, fun z => absurd z.symm (by decide +kernel), fun _ => ⟨o2, by omega⟩⟩
theorem OkW.out {M : Mach} {R S k : Nat} {W : Wk} (h : OkW R S k W) (hM : MOk M R S) (k1 : 1 ≤ k) {s : List Int} {r x m : Int} (e : thr M R S (W.B W.at_) W.row W.far = .fin tOut s r x m) : OkW R S k (W.out s r x m) := by
  obtain ⟨_, h1, h2, h3, _⟩ := thr_ok hM (h.s _) (by rw [h.len]; exact k1) h.r0 h.r1 e
  refine ⟨fun a => ?_, fun a => ?_, h3.1, h3.2⟩
  · show (updB W.B W.at_ s a).length = k
    unfold updB
    split
    · rw [h1, h.len]
    · exact h.len a
  · show SOk S (updB W.B W.at_ s a)
    unfold updB
    split
    · exact h2
    · exact h.s a
/-! ### dicts from ints to data -/
abbrev DI (β : Type) := List (Int × V × β)
section
variable {β : Type}
def diK (L : DI β) : List (Key × V) := L.map fun t => (Sum.inl t.1, t.2.1)
def lkD (L : DI β) (x : Int) : Option β := (L.find? fun t => decide (t.1 = x)).map (·.2.2)
def ptD (L : DI β) (x : Int) (v : V) (d : β) : DI β := if (L.any fun t => decide (t.1 = x)) = true then L.map (fun t => if t.1 = x then (t.1, v, d) else t) else L ++ [(x, v, d)]
def DiIs [Dat β] (H : Hp) (L : DI β) : Prop := ∀ t ∈ L, Is H t.2.1 t.2.2
theorem DiIs.up [Dat β] {H H' : Hp} {L : DI β} (h : DiIs H L) (s : Same H H') : DiIs H' L := fun t m => Is.up (h t m) s
theorem lkD_cons (t : Int × V × β) (L : DI β) (x : Int) : lkD (t :: L) x = if t.1 = x then some t.2.2 else lkD L x := by
  unfold lkD
  rw [List.find?_cons]
  by_cases e : t.1 = x
  · simp [e]
  · simp [e]
theorem di_get {x : Int} {d : β} : ∀ {L : DI β}, lkD L x = some d → ∃ v, valV (diK L) (Sum.inl x) = some v ∧ (x, v, d) ∈ L
  | [], h => nomatch h
  | t :: L, h => by
    rw [lkD_cons] at h
    show ∃ v, valV ((Sum.inl t.1, t.2.1) :: diK L) (Sum.inl x) = some v ∧ _
    by_cases e : t.1 = x
    · rw [if_pos e] at h
      cases h
      refine ⟨t.2.1, valV_pos (by rw [key_inl]; exact e), ?_⟩
      rw [← e]; exact List.mem_cons_self ..
    · rw [if_neg e] at h
      obtain ⟨v, h1, h2⟩ := di_get h
      exact ⟨v, (valV_neg (by rw [key_inl]; exact e)).trans h1, List.mem_cons_of_mem _ h2⟩
theorem di_none {x : Int} : ∀ {L : DI β}, lkD L x = none → valV (diK L) (Sum.inl x) = none
  | [], _ => rfl
  | t :: L, h => by
    rw [lkD_cons] at h
    show valV ((Sum.inl t.1, t.2.1) :: diK L) (Sum.inl x) = none
    by_cases e : t.1 = x
    · rw [if_pos e] at h; cases h
    · rw [if_neg e] at h
      exact (valV_neg (by rw [key_inl]; exact e)).trans (di_none h)
theorem di_put (L : DI β) (x : Int) (v : V) (d : β) : putK (diK L) (Sum.inl x) v = diK (ptD L x v d) := by
  have e : ((diK L).any fun kv => decide (kv.1 = Sum.inl x)) = (L.any fun t => decide (t.1 = x)) := by
    unfold diK
    rw [List.any_map]
    congr 1
    funext t
    simp only [Function.comp, key_inl]
  unfold putK ptD
  rw [e]
  by_cases a : (L.any fun t => decide (t.1 = x)) = true
  · rw [if_pos a, if_pos a]
    unfold diK
    rw [List.map_map, List.map_map]
    congr 1
    funext t
    simp only [Function.comp, key_inl]
    by_cases h : t.1 = x
    · rw [if_pos h, if_pos h]
    · rw [if_neg h, if_neg h]
  · rw [if_neg a, if_neg a]
    unfold diK
    rw [List.map_append]; rfl
theorem lkD_any (x : Int) : ∀ L : DI β, (L.any fun t => decide (t.1 = x)) = (lkD L x).isSome
  | [] => rfl
  | t :: L => by
    rw [List.any_cons, lkD_any x L, lkD_cons]
    by_cases e : t.1 = x
    · simp [e]
    · simp [e]
theorem lkD_repl (x y : Int) (v : V) (d : β) : ∀ L : DI β, lkD (L.map fun t => if t.1 = x then (t.1, v, d) else t) y = (lkD L y).map fun z => if y = x then d else z
  | [] => rfl
  | t :: L => by
    rw [List.map_cons, lkD_cons, lkD_cons, lkD_repl x y v d L]
    by_cases e : t.1 = x
    · rw [if_pos e]
      by_cases f : t.1 = y
      · rw [if_pos f, if_pos f, ← f, Option.map_some, if_pos e]
      · rw [if_neg f, if_neg f]
    · rw [if_neg e]
      by_cases f : t.1 = y
      · rw [if_pos f, if_pos f, Option.map_some, if_neg (by rw [← f]; exact e)]
      · rw [if_neg f, if_neg f]
theorem lkD_snoc (x y : Int) (v : V) (d : β) : ∀ L : DI β, lkD (L ++ [(x, v, d)]) y = (lkD L y).or (if x = y then some d else none)
  | [] => by
    rw [List.nil_append, lkD_cons]
    rfl
  | t :: L => by
    rw [List.cons_append, lkD_cons, lkD_cons, lkD_snoc x y v d L]
    by_cases f : t.1 = y
    · rw [if_pos f, if_pos f]; rfl
    · rw [if_neg f, if_neg f]
theorem lkD_put (L : DI β) (x y : Int) (v : V) (d : β) : lkD (ptD L x v d) y = if y = x then some d else lkD L y := by
  unfold ptD
  by_cases a : (L.any fun t => decide (t.1 = x)) = true
  · rw [if_pos a, lkD_repl]
    by_cases e : y = x
    · rw [if_pos e, e]
      rw [lkD_any] at a
      obtain ⟨z, hz⟩ := Option.isSome_iff_exists.mp a
      rw [hz, Option.map_some, if_pos rfl]
    · rw [if_neg e]
      cases lkD L y with
      | none => rfl
      | some z => rw [Option.map_some, if_neg e]
  · rw [if_neg a, lkD_snoc]
    rw [lkD_any] at a
    by_cases e : y = x
    · rw [if_pos e, e, if_pos rfl]
      cases h : lkD L x with
      | none => rfl
      | some z => rw [h] at a; exact absurd rfl a
    · rw [if_neg e, if_neg (fun z => e z.symm)]
      cases lkD L y <;> rfl
theorem DiIs.put [Dat β] {H : Hp} {L : DI β} {x : Int} {v : V} {d : β} (h : DiIs H L) (k : Is H v d) : DiIs H (ptD L x v d) := fun t m => by
  unfold ptD at m
  split at m
  · obtain ⟨t0, m0, rfl⟩ := List.mem_map.mp m
    have z := h t0 m0
    show Is H (if t0.1 = x then (t0.1, v, d) else t0).2.1 (if t0.1 = x then (t0.1, v, d) else t0).2.2
    split
    · exact k
    · exact z
  · rcases List.mem_append.mp m with m | m
    · exact h t m
    · rw [List.mem_singleton.mp m]; exact k
theorem ptD_len (L : DI β) (x : Int) (v : V) (d : β) : (ptD L x v d).length ≤ L.length + 1 := by
  unfold ptD
  split
  · rw [List.length_map]; omega
  · rw [List.length_append]; exact Nat.le_refl _
theorem diK_len (L : DI β) : (diK L).length = L.length := List.length_map ..
/-- no key twice -/
def NdI (L : DI β) : Prop := (L.map (·.1)).Nodup
theorem lkD_mem {L : DI β} {x : Int} : x ∈ L.map (·.1) ↔ lkD L x ≠ none := by
  induction L with
  | nil => simp [lkD]
  | cons t L ih =>
    rw [List.map_cons, List.mem_cons, ih, lkD_cons]
    by_cases e : t.1 = x
    · rw [if_pos e]; simp [e]
    · rw [if_neg e]
      constructor
      · rintro (z | z)
        · exact absurd z.symm e
        · exact z
      · exact .inr
theorem NdI.put {L : DI β} {x : Int} {v : V} {d : β} (h : NdI L) : NdI (ptD L x v d) := by
  unfold NdI ptD at *
  by_cases a : (L.any fun t => decide (t.1 = x)) = true
  · rw [if_pos a, List.map_map]
    have e : ((fun t : Int × V × β => t.1) ∘ fun t => if t.1 = x then (t.1, v, d) else t) = fun t => t.1 := by
      funext t
      show (if t.1 = x then (t.1, v, d) else t).1 = t.1
      split <;> rfl
    rw [e]; exact h
  · rw [if_neg a, List.map_append, List.nodup_append]
    refine ⟨h, by simp, fun y hy z hz e => a ?_⟩
    rw [List.map_cons, List.map_nil, List.mem_singleton] at hz
    rw [lkD_any]
    cases q : lkD L x with
    | some _ => rfl
    | none =>
      rw [e, hz] at hy
      exact absurd q (lkD_mem.mp hy)
end
/-! ### a walk by blocks, its methods -/
def sdB (b : Bool) : Int := if b then 1 else -1
theorem sdB_way {wa : Int} (h : wa = -1 ∨ wa = 1) : sdB (decide (-wa = 1)) = -wa := by
  rcases h with rfl | rfl <;> decide
/-- (0,) times a number from 1 on -/
def rRepA (K : PySem.W.Frag) : R2 := fun x y H Q => ∃ l xs k, x = .ref l ∧ y = .int k ∧ SqT K H l xs ∧ xs ≠ [] ∧ 1 ≤ k ∧ k ≤ 1000 ∧ xs.length ≤ 1000 ∧ (k = 1 → Q (.ref l) H) ∧ (2 ≤ k → ∀ p, H p = none → Q (.ref p) (upd H p (.tup (List.replicate k.toNat xs).flatten)))
theorem op_repA {X : Cx} : OpR X (binaryOp .Mult) (rRepA X.K) := by
  intro pins s σ H x y v u Q I rx ry h
  obtain ⟨l, xs, k, e1, e2, hT, hne, k1, k2, hl, q1, q2⟩ := h
  by_cases c : k = 1
  · exact op_rep01 pins s σ H x y v u Q I rx ry ⟨l, k, xs, e1, e2, hT, hne, .inl ⟨c, q1 c⟩⟩
  · exact op_repT pins s σ H x y v u Q I rx ry ⟨l, k, xs, e1, e2, hT, hne, by omega, k2, hl, q2 (by omega)⟩
theorem flat_one (k : Nat) : (List.replicate k [V.int 0]).flatten = (List.replicate k (0 : Int)).map V.int := by
  induction k with
  | zero => rfl
  | succ k ih => rw [List.replicate_succ, List.replicate_succ, List.flatten_cons, List.map_cons, ih]; rfl
theorem ints_of {H : Hp} : ∀ {xs : List V} {s : List Int}, IsAll H xs s → xs = s.map V.int
  | [], [], _ => rfl
  | [], _ :: _, h => by have := h.1; simp at this
  | _ :: _, [], h => by have := h.1; simp at this
  | x :: xs, i :: s, h => by
    have e : x = V.int i := h.2 0 x i rfl rfl
    rw [List.map_cons, e, ints_of (xs := xs) (s := s) ⟨by have := h.1; simpa using this, fun j y z p q => h.2 (j + 1) y z (by simpa using p) (by simpa using q)⟩]
structure WkAt (C : Addr) (F H : Hp) (o d : Addr) (k : Nat) (L : DI (Tup Int)) (W : Wk) : Prop where
  ob : ∃ dx, H o = some (.ins C dx (Walk_F (.int k) (.ref d) (.int W.at_) (.int W.row) (.int (sdB W.far)) (.int W.st)))
  dd : H d = some (.dK (diK L))
  is : DiIs F L
  nd : NdI L
  bl : ∀ a, W.B a = ((lkD L a).map Tup.l).getD (List.replicate k 0)
section
variable {C : Addr} {F H F' H' : Hp} {o d : Addr} {k : Nat} {L : DI (Tup Int)} {W : Wk} {mu : Addr → Prop}
theorem WkAt.ne (h : WkAt C F H o d k L W) : o ≠ d := by
  obtain ⟨dx, e⟩ := h.ob
  exact ne_of e h.dd (by intro z; cases z)
theorem WkAt.gr (h : WkAt C F H o d k L W) (a : Gr mu F H F' H') (ho : ¬ mu o) (hd : ¬ mu d) : WkAt C F' H' o d k L W := by
  obtain ⟨dx, e⟩ := h.ob
  exact ⟨⟨dx, a.fr _ _ e ho⟩, a.fr _ _ h.dd hd, h.is.up a.ff, h.nd, h.bl⟩
end
def muW (o d : Addr) : Addr → Prop := fun c => c = o ∨ c = d
def sp_Walk_init (C : Addr) : Sp := fun vs H Q _ => ∃ (F : Hp) (o dx : Addr) (k : Nat), vs = [.ref o, .int k] ∧ H o = some (.ins C dx []) ∧ F o = none ∧ Same F H ∧
  ∀ (d : Addr) (H' : Hp), H d = none → Gr (muP o) F H F H' → WkAt C F H' o d k [] (W0 k) → Q .non H'
theorem ok_Walk_init (t : Tx K mg) : FnOk P w K mg base CX0 1 t.a_Walk_init t.fd_Walk_init ["self", "long"] (sp_Walk_init t.C_Walk) := by
  refine t.F_Walk_init.ok sc_Walk_init (fun vs H Q E h => ?_) (fun cdv A outer s H vs Q E hr h => ?_)
  · obtain ⟨F, o, dx, k, rfl, _⟩ := h
    rfl
  · obtain ⟨F, o, dx, k, rfl, ho, fo, sF, q⟩ := h
    refine ⟨_, (pss_cons (ps_fld (pv 0) (pv 1) rfl)
      (pss_cons (ps_fld (pv 0) pe_dnewK rfl)
      (pss_cons (ps_fld (pv 0) pe_int rfl)
      (pss_cons (ps_fld (pv 0) pe_int rfl)
      (pss_cons (ps_fld (pv 0) (pe_un un_neg pe_int) rfl)
      (pss_one (ps_fld (pv 0) pe_int rfl))))))), ?_⟩
    have g0 : Gr (muP o) F H F H := Gr.refl sF
    refine ⟨_, rfl, _, rfl, o, t.C_Walk, dx, [], rfl, ho, t.cl_Walk, t.nA_Walk_long, by show 0 < 1000; decide, ?_⟩
    have g1 := g0.set (o := .ins t.C_Walk dx [("long", .int k)]) fo (.inr rfl)
    rw [Walk_mk0]
    refine fun d nd => ?_
    have od : o ≠ d := ne_of_none upd_same nd
    have g2 := g1.own (o := .dK (diK ([] : DI (Tup Int)))) nd
    have ho2 := ln (u := .dK (diK ([] : DI (Tup Int)))) nd (upd_same (H := H) (a := o) (o := .ins t.C_Walk dx [("long", .int k)]))
    refine ⟨_, rfl, o, t.C_Walk, dx, _, rfl, ho2, t.cl_Walk, t.nA_Walk_blocks, by show 1 < 1000; decide, ?_⟩
    rw [Walk_mk1]
    have g3 := g2.set (o := .ins t.C_Walk dx [("long", .int k), ("blocks", .ref d)]) fo (.inr rfl)
    refine ⟨_, rfl, o, t.C_Walk, dx, _, rfl, upd_same, t.cl_Walk, t.nA_Walk_at, by show 2 < 1000; decide, ?_⟩
    rw [Walk_mk2]
    have g4 := g3.set (o := .ins t.C_Walk dx [("long", .int k), ("blocks", .ref d), ("at", .int 0)]) fo (.inr rfl)
    refine ⟨_, rfl, o, t.C_Walk, dx, _, rfl, upd_same, t.cl_Walk, t.nA_Walk_row, by show 3 < 1000; decide, ?_⟩
    rw [Walk_mk3]
    have g5 := g4.set (o := .ins t.C_Walk dx [("long", .int k), ("blocks", .ref d), ("at", .int 0), ("row", .int 0)]) fo (.inr rfl)
    refine ⟨_, rfl, _, rfl, o, t.C_Walk, dx, _, rfl, upd_same, t.cl_Walk, t.nA_Walk_side, by show 4 < 1000; decide, ?_⟩
    rw [Walk_mk4]
    have g6 := g5.set (o := .ins t.C_Walk dx [("long", .int k), ("blocks", .ref d), ("at", .int 0), ("row", .int 0), ("side", .int (-1))]) fo (.inr rfl)
    refine ⟨_, rfl, o, t.C_Walk, dx, _, rfl, upd_same, t.cl_Walk, t.nA_Walk_steps, by show 5 < 1000; decide, ?_⟩
    rw [Walk_mk5]
    have g7 := g6.set (o := .ins t.C_Walk dx [("long", .int k), ("blocks", .ref d), ("at", .int 0), ("row", .int 0), ("side", .int (-1)), ("steps", .int 0)]) fo (.inr rfl)
    refine q d _ (by
      have n2 := nd
      by_cases e : d = o
      · exact absurd e.symm od
      · rw [upd_ne e] at n2; exact n2) g7 ⟨⟨dx, upd_same⟩, ?_, fun z m => (nomatch m), List.nodup_nil, fun a => rfl⟩
    rw [upd_ne od.symm, upd_ne od.symm, upd_ne od.symm, upd_ne od.symm, upd_ne od.symm, upd_same]
    rfl
def sp_Walk_block (C : Addr) : Sp := fun vs H Q _ => ∃ (F : Hp) (o d : Addr) (k : Nat) (L : DI (Tup Int)) (W : Wk), vs = [.ref o] ∧ Same F H ∧ WkAt C F H o d k L W ∧ 1 ≤ k ∧ k ≤ 10 ∧
  ∀ (F' H' : Hp) (b : Addr), Gr mu0 F H F' H' → F' b = some (.tup ((W.B W.at_).map V.int)) → Q (.ref b) H'
theorem ok_Walk_block (t : Tx K mg) : FnOk P w K mg base CX0 1 t.a_Walk_block t.fd_Walk_block ["self"] (sp_Walk_block t.C_Walk) := by
  refine t.F_Walk_block.ok sc_Walk_block (fun vs H Q E h => ?_) (fun cdv A outer s H vs Q E hr h => ?_)
  · obtain ⟨F, o, d, k, L, W, rfl, _⟩ := h
    rfl
  · obtain ⟨F, o, d, k, L, W, rfl, sF, hW, k1, k10, q⟩ := h
    refine ⟨_, (pss_one (ps_ret (pe_dget2 (hu_of hr) (pe_fld (pv 0) rfl) (pe_fld (pv 0) rfl) (pe_op op_repA (pe_tup (pa_cons pe_int pa_nil)) (pe_fld (pv 0) rfl)) ⟨by rfl, by rfl, by rfl, by rfl⟩))), ?_⟩
    obtain ⟨dx, ho⟩ := hW.ob
    have g0 : Gr mu0 F H F H := Gr.refl sF
    have hb := hW.bl W.at_
    refine ⟨_, rfl, o, t.C_Walk, dx, _, _, rfl, ho, t.cl_Walk, t.nA_Walk_blocks, Walk_get_blocks, d, rfl, .inl ⟨_, .inl hW.dd⟩, _, rfl, o, t.C_Walk, dx, _, _, rfl, ho, t.cl_Walk, t.nA_Walk_at, Walk_get_at, ?_⟩
    refine ⟨one_le, fun p np => ⟨_, rfl, o, t.C_Walk, dx, _, _, rfl, ln np ho, t.cl_Walk, t.nA_Walk_long, Walk_get_long, p, [.int 0], k, rfl, rfl, SqT.of upd_same, (fun z => nomatch z), by omega, by omega, by decide, fun e => ?_, fun _ r nr => ?_⟩⟩
    · have g1 := g0.new (o := .tup [.int 0]) np
      refine ⟨_, DGet.k (k := Sum.inl W.at_) (ln np hW.dd), ?_⟩
      cases el : lkD L W.at_ with
      | none =>
        rw [di_none el]
        rw [el] at hb
        refine q _ _ p g1 ?_
        rw [hb, show k = 1 by omega]
        exact upd_same
      | some s =>
        obtain ⟨v, h1, h2⟩ := di_get el
        rw [h1]
        rw [el] at hb
        obtain ⟨a, xs, e3, h3, h4⟩ := hW.is _ h2
        rw [show v = V.ref a from e3]
        refine q _ _ a g1 (g1.ff _ _ ?_)
        rw [h3, hb, ints_of h4]; rfl
    · have g1 := (g0.own (o := .tup [.int 0]) np).new (o := .tup (List.replicate (k : Int).toNat [V.int 0]).flatten) nr
      refine ⟨_, DGet.k (k := Sum.inl W.at_) (ln nr (ln np hW.dd)), ?_⟩
      cases el : lkD L W.at_ with
      | none =>
        rw [di_none el]
        rw [el] at hb
        refine q _ _ r g1 ?_
        rw [upd_same, hb, Int.toNat_natCast, flat_one]; rfl
      | some s =>
        obtain ⟨v, h1, h2⟩ := di_get el
        rw [h1]
        rw [el] at hb
        obtain ⟨a, xs, e3, h3, h4⟩ := hW.is _ h2
        rw [show v = V.ref a from e3]
        refine q _ _ a g1 (g1.ff _ _ ?_)
        rw [h3, hb, ints_of h4]; rfl
def sp_Walk_place (C : Addr) : Sp := fun vs H Q _ => ∃ (F : Hp) (o d : Addr) (k : Nat) (L : DI (Tup Int)) (W : Wk), vs = [.ref o] ∧ WkAt C F H o d k L W ∧ k ≤ 10 ∧ Q (.int (plB k W)) H
theorem ok_Walk_place (t : Tx K mg) : FnOk P w K mg base CX0 1 t.a_Walk_place t.fd_Walk_place ["self"] (sp_Walk_place t.C_Walk) := by
  refine t.F_Walk_place.ok sc_Walk_place (fun vs H Q E h => ?_) (fun cdv A outer s H vs Q E hr h => ?_)
  · obtain ⟨F, o, d, k, L, W, rfl, _⟩ := h
    rfl
  · obtain ⟨F, o, d, k, L, W, rfl, hW, k10, q⟩ := h
    refine ⟨_, (pss_cons (ps_if (pt_cmpR op_eq (pe_fld (pv 0) rfl) (pe_un un_neg pe_int) (nomark _)) (pss_one (ps_ret (pe_op op_mul (pe_fld (pv 0) rfl) (pe_fld (pv 0) rfl)))) pss_nil)
      (pss_one (ps_ret (pe_op op_sub (pe_op op_add (pe_op op_mul (pe_fld (pv 0) rfl) (pe_fld (pv 0) rfl)) (pe_fld (pv 0) rfl)) pe_int)))), ?_⟩
    obtain ⟨dx, ho⟩ := hW.ob
    refine ⟨_, rfl, o, t.C_Walk, dx, _, _, rfl, ho, t.cl_Walk, t.nA_Walk_side, Walk_get_side, _, rfl, rfl, _, rfl, ?_⟩
    rw [int_eq2]
    unfold plB at q
    cases hf : W.far with
    | false =>
      rw [hf] at q
      have q : Q (.int (W.at_ * k + 0)) H := q
      rw [Int.add_zero] at q
      exact ifT (by decide) ⟨_, rfl, o, t.C_Walk, dx, _, _, rfl, ho, t.cl_Walk, t.nA_Walk_at, Walk_get_at, _, rfl, o, t.C_Walk, dx, _, _, rfl, ho, t.cl_Walk, t.nA_Walk_long, Walk_get_long, _, _, rfl, rfl, .inr ⟨by omega, by omega⟩, q⟩
    | true =>
      rw [hf] at q
      have q : Q (.int (W.at_ * k + ((k : Int) - 1))) H := q
      refine ifF (by decide) ⟨_, rfl, o, t.C_Walk, dx, _, _, rfl, ho, t.cl_Walk, t.nA_Walk_at, Walk_get_at, _, rfl, o, t.C_Walk, dx, _, _, rfl, ho, t.cl_Walk, t.nA_Walk_long, Walk_get_long, _, _, rfl, rfl, .inr ⟨by omega, by omega⟩, _, rfl, o, t.C_Walk, dx, _, _, rfl, ho, t.cl_Walk, t.nA_Walk_long, Walk_get_long, _, _, rfl, rfl, _, _, rfl, rfl, ?_⟩
      rw [show W.at_ * (k : Int) + ((k : Int) - 1) = W.at_ * (k : Int) + (k : Int) - 1 by omega] at q
      exact q
def sp_Walk_out (C : Addr) : Sp := fun vs H Q _ => ∃ (F : Hp) (o d p b : Addr) (k : Nat) (L : DI (Tup Int)) (W : Wk) (wd : TStr) (s : List Int) (r wa m : Int), vs = [.ref o, .ref p] ∧ Same F H ∧ WkAt C F H o d k L W ∧ F o = none ∧ F d = none ∧ L.length ≤ 5000 ∧ (wa = -1 ∨ wa = 1) ∧
  F p = some (.tup [.str wd.x, .ref b, .int r, .int wa, .int m]) ∧ F b = some (.tup (s.map V.int)) ∧ ∀ H' : Hp, Gr (muW o d) F H F H' → WkAt C F H' o d k (ptD L W.at_ (.ref b) ⟨s⟩) (W.out s r wa m) → Q .non H'
theorem ok_Walk_out (t : Tx K mg) : FnOk P w K mg base CX0 1 t.a_Walk_out t.fd_Walk_out ["self", "found"] (sp_Walk_out t.C_Walk) := by
  refine t.F_Walk_out.ok sc_Walk_out (fun vs H Q E h => ?_) (fun cdv A outer s H vs Q E hr h => ?_)
  · obtain ⟨F, o, d, p, b, k, L, W, wd, s, r, wa, m, rfl, _⟩ := h
    rfl
  · obtain ⟨F, o, d, p, b, k, L, W, wd, s, r, wa, m, rfl, sF, hW, fo, fd, hl, hw, hp, hb, q⟩ := h
    refine ⟨_, (pss_cons (ps_asg (pv 1) (pg_tup rfl (pgs_cons (pg_name (i := 2) sc_Walk_out.nd rfl (by first | exact Or.inl rfl | exact Or.inr rfl)) (pgs_cons (pg_name (i := 3) sc_Walk_out.nd rfl (by first | exact Or.inl rfl | exact Or.inr rfl)) (pgs_cons (pg_name (i := 4) sc_Walk_out.nd rfl (by first | exact Or.inl rfl | exact Or.inr rfl)) (pgs_cons (pg_name (i := 5) sc_Walk_out.nd rfl (by first | exact Or.inl rfl | exact Or.inr rfl)) (pgs_cons (pg_name (i := 6) sc_Walk_out.nd rfl (by first | exact Or.inl rfl | exact Or.inr rfl)) pgs_nil)))))))
      (pss_cons (ps_dput (hu_of hr) (pe_fld (pv 0) rfl) (pe_fld (pv 0) rfl) (pv 3) rfl)
      (pss_cons (ps_fldaug (pv 0) (pv 5) in_add)
      (pss_cons (ps_fld (pv 0) (pv 4) rfl)
      (pss_cons (ps_fld (pv 0) (pe_un un_neg (pv 5)) rfl)
      (pss_one (ps_fldaug (pv 0) (pv 6) in_add))))))), ?_⟩
    obtain ⟨dx, ho⟩ := hW.ob
    have od := hW.ne
    have g0 : Gr (muW o d) F H F H := Gr.refl sF
    refine ⟨_, rfl, p, _, rfl, SqT.of (sF _ _ hp), rfl, _, _, rfl, _, _, rfl, _, _, rfl, _, _, rfl, _, _, rfl, rfl, ?_⟩
    refine ⟨_, rfl, _, rfl, o, t.C_Walk, dx, _, _, rfl, ho, t.cl_Walk, t.nA_Walk_blocks, Walk_get_blocks, _, rfl, o, t.C_Walk, dx, _, _, rfl, ho, t.cl_Walk, t.nA_Walk_at, Walk_get_at, d, _, rfl, DPut.k (k := Sum.inl W.at_) hW.dd (by rw [diK_len]; exact lt_size (by omega)), ?_⟩
    rw [di_put L W.at_ (.ref b) (⟨s⟩ : Tup Int)]
    have g1 := g0.set (o := .dK (diK (ptD L W.at_ (.ref b) (⟨s⟩ : Tup Int)))) fd (.inr (.inr rfl))
    have ho1 := (upd_ne (H := H) (o := .dK (diK (ptD L W.at_ (.ref b) (⟨s⟩ : Tup Int)))) od).trans ho
    refine ⟨_, rfl, o, t.C_Walk, dx, _, _, rfl, ho1, t.cl_Walk, t.nA_Walk_at, Walk_get_at, _, rfl, _, _, rfl, rfl, _, _, ho1, Walk_few, ?_⟩
    rw [Walk_put_at]
    have g2 := g1.set (o := .ins t.C_Walk dx (Walk_F (.int k) (.ref d) (.int (W.at_ + wa)) (.int W.row) (.int (sdB W.far)) (.int W.st))) fo (.inr (.inl rfl))
    refine ⟨_, rfl, _, rfl, o, t.C_Walk, dx, _, rfl, upd_same, t.cl_Walk, t.nA_Walk_row, Walk_few, ?_⟩
    rw [Walk_put_row]
    have g3 := g2.set (o := .ins t.C_Walk dx (Walk_F (.int k) (.ref d) (.int (W.at_ + wa)) (.int r) (.int (sdB W.far)) (.int W.st))) fo (.inr (.inl rfl))
    refine ⟨_, rfl, _, rfl, _, rfl, o, t.C_Walk, dx, _, rfl, upd_same, t.cl_Walk, t.nA_Walk_side, Walk_few, ?_⟩
    rw [Walk_put_side]
    have g4 := g3.set (o := .ins t.C_Walk dx (Walk_F (.int k) (.ref d) (.int (W.at_ + wa)) (.int r) (.int (-wa)) (.int W.st))) fo (.inr (.inl rfl))
    refine ⟨_, rfl, o, t.C_Walk, dx, _, _, rfl, upd_same, t.cl_Walk, t.nA_Walk_steps, Walk_get_steps, _, rfl, _, _, rfl, rfl, _, _, upd_same, Walk_few, ?_⟩
    rw [Walk_put_steps]
    have g5 := g4.set (o := .ins t.C_Walk dx (Walk_F (.int k) (.ref d) (.int (W.at_ + wa)) (.int r) (.int (-wa)) (.int (W.st + m)))) fo (.inr (.inl rfl))
    refine q _ g5 ⟨⟨dx, ?_⟩, ?_, hW.is.put ⟨b, _, rfl, hb, all_ints s⟩, hW.nd.put, fun a => ?_⟩
    · show _ = some (HO.ins t.C_Walk dx (Walk_F (.int k) (.ref d) (.int (W.at_ + wa)) (.int r) (.int (sdB (decide (-wa = 1)))) (.int (W.st + m))))
      rw [sdB_way hw]; exact upd_same
    · rw [upd_ne od.symm, upd_ne od.symm, upd_ne od.symm, upd_ne od.symm, upd_same]
    · show updB W.B W.at_ s a = _
      rw [lkD_put]
      unfold updB
      by_cases e : a = W.at_
      · rw [if_pos e, if_pos e]; rfl
      · rw [if_neg e, if_neg e]; exact hW.bl a
def sp_Walk_strip (C : Addr) : Sp := fun vs H Q _ => ∃ (F : Hp) (o d : Addr) (k : Nat) (L : DI (Tup Int)) (W : Wk), vs = [.ref o] ∧ Same F H ∧ WkAt C F H o d k L W ∧ 1 ≤ k ∧ k ≤ 10 ∧ L.length ≤ 5000 ∧ (∀ a, (W.B a).length = k) ∧
  ∀ (F' H' : Hp) (l : Addr) (xs : List V) (z : List PI), Gr mu0 F H F' H' → Ow H F' H' l (.lst xs) → IsAll F' xs z → IsSt z (fB k W.B) → Q (.ref l) H'
theorem lkD_of {β : Type} {L : DI β} {x : Int} (h : x ∈ L.map (·.1)) : ∃ d, lkD L x = some d := by
  cases e : lkD L x with
  | none => exact absurd e (lkD_mem.mp h)
  | some d => exact ⟨d, rfl⟩
theorem piece_take {s : List Int} {base : Int} {j : Nat} {v : Int} (h : s[j]? = some v) : piece base (s.take (j + 1)) = piece base (s.take j) ++ (if v ≠ 0 then [⟨base + j, v⟩] else []) := by
  have l := (List.getElem?_eq_some_iff.mp h).1
  rw [List.take_add_one, h]
  show piece base (s.take j ++ [v]) = _
  rw [piece_snoc, List.length_take, Nat.min_eq_left (by omega)]
theorem stripO_snoc (k : Nat) (B : Int → List Int) (ys : List Int) (a : Int) : stripO k B (ys ++ [a]) = stripO k B ys ++ piece (a * k) (B a) := by
  unfold stripO
  rw [List.flatMap_append]
  congr 1
  show piece (a * k) (B a) ++ [] = _
  rw [List.append_nil]
theorem len_stripO {k : Nat} {B : Int → List Int} (hB : ∀ a, (B a).length = k) : ∀ ys : List Int, (stripO k B ys).length ≤ k * ys.length
  | [] => Nat.zero_le _
  | y :: ys => by
    have ih := len_stripO hB ys
    have lp : ∀ (s : List Int) (b : Int), (piece b s).length ≤ s.length := fun s => by
      induction s with
      | nil => intro b; exact Nat.zero_le _
      | cons x s ih => intro b; rw [piece, List.length_append]; have := ih (b + 1); split <;> simp <;> omega
    have h := lp (B y) (y * k)
    rw [hB] at h
    show (piece (y * k) (B y) ++ stripO k B ys).length ≤ _
    rw [List.length_append, List.length_cons, Nat.mul_add, Nat.mul_one]
    omega
theorem ok_Walk_strip (t : Tx K mg) : FnOk P w K mg base CX0 1 t.a_Walk_strip t.fd_Walk_strip ["self"] (sp_Walk_strip t.C_Walk) := by
  refine t.F_Walk_strip.ok sc_Walk_strip (fun vs H Q E h => ?_) (fun cdv A outer s H vs Q E hr h => ?_)
  · obtain ⟨F, o, d, k, L, W, rfl, _⟩ := h
    rfl
  · obtain ⟨F, o, d, k, L, W, rfl, sF, hW, k1, k10, hL, hB, q⟩ := h
    refine ⟨_, (pss_cons (ps_set (i := 1) sc_Walk_strip.nd rfl (by first | exact Or.inl rfl | exact Or.inr rfl) (pe_lst pa_nil))
      (pss_cons (ps_for PassesOwn.never rfl (pi_list (pe_callB (id := "sorted") (call_sortDI rfl) (by rfl) t.n_sorted (by decide +kernel) (pa_cons (pe_fld (pv 0) rfl) pa_nil))) (pg_name (i := 2) sc_Walk_strip.nd rfl (by first | exact Or.inl rfl | exact Or.inr rfl)) (pss_one (ps_for PassesOwn.never rfl (pi_enT (by rfl) t.n_enumerate (pa_cons (pe_dget (hu_of hr) (pe_fld (pv 0) rfl) (pv 2) (fun _ _ => rfl)) pa_nil)) (pg_tup rfl (pgs_cons (pg_name (i := 3) sc_Walk_strip.nd rfl (by first | exact Or.inl rfl | exact Or.inr rfl)) (pgs_cons (pg_name (i := 4) sc_Walk_strip.nd rfl (by first | exact Or.inl rfl | exact Or.inr rfl)) pgs_nil))) (pss_one (ps_if (pt_cmpR op_ne (pv 4) pe_int (nomark _)) (pss_one (ps_expr (pe_bm PySem.F.plainAttrs_list PySem.F.slot_list_append PySem.F.type_list_append mt_append (pv 1) (pa_cons (pe_tup (pa_cons (pe_op op_add (pe_op op_mul (pv 2) (pe_fld (pv 0) rfl)) (pv 3)) (pa_cons (pv 4) pa_nil))) pa_nil)))) pss_nil)))))
      (pss_one (ps_ret (pv 1))))), ?_⟩
    obtain ⟨dx, ho⟩ := hW.ob
    have g0 : Gr mu0 F H F H := Gr.refl sF
    refine ⟨nil_le, fun D nD => ?_⟩
    have g1 := g0.own (o := .lst []) nD
    have w1 : Ow H F (upd H D (.lst [])) D (.lst []) := Ow.mk1 g0 nD
    have W1 := hW.gr ((Gr.refl (mu := mu0) sF).own (o := .lst []) nD) (fun z => z) (fun z => z)
    generalize upd H D (.lst []) = H1 at g1 w1 W1 ⊢
    obtain ⟨dx, ho1⟩ := W1.ob
    refine ⟨_, rfl, o, t.C_Walk, dx, _, _, rfl, ho1, t.cl_Walk, t.nA_Walk_blocks, Walk_get_blocks, ?_⟩
    unfold rSortDI
    refine ⟨d, diK L, L.map (·.1), rfl, .inl W1.dd, by unfold diK; rw [List.map_map, List.map_map]; rfl, fun ys p hperm hsort np => ?_⟩
    have g2 := g1.own (o := .lst (ys.map V.int)) np
    have w2 := w1.own (u := .lst (ys.map V.int)) np
    have W2 := W1.gr ((Gr.refl (mu := mu0) g1.fh).own (o := .lst (ys.map V.int)) np) (fun z => z) (fun z => z)
    have Dp' : D ≠ p := w1.ne np
    have hp2 : (upd H1 p (.lst (ys.map V.int))) p = some (.lst (ys.map V.int)) := upd_same
    generalize upd H1 p (.lst (ys.map V.int)) = H2 at g2 w2 W2 hp2 ⊢
    have ylen : ys.length ≤ 5000 := by rw [hperm.length_eq, List.length_map]; exact hL
    have ynd : ys.Nodup := hperm.nodup_iff.mpr W1.nd
    have yst : ys.Pairwise (· < ·) := by
      have z : ys.Pairwise (fun a b => a ≤ b ∧ a ≠ b) := List.Pairwise.and hsort ynd
      exact z.imp fun {a b} h => by omega
    refine ⟨p, rfl, ⟨_, SqL.of hp2⟩, for_list (K := K) (a := p) (xs := ys.map V.int) (fun i σ G => ∃ (F1 : Hp) (xs : List V) (v2 v3 v4 : Option V), σ = [some (.ref o), some (.ref D), v2, v3, v4] ∧ Gr mu0 F H F1 G ∧ WkAt t.C_Walk F1 G o d k L W ∧ Ow H F1 G D (.lst xs) ∧ IsAll F1 xs (stripO k W.B (ys.take i)) ∧ G p = some (.lst (ys.map V.int)) ∧ F1 p = none)
      ⟨F, [], none, none, none, rfl, g2, W2, w2, All2.nil, hp2, g1.fh.free np⟩ (fun i σ G _ ⟨F1, xs, v2, v3, v4, _, _, _, _, _, hp, _⟩ => SqL.of hp) ?_ ?_⟩
    · rintro i x σ G hi ⟨F1, xs, v2, v3, v4, rfl, g, Wg, w, al, hp, fp⟩
      rw [List.getElem?_map] at hi
      obtain ⟨a, hy, rfl⟩ := Option.map_eq_some_iff.mp hi
      have il : i < ys.length := (List.getElem?_eq_some_iff.mp hy).1
      obtain ⟨dx, ho⟩ := Wg.ob
      obtain ⟨s, el⟩ := lkD_of (L := L) (x := a) (hperm.mem_iff.mp (List.mem_of_getElem? hy))
      obtain ⟨v, h1, h2⟩ := di_get el
      obtain ⟨ra, es, e3, h3, h4⟩ := Wg.is _ h2
      have e3 : v = .ref ra := e3
      subst e3
      have es' := ints_of h4
      have eB : W.B a = s.l := by rw [Wg.bl, el]; rfl
      subst es'
      have ls : s.l.length = k := by rw [← eB]; exact hB a
      refine ⟨_, rfl, o, t.C_Walk, dx, _, _, rfl, ho, t.cl_Walk, t.nA_Walk_blocks, Walk_get_blocks, _, rfl, d, _, rfl, (by have z := DGet.k (k := Sum.inl a) Wg.dd; rw [h1] at z; exact z), ra, _, rfl, SqT.of (g.fh _ _ h3), ?_⟩
      refine for_it (walk_enT (K := K) (a := ra) (xs := s.l.map V.int)) (fun j σ G => ∃ (F2 : Hp) (xs2 : List V) (v3 v4 : Option V), σ = [some (.ref o), some (.ref D), some (.int a), v3, v4] ∧ Gr mu0 F H F2 G ∧ Same F1 F2 ∧ WkAt t.C_Walk F2 G o d k L W ∧ Ow H F2 G D (.lst xs2) ∧ IsAll F2 xs2 (stripO k W.B (ys.take i) ++ piece (a * k) (s.l.take j)) ∧ G p = some (.lst (ys.map V.int)) ∧ F2 p = none)
        ⟨F1, xs, _, _, rfl, g, Same.refl F1, Wg, w, by rw [List.take_zero]; show IsAll F1 xs (_ ++ []); rw [List.append_nil]; exact al, hp, fp⟩ (fun j σ G _ ⟨F2, xs2, v3, v4, _, g2, s2, _⟩ => SqT.of (g2.fh _ _ (s2 _ _ h3))) ?_ ?_
      · rintro j x σ G G' hj ⟨F2, xs2, v3, v4, rfl, g2, s2, Wg2, w2, al2, hp2, fp2⟩ ⟨T, x1, x2, rfl, nT, rfl, hx1, hx2⟩
        rw [List.length_map] at hj
        have hx2 : (s.l.map V.int)[j]? = some x2 := hx2
        rw [List.getElem?_map] at hx2
        obtain ⟨u, hu, rfl⟩ := Option.map_eq_some_iff.mp hx2
        cases hx1
        have g3 := g2.own (o := .tup [.int j, .int u]) nT
        have w3 := w2.own (u := .tup [.int j, .int u]) nT
        have W3 := Wg2.gr ((Gr.refl (mu := mu0) g2.fh).own (o := .tup [.int j, .int u]) nT) (fun z => z) (fun z => z)
        have hp3 := ln (u := .tup [.int j, .int u]) nT hp2
        have hT : (upd G T (.tup [.int j, .int u])) T = some (.tup [.int j, .int u]) := upd_same
        generalize upd G T (.tup [.int j, .int u]) = G3 at g3 w3 W3 hp3 hT ⊢
        refine ⟨T, _, rfl, SqT.of hT, rfl, _, _, rfl, _, _, rfl, rfl, _, rfl, rfl, _, rfl, ?_⟩
        have len2 : xs2.length ≤ 60000 := by
          have e1 := len_stripO hB (ys.take i)
          have e2 : (piece (a * k) (s.l.take j)).length ≤ k := by
            have z := len_stripO (k := k) (B := fun _ => s.l) (fun _ => ls) [a]
            have z2 : (piece (a * k) (s.l.take j)).length ≤ (piece (a * k) s.l).length := by
              rw [← List.take_append_drop j s.l]
              have : ∀ (x y : List Int) (b : Int), (piece b x).length ≤ (piece b (x ++ y)).length := fun x y => by
                induction x with
                | nil => intro b; exact Nat.zero_le _
                | cons c x ih => intro b; rw [List.cons_append, piece, piece, List.length_append, List.length_append]; have := ih (b + 1); omega
              rw [List.take_append_drop]
              have := this (s.l.take j) (s.l.drop j) (a * k)
              rw [List.take_append_drop] at this
              exact this
            have z3 : (stripO k (fun _ => s.l) [a]).length = (piece (a * k) s.l).length := by
              show (piece (a * k) s.l ++ []).length = _
              rw [List.append_nil]
            rw [z3] at z
            simp only [List.length_cons, List.length_nil, Nat.zero_add, Nat.mul_one] at z
            omega
          rw [List.length_take] at e1
          have e3 : k * min i ys.length ≤ 10 * 5000 := Nat.mul_le_mul k10 (by omega)
          have := al2.1
          rw [List.length_append] at this
          omega
        by_cases uz : u = 0
        · refine ifF (by rw [uz]; rfl) ⟨F2, xs2, _, _, rfl, g3, s2, W3, w3, ?_, hp3, fp2⟩
          rw [piece_take hu, if_neg (by omega), List.append_nil]
          exact al2
        · refine ifT (by
            show (!decide (V.int u = V.int 0)) = true
            rw [int_eq2, decide_eq_false uz]; rfl) ?_
          obtain ⟨dx, ho3⟩ := W3.ob
          refine ⟨_, rfl, .inl ⟨rfl, _, SqL.of w3.h⟩, _, rfl, _, rfl, o, t.C_Walk, dx, _, _, rfl, ho3, t.cl_Walk, t.nA_Walk_long, Walk_get_long, _, _, rfl, rfl, .inr ⟨by omega, by omega⟩, _, rfl, _, _, rfl, rfl, _, rfl, two_le, fun y ny => ⟨D, xs2, _, rfl, rfl, ln ny w3.h, lt_size (by omega), ?_⟩⟩
          have g4 := g3.new (o := .tup [.int (a * k + j), .int u]) ny
          have w4 := w3.new (u := .tup [.int (a * k + j), .int u]) ny
          have W4 := W3.gr ((Gr.refl (mu := mu0) g3.fh).new (o := .tup [.int (a * k + j), .int u]) ny) (fun z => z) (fun z => z)
          have s4 : Same F2 (upd F2 y (.tup [.int (a * k + j), .int u])) := sm_new (Same.refl F2) (g3.fh.free ny)
          have hp4 := ln (u := .tup [.int (a * k + j), .int u]) ny hp3
          have fp4 : (upd F2 y (.tup [.int (a * k + j), .int u])) p = none := by
            rw [upd_ne (ne_of_none hp3 ny)]; exact fp2
          have iy : Is (upd F2 y (.tup [.int (a * k + j), .int u])) (.ref y) (⟨a * k + j, u⟩ : PI) := ⟨y, _, _, rfl, upd_same, rfl, rfl⟩
          have D1 : D ≠ o := fun e => by have := w4.n; rw [e] at this; obtain ⟨dx, hh⟩ := hW.ob; rw [hh] at this; cases this
          have D2 : D ≠ d := fun e => by have := w4.n; rw [e] at this; rw [hW.dd] at this; cases this
          refine ⟨_, xs2 ++ [.ref y], _, _, rfl, g4.set w4.f (.inl w4.n), fun c o h => s4 c o (s2 c o h), ?_, w4.set, ?_, by rw [upd_ne Dp'.symm]; exact hp4, fp4⟩
          · obtain ⟨dx, e⟩ := W4.ob
            exact ⟨⟨dx, by rw [upd_ne D1.symm]; exact e⟩, by rw [upd_ne D2.symm]; exact W4.dd, W4.is, W4.nd, W4.bl⟩
          · rw [piece_take hu, if_pos uz, ← List.append_assoc]
            exact (al2.up s4).app (All2.one iy)
      · rintro σ G ⟨F2, xs2, v3, v4, rfl, g2, s2, Wg2, w2, al2, hp2, fp2⟩
        refine ⟨F2, xs2, _, _, _, rfl, g2, Wg2, w2, ?_, hp2, fp2⟩
        rw [List.length_map, List.take_length] at al2
        rw [List.take_add_one, hy]
        show IsAll F2 xs2 (stripO k W.B (ys.take i ++ [a]))
        rw [stripO_snoc, eB]
        exact al2
    · rintro σ G ⟨F1, xs, v2, v3, v4, rfl, g, Wg, w, al, hp, fp⟩
      rw [List.length_map, List.take_length] at al
      refine ⟨_, rfl, q F1 G D xs _ g w al (strip_ok k1 hB yst fun a na v m => ?_)⟩
      rw [hW.bl a] at m
      cases el : lkD L a with
      | none => rw [el] at m; exact (List.mem_replicate.mp m).2
      | some s => exact absurd (hperm.mem_iff.mpr (lkD_mem.mpr (by rw [el]; exact fun z => nomatch z))) na
/-! ### by blocks -/
theorem sdB_dec (b : Bool) : decide (sdB b = 1) = b := by cases b <;> decide
def sp_by_blocks : Sp := fun vs H Q _ => ∃ (F : Hp) (m : V) (M : Mach) (R S k n : Nat), vs = [m, .int k, .int n] ∧ Same F H ∧ Is F m M ∧ MOk M R S ∧ 1 ≤ k ∧ k ≤ 4 ∧ n ≤ 1000 ∧
  ∀ (F' H' : Hp) (v l : Addr) (xs : List V) (z : List PI) (Y : ByR), byB M R S k n (W0 k) = Y → Gr mu0 F H F' H' → F' v = some (.tup [.str Y.w.x, .int Y.st, .int Y.row, .int Y.pl, .ref l]) → Ow H F' H' l (.lst xs) → IsAll F' xs z → IsSt z (fB k Y.B) → Q (.ref v) H'
theorem ok_by_blocks (t : Tx K mg) : FnOk P w K mg base CX0 5 t.a_by_blocks t.fd_by_blocks ["machine", "k", "many"] sp_by_blocks := by
  refine t.F_by_blocks.ok sc_by_blocks (fun vs H Q E h => ?_) (fun cdv A outer s H vs Q E hr h => ?_)
  · obtain ⟨F, m, M, R, S, k, n, rfl, _⟩ := h
    rfl
  · obtain ⟨F, m, M, R, S, k, n, rfl, sF, hm, hM, k1, k4, hn, q⟩ := h
    refine ⟨_, (pss_cons (ps_expr (pe_call (ok_must_machine t) (hr.mono (by decide)) (by rfl) t.m_must_machine t.F_must_machine.kp t.b_must_machine .nil pass0 (pa_cons (pv 0) pa_nil)))
      (pss_cons (ps_set (i := 3) sc_by_blocks.nd rfl (by first | exact Or.inl rfl | exact Or.inr rfl) (pe_make t.M_Walk (ok_Walk_init t) (hr.mono (by decide)) (by rfl) t.m_Walk t.b_Walk_init .nil pass0 (pa_cons (pv 1) pa_nil)))
      (pss_cons (ps_for PassesOwn.never rfl (pi_range1 (by rfl) t.n_range (pa_cons (pv 2) pa_nil)) (pg_name (i := 4) sc_by_blocks.nd rfl (by first | exact Or.inl rfl | exact Or.inr rfl)) (pss_cons (ps_set (i := 5) sc_by_blocks.nd rfl (by first | exact Or.inl rfl | exact Or.inr rfl) (pe_call (ok_through t) (hr.mono (by decide)) (by rfl) t.m_through t.F_through.kp t.b_through .nil pass0 (pa_cons (pv 0) (pa_cons (pe_meth0 (pv 3) t.cl_Walk t.M_Walk_block (ok_Walk_block t) (hr.mono (by decide)) t.b_Walk_block .nil pass0) (pa_cons (pe_fld (pv 3) rfl) (pa_cons (pe_fld (pv 3) rfl) pa_nil))))))
      (pss_cons (ps_if (pt_cmpR op_eq (pe_ix ix_tup (pv 5) pe_int (fun _ _ => rfl)) pe_str (nomark _)) (pss_one (ps_ret (pe_tup (pa_cons pe_str (pa_cons (pe_fld (pv 3) rfl) (pa_cons (pe_fld (pv 3) rfl) (pa_cons (pe_meth0 (pv 3) t.cl_Walk t.M_Walk_place (ok_Walk_place t) (hr.mono (by decide)) t.b_Walk_place .nil pass0) (pa_cons (pe_meth0 (pv 3) t.cl_Walk t.M_Walk_strip (ok_Walk_strip t) (hr.mono (by decide)) t.b_Walk_strip .nil pass0) pa_nil)))))))) pss_nil)
      (pss_cons (ps_if (pt_cmpR op_eq (pe_ix ix_tup (pv 5) pe_int (fun _ _ => rfl)) pe_str (nomark _)) (pss_cons (ps_asg (pv 5) (pg_tup rfl (pgs_cons (pg_name (i := 6) sc_by_blocks.nd rfl (by first | exact Or.inl rfl | exact Or.inr rfl)) (pgs_cons (pg_name (i := 7) sc_by_blocks.nd rfl (by first | exact Or.inl rfl | exact Or.inr rfl)) (pgs_cons (pg_name (i := 8) sc_by_blocks.nd rfl (by first | exact Or.inl rfl | exact Or.inr rfl)) (pgs_cons (pg_name (i := 9) sc_by_blocks.nd rfl (by first | exact Or.inl rfl | exact Or.inr rfl)) (pgs_cons (pg_name (i := 10) sc_by_blocks.nd rfl (by first | exact Or.inl rfl | exact Or.inr rfl)) pgs_nil)))))))
      (pss_cons (ps_dput (hu_of hr) (pe_fld (pv 3) rfl) (pe_fld (pv 3) rfl) (pv 7) rfl)
      (pss_one (ps_ret (pe_tup (pa_cons pe_str (pa_cons (pe_op op_add (pe_fld (pv 3) rfl) (pv 10)) (pa_cons (pv 8) (pa_cons (pe_op op_add (pe_op op_mul (pe_fld (pv 3) rfl) (pv 1)) (pv 9)) (pa_cons (pe_meth0 (pv 3) t.cl_Walk t.M_Walk_strip (ok_Walk_strip t) (hr.mono (by decide)) t.b_Walk_strip .nil pass0) pa_nil)))))))))) pss_nil)
      (pss_one (ps_expr (pe_meth (pv 3) t.cl_Walk t.M_Walk_out (ok_Walk_out t) (hr.mono (by decide)) t.b_Walk_out .nil pass0 (pa_cons (pv 5) pa_nil))))))))
      (pss_one (ps_ret (pe_tup (pa_cons pe_str (pa_cons (pe_fld (pv 3) rfl) (pa_cons (pe_fld (pv 3) rfl) (pa_cons (pe_meth0 (pv 3) t.cl_Walk t.M_Walk_place (ok_Walk_place t) (hr.mono (by decide)) t.b_Walk_place .nil pass0) (pa_cons (pe_meth0 (pv 3) t.cl_Walk t.M_Walk_strip (ok_Walk_strip t) (hr.mono (by decide)) t.b_Walk_strip .nil pass0) pa_nil))))))))))), ?_⟩
    refine ⟨_, rfl, F, m, M, R, S, rfl, sF, hm, hM, fun H1 g1 => ?_⟩
    have S1 : 1 ≤ S := by have := hM.s2; omega
    refine ⟨_, rfl, fun o do' no ndo neo => ?_⟩
    have g2 := g1.own (o := .own o) ndo
    have no2 : (upd H1 do' (.own o)) o = none := by rw [upd_ne neo.symm]; exact no
    have g3 := g2.own (o := .ins t.C_Walk do' []) no2
    have hno : H o = none := g1.th _ no
    refine ⟨F, o, do', k, rfl, upd_same, g1.fh.free no, g3.fh, fun d H4 nd g4 W4 => ⟨rfl, ?_⟩⟩
    have hnd : H d = none := g3.th _ nd
    have g5 := g3.thn g4 fun c z => .inr (by rw [show c = o from z]; exact hno)
    have fo : F o = none := g1.fh.free no
    have fd : F d = none := g3.fh.free nd
    clear g1 g2 g3 g4 no2
    have kw : ∀ {F1 G F2 G2 : Hp} {L : DI (Tup Int)} {W : Wk}, WkAt t.C_Walk F1 G o d k L W → Gr mu0 F1 G F2 G2 → WkAt t.C_Walk F2 G2 o d k L W := fun W1 g => W1.gr g (fun z => z) (fun z => z)
    have no' : ∀ {F1 G F2 G2 : Hp} {L : DI (Tup Int)} {W : Wk}, WkAt t.C_Walk F1 G o d k L W → Gr mu0 F1 G F2 G2 → F1 o = none → F1 d = none → F2 o = none ∧ F2 d = none := fun W1 g h1 h2 => by
      obtain ⟨dx, e⟩ := W1.ob
      exact ⟨g.pf0 h1 e, g.pf0 h2 W1.dd⟩
    -- what is told at the end of it
    have fin : ∀ {F1 G : Hp} {L : DI (Tup Int)} {W : Wk} (Y : ByR), Gr mu0 F H F1 G → byB M R S k n (W0 k) = Y → Y.B = W.B → ∀ {F4 G4 : Hp} {l : Addr} {xs : List V} {z : List PI}, Gr mu0 F1 G F4 G4 → Ow G F4 G4 l (.lst xs) → IsAll F4 xs z → IsSt z (fB k W.B) →
        ∀ u, G4 u = none → Q (.ref u) (upd G4 u (.tup [.str Y.w.x, .int Y.st, .int Y.row, .int Y.pl, .ref l])) := by
      intro F1 G L W Y g e eB F4 G4 l xs z g4 wl al st u nu
      have g6 := g.trans g4
      have wl' : Ow H F4 G4 l (.lst xs) := ⟨g.th _ wl.n, wl.f, wl.h⟩
      have s6 : Same F4 (upd F4 u (.tup [.str Y.w.x, .int Y.st, .int Y.row, .int Y.pl, .ref l])) := sm_new (Same.refl F4) (g6.fh.free nu)
      exact q _ _ u l xs z Y e (g6.new nu) upd_same (wl'.new nu) (al.up s6) (by rw [eB]; exact st)
    refine ⟨_, rfl, (n : Int), rfl, by omega, by omega, for_range (lo := 0) (n := ((n : Int)).toNat) (fun i σ G => ∃ (F1 : Hp) (L : DI (Tup Int)) (W : Wk) (v4 v5 v6 v7 v8 v9 v10 : Option V), σ = [some m, some (.int k), some (.int n), some (.ref o), v4, v5, v6, v7, v8, v9, v10] ∧
      Gr mu0 F H F1 G ∧ Is F1 m M ∧ WkAt t.C_Walk F1 G o d k L W ∧ OkW R S k W ∧ L.length ≤ i ∧ i ≤ n ∧ byB M R S k n (W0 k) = byB M R S k (n - i) W ∧ F1 o = none ∧ F1 d = none)
      ⟨F, [], W0 k, none, none, none, none, none, none, none, rfl, g5, hm, W4, W0_ok hM.r1 S1, Nat.le_refl 0, by omega, rfl, fo, fd⟩ ?_ ?_⟩
    · rintro i σ G hi ⟨F1, L, W, v4, v5, v6, v7, v8, v9, v10, rfl, g, hmF, Wg, ok, lL, hin, es, fo1, fd1⟩
      have i1 : i < n := by omega
      rw [show n - i = (n - (i + 1)) + 1 by omega] at es
      obtain ⟨dx, ho⟩ := Wg.ob
      refine ⟨_, rfl, _, rfl, o, dx, _, rfl, ho, Walk_no (by decide +kernel) (by decide +kernel) (by decide +kernel) (by decide +kernel) (by decide +kernel) (by decide +kernel), F1, o, d, k, L, W, rfl, g.fh, Wg, k1, by omega, fun F2 G2 b g2 hb => ?_⟩
      have W2 := kw Wg g2
      obtain ⟨dx, ho2⟩ := W2.ob
      have lB : (W.B W.at_).length = k := ok.len _
      refine ⟨_, rfl, o, t.C_Walk, dx, _, _, rfl, ho2, t.cl_Walk, t.nA_Walk_row, Walk_get_row, _, rfl, o, t.C_Walk, dx, _, _, rfl, ho2, t.cl_Walk, t.nA_Walk_side, Walk_get_side, F2, m, b, M, R, S, W.B W.at_, W.row, sdB W.far, rfl, g2.fh, hmF.up g2.ff, hM, hb, ok.s _, by omega, by omega, ok.r0, ok.r1, fun F3 G3 v g3 iv => ?_⟩
      rw [sdB_dec] at iv
      have gg := (g.trans g2).trans g3
      have W3 := kw W2 g3
      obtain ⟨fo2, fd2⟩ := no' Wg g2 fo1 fd1
      obtain ⟨fo3, fd3⟩ := no' W2 g3 fo2 fd2
      have hm3 := (hmF.up g2.ff).up g3.ff
      obtain ⟨dx, ho3⟩ := W3.ob
      cases et : thr M R S (W.B W.at_) W.row W.far with
      | stay =>
        rw [et] at iv
        obtain ⟨p, rfl, hp⟩ := iv
        refine ⟨_, rfl, p, _, _, _, rfl, rfl, SqT.of (gg.fh _ _ hp), atI_nat (j := 0) rfl, rfl, _, rfl, ifT (decide_eq_true rfl) ?_⟩
        rw [byB_stay et] at es
        refine ⟨_, rfl, o, t.C_Walk, dx, _, _, rfl, ho3, t.cl_Walk, t.nA_Walk_steps, Walk_get_steps, _, rfl, o, t.C_Walk, dx, _, _, rfl, ho3, t.cl_Walk, t.nA_Walk_row, Walk_get_row, _, rfl, o, dx, _, rfl, ho3, Walk_no (by decide +kernel) (by decide +kernel) (by decide +kernel) (by decide +kernel) (by decide +kernel) (by decide +kernel), F3, o, d, k, L, W, rfl, W3, by omega, ?_⟩
        refine ⟨_, rfl, o, dx, _, rfl, ho3, Walk_no (by decide +kernel) (by decide +kernel) (by decide +kernel) (by decide +kernel) (by decide +kernel) (by decide +kernel), F3, o, d, k, L, W, rfl, gg.fh, W3, k1, by omega, by omega, ok.len, fun F4 G4 l xs z g4 wl al st => ⟨five_le, fun u nu => ?_⟩⟩
        exact fin (L := L) (W := W) _ gg es rfl g4 wl al st u nu
      | fin wd s r x mm =>
        rw [et] at iv
        obtain ⟨p, b', rfl, hp, hb'⟩ := iv
        obtain ⟨hw, ls, ss, hr', hmm, hx1, hx2⟩ := thr_ok hM (ok.s _) (by rw [lB]; exact k1) ok.r0 ok.r1 et
        have hp3 := SqT.of (K := K) (gg.fh _ _ hp)
        refine ⟨_, rfl, p, _, _, _, rfl, rfl, hp3, atI_nat (j := 0) rfl, rfl, _, rfl, ifF (by rcases hw with rfl | rfl <;> decide +kernel) ?_⟩
        rcases hw with rfl | rfl
        · rw [byB_end et] at es
          refine ⟨_, rfl, p, _, _, _, rfl, rfl, hp3, atI_nat (j := 0) rfl, rfl, _, rfl, ifT (decide_eq_true rfl) ?_⟩
          refine ⟨_, rfl, p, _, rfl, hp3, rfl, _, _, rfl, _, _, rfl, _, _, rfl, _, _, rfl, _, _, rfl, rfl, ?_⟩
          refine ⟨_, rfl, _, rfl, o, t.C_Walk, dx, _, _, rfl, ho3, t.cl_Walk, t.nA_Walk_blocks, Walk_get_blocks, _, rfl, o, t.C_Walk, dx, _, _, rfl, ho3, t.cl_Walk, t.nA_Walk_at, Walk_get_at, d, _, rfl, DPut.k (k := Sum.inl W.at_) W3.dd (by rw [diK_len]; exact lt_size (by omega)), ?_⟩
          rw [di_put L W.at_ (.ref b') (⟨s⟩ : Tup Int)]
          have od := W3.ne
          have g6 := gg.set (o := .dK (diK (ptD L W.at_ (.ref b') (⟨s⟩ : Tup Int)))) fd3 (.inl hnd)
          have ho6 := (upd_ne (H := G3) (o := .dK (diK (ptD L W.at_ (.ref b') (⟨s⟩ : Tup Int)))) od).trans ho3
          have W6 : WkAt t.C_Walk F3 (upd G3 d (.dK (diK (ptD L W.at_ (.ref b') (⟨s⟩ : Tup Int))))) o d k (ptD L W.at_ (.ref b') (⟨s⟩ : Tup Int)) ⟨updB W.B W.at_ s, W.at_, W.row, W.far, W.st⟩ :=
            ⟨⟨dx, ho6⟩, upd_same, W3.is.put ⟨b', _, rfl, hb', all_ints s⟩, W3.nd.put, fun a => by
              show updB W.B W.at_ s a = _
              rw [lkD_put]
              unfold updB
              by_cases e : a = W.at_
              · rw [if_pos e, if_pos e]; rfl
              · rw [if_neg e, if_neg e]; exact W3.bl a⟩
          generalize upd G3 d (.dK (diK (ptD L W.at_ (.ref b') (⟨s⟩ : Tup Int)))) = G6 at g6 ho6 W6 ⊢
          have lp := ptD_len L W.at_ (.ref b') (⟨s⟩ : Tup Int)
          refine ⟨_, rfl, o, t.C_Walk, dx, _, _, rfl, ho6, t.cl_Walk, t.nA_Walk_steps, Walk_get_steps, _, rfl, _, _, rfl, rfl, _, rfl, _, rfl, o, t.C_Walk, dx, _, _, rfl, ho6, t.cl_Walk, t.nA_Walk_at, Walk_get_at, _, rfl, _, _, rfl, rfl, .inr ⟨by omega, by omega⟩, _, rfl, _, _, rfl, rfl, ?_⟩
          refine ⟨_, rfl, o, dx, _, rfl, ho6, Walk_no (by decide +kernel) (by decide +kernel) (by decide +kernel) (by decide +kernel) (by decide +kernel) (by decide +kernel), F3, o, d, k, _, ⟨updB W.B W.at_ s, W.at_, W.row, W.far, W.st⟩, rfl, g6.fh, W6, k1, by omega, by omega, fun a => ?_, fun F4 G4 l xs z g4 wl al st => ⟨five_le, fun u nu => ?_⟩⟩
          · show (updB W.B W.at_ s a).length = k
            unfold updB
            split
            · rw [ls]; exact lB
            · exact ok.len a
          · exact fin (L := L) (W := ⟨updB W.B W.at_ s, W.at_, W.row, W.far, W.st⟩) _ g6 es rfl g4 wl al st u nu
        · rw [byB_out et] at es
          refine ⟨_, rfl, p, _, _, _, rfl, rfl, hp3, atI_nat (j := 0) rfl, rfl, _, rfl, ifF (by decide +kernel) ?_⟩
          refine ⟨_, rfl, o, dx, _, rfl, ho3, Walk_no (by decide +kernel) (by decide +kernel) (by decide +kernel) (by decide +kernel) (by decide +kernel) (by decide +kernel), _, rfl, F3, o, d, p, b', k, L, W, tOut, s, r, x, mm, rfl, gg.fh, W3, fo3, fd3, by omega, (hx2 rfl).1, hp, hb', fun G5 g5' W5 => ?_⟩
          have lp := ptD_len L W.at_ (.ref b') (⟨s⟩ : Tup Int)
          refine ⟨F3, _, _, _, _, _, _, _, _, _, rfl, gg.thn g5' fun c z => .inr (by rcases z with rfl | rfl <;> assumption), hm3, W5, ok.out hM k1 et, by omega, by omega, es, fo3, fd3⟩
    · rintro σ G ⟨F1, L, W, v4, v5, v6, v7, v8, v9, v10, rfl, g, hmF, Wg, ok, lL, hin, es, fo1, fd1⟩
      rw [show n - ((n : Int)).toNat = 0 by omega] at es
      have lL : L.length ≤ n := by rw [Int.toNat_natCast] at lL; exact lL
      obtain ⟨dx, ho3⟩ := Wg.ob
      refine ⟨_, rfl, o, t.C_Walk, dx, _, _, rfl, ho3, t.cl_Walk, t.nA_Walk_steps, Walk_get_steps, _, rfl, o, t.C_Walk, dx, _, _, rfl, ho3, t.cl_Walk, t.nA_Walk_row, Walk_get_row, _, rfl, o, dx, _, rfl, ho3, Walk_no (by decide +kernel) (by decide +kernel) (by decide +kernel) (by decide +kernel) (by decide +kernel) (by decide +kernel), F1, o, d, k, L, W, rfl, Wg, by omega, ?_⟩
      refine ⟨_, rfl, o, dx, _, rfl, ho3, Walk_no (by decide +kernel) (by decide +kernel) (by decide +kernel) (by decide +kernel) (by decide +kernel) (by decide +kernel), F1, o, d, k, L, W, rfl, g.fh, Wg, k1, by omega, by omega, ok.len, fun F4 G4 l xs z g4 wl al st => ⟨five_le, fun u nu => ?_⟩⟩
      exact fin (L := L) (W := W) ⟨tOnB, W.st, W.row, plB k W, W.B⟩ g es rfl g4 wl al st u nu
/-! ### what a machine does -/
structure Cfg where
  r : Int
  s : Int
  l : List PI
def entOf (M : Mach) (c : Cfg) : Ent := ((M[c.r.toNat]?.getD [])[((look c.l c.s).getD 0).toNat]?).getD .emp
def stepC (M : Mach) (c : Cfg) : Option Cfg := match entOf M c with
  | .emp => none
  | .go p w r => some ⟨r, c.s + w, put c.l c.s p⟩
structure CfOk (R S : Nat) (c : Cfg) : Prop where
  r0 : 0 ≤ c.r
  r1 : c.r < R
  nd : Nd c.l
  sg : ∀ q ∈ c.l, 0 ≤ q.b ∧ q.b < S
theorem CfOk.look {R S : Nat} {c : Cfg} (h : CfOk R S c) (s1 : 1 ≤ S) (x : Int) : 0 ≤ (look c.l x).getD 0 ∧ (look c.l x).getD 0 < S := by
  cases e : E.look c.l x with
  | none => simp only [Option.getD_none]; omega
  | some v => exact h.sg _ (mem_look e)
theorem CfOk.ent {M : Mach} {R S : Nat} {c : Cfg} (hM : MOk M R S) (h : CfOk R S c) : ∃ row, M[c.r.toNat]? = some row ∧ 0 ≤ (E.look c.l c.s).getD 0 ∧ row[((E.look c.l c.s).getD 0).toNat]? = some (entOf M c) ∧ EOk R S (entOf M c) := by
  have hr : c.r.toNat < M.length := by have := h.r0; have := h.r1; have := hM.len; omega
  have h1 : M[c.r.toNat]? = some M[c.r.toNat] := List.getElem?_eq_getElem hr
  have m1 := List.mem_of_getElem? h1
  obtain ⟨s0, s1⟩ := h.look (by have := hM.s2; omega) c.s
  have hs : ((E.look c.l c.s).getD 0).toNat < M[c.r.toNat].length := by rw [hM.row _ m1]; omega
  have h2 : M[c.r.toNat][((E.look c.l c.s).getD 0).toNat]? = some _ := List.getElem?_eq_getElem hs
  have e : entOf M c = M[c.r.toNat][((E.look c.l c.s).getD 0).toNat] := by
    unfold entOf
    rw [h1, Option.getD_some, h2, Option.getD_some]
  exact ⟨_, h1, s0, by rw [e]; exact h2, by rw [e]; exact hM.ent _ m1 _ (List.mem_of_getElem? h2)⟩
theorem CfOk.step {M : Mach} {R S : Nat} {c c' : Cfg} (hM : MOk M R S) (h : CfOk R S c) (e : stepC M c = some c') : CfOk R S c' := by
  obtain ⟨row, _, _, _, eo⟩ := h.ent hM
  unfold stepC at e
  split at e
  · cases e
  · rename_i p w r he
    cases e
    obtain ⟨o1, _, o3, o4⟩ := eo.ok _ _ _ he
    refine ⟨o3, o4, nd_put h.nd _ _, fun q m => ?_⟩
    rcases mem_put m with m | rfl
    · exact h.sg q m
    · exact o1
/-- the setups behind 0, 1, .. n steps, up to the end -/
def trace (M : Mach) : Nat → Cfg → List Cfg
  | 0, c => [c]
  | n + 1, c => c :: (match stepC M c with | none => [] | some c' => trace M n c')
/-- a setup with its signs in a dict -/
def cfAt (H : Hp) (v : V) (c : Cfg) : Prop := ∃ t d, v = .ref t ∧ H t = some (.tup [.int c.r, .int c.s, .ref d]) ∧ H d = some (.dK (dI c.l))
theorem cfAt.up {H H' : Hp} {v : V} {c : Cfg} (h : cfAt H v c) (s : Same H H') : cfAt H' v c := by
  obtain ⟨t, d, e, h1, h2⟩ := h
  exact ⟨t, d, e, s _ _ h1, s _ _ h2⟩
theorem dict_copy {H : Hp} {a : Addr} {l : List PI} (h : H a = some (.dK (dI l))) : Rd H a (.dK (dI l)) := .inl h
theorem stepC_none {M : Mach} {c : Cfg} : stepC M c = none ↔ entOf M c = .emp := by
  unfold stepC
  cases entOf M c with
  | emp => exact ⟨fun _ => rfl, fun _ => rfl⟩
  | go p w r => exact ⟨(fun h => nomatch h), (fun h => nomatch h)⟩
theorem stepC_go {M : Mach} {c : Cfg} {p w r : Int} (h : entOf M c = .go p w r) : stepC M c = some ⟨r, c.s + w, put c.l c.s p⟩ := by
  unfold stepC
  rw [h]
theorem mach_ent {F : Hp} {m : V} {M : Mach} {i j : Nat} {row : List Ent} {e : Ent} (hm : Is F m M) (h1 : M[i]? = some row) (h2 : row[j]? = some e) : ∃ am rs ra es v, m = .ref am ∧ F am = some (.lst rs) ∧ rs[i]? = some (.ref ra) ∧ F ra = some (.lst es) ∧ es[j]? = some v ∧ Is F v e := by
  obtain ⟨am, rs, e1, ham, hrs⟩ := hm
  obtain ⟨x, hx, ra, es, rfl, hra, hes⟩ := hrs.get h1
  obtain ⟨v, hv, hve⟩ := hes.get h2
  exact ⟨am, rs, ra, es, v, e1, ham, hx, hra, hv, hve⟩
theorem getD_int (o : Option Int) (x : Int) : (o.map V.int).getD (.int x) = .int (o.getD x) := by cases o <;> rfl
theorem trace_end {M : Mach} {c : Cfg} (h : stepC M c = none) : ∀ n, trace M n c = [c]
  | 0 => rfl
  | n + 1 => by
    unfold trace
    rw [h]
theorem trace_go {M : Mach} {c c' : Cfg} (h : stepC M c = some c') (n : Nat) : trace M (n + 1) c = c :: trace M n c' := by
  show c :: (match stepC M c with | none => [] | some c' => trace M n c') = _
  rw [h]
theorem size_dI {l : List PI} {n : Nat} (h : l.length ≤ n) (k : n ≤ 1000000) : (dI l).length < sizeLine := by
  unfold dI; rw [List.length_map]; exact lt_size (by omega)
/-! ### runs from the empty strip -/
def c0 : Cfg := ⟨0, 0, []⟩
def stepsC (M : Mach) : Nat → Option Cfg
  | 0 => some c0
  | k + 1 => (stepsC M k).bind (stepC M)
theorem stepsC_next {M : Mach} {k : Nat} {c : Cfg} (h : stepsC M k = some c) : stepsC M (k + 1) = stepC M c := by
  show (stepsC M k).bind (stepC M) = _
  rw [h]; rfl
theorem stepsC_back {M : Mach} {k : Nat} {c : Cfg} (h : stepsC M (k + 1) = some c) : ∃ b, stepsC M k = some b ∧ stepC M b = some c := Option.bind_eq_some_iff.mp h
theorem stepsC_end {M : Mach} {k : Nat} {c : Cfg} (h : stepsC M k = some c) (e : stepC M c = none) : ∀ j, stepsC M (k + 1 + j) = none
  | 0 => by rw [Nat.add_zero, stepsC_next h]; exact e
  | j + 1 => by
    show (stepsC M (k + 1 + j)).bind (stepC M) = _
    rw [stepsC_end h e j]; rfl
theorem c0_ok {R S : Nat} (r1 : 1 ≤ R) : CfOk R S c0 := ⟨Int.le_refl _, by show (0 : Int) < R; omega, nd_nil, fun z m => nomatch m⟩
theorem stepC_len {M : Mach} {c c' : Cfg} (e : stepC M c = some c') : c'.l.length ≤ c.l.length + 1 := by
  unfold stepC at e
  split at e
  · cases e
  · cases e
    exact put_len _ _ _
theorem stepsC_ok {M : Mach} {R S : Nat} (hM : MOk M R S) : ∀ {k : Nat} {c : Cfg}, stepsC M k = some c → CfOk R S c ∧ c.l.length ≤ k
  | 0, c, h => by
    cases h
    exact ⟨c0_ok hM.r1, Nat.le_refl _⟩
  | k + 1, c, h => by
    obtain ⟨b, hb, e⟩ := stepsC_back h
    obtain ⟨i1, i2⟩ := stepsC_ok hM hb
    have := stepC_len e
    exact ⟨i1.step hM e, by omega⟩
/-- where a run of at most n steps stands: behind k of them, at c -/
structure Gone (M : Mach) (n k : Nat) (c : Cfg) : Prop where
  le : k ≤ n
  stp : stepsC M k = some c
  fin : stepC M c = none ∨ k = n
theorem Gone.lt {M : Mach} {n k k' : Nat} {c c' : Cfg} (a : Gone M n k c) (b : Gone M n k' c') : ¬ k < k' := fun l => by
  rcases a.fin with e | e
  · have h := stepsC_end a.stp e (k' - (k + 1))
    rw [show k + 1 + (k' - (k + 1)) = k' by omega, b.stp] at h
    cases h
  · have := b.le; omega
theorem Gone.uniq {M : Mach} {n k k' : Nat} {c c' : Cfg} (a : Gone M n k c) (b : Gone M n k' c') : k = k' ∧ c = c' := by
  have e : k = k' := by have := a.lt b; have := b.lt a; omega
  subst e
  have h := a.stp
  rw [b.stp] at h
  cases h
  exact ⟨rfl, rfl⟩
/-! ### a strip without noughts -/
def pop (l : List PI) (x : Int) : List PI := l.filter fun p => decide (p.a ≠ x)
theorem dI_pop (l : List PI) (x : Int) : dropK (dI l) (Sum.inl x) = dI (pop l x) := by
  unfold dropK dI pop
  rw [List.filter_map]
  congr 2
  funext p
  have e : ((Sum.inl p.a : Key) ≠ Sum.inl x) = (p.a ≠ x) := propext ⟨fun h z => h (by rw [z]), fun h z => h (Sum.inl.inj z)⟩
  simp only [Function.comp, e]
theorem look_pop (x y : Int) : ∀ l : List PI, look (pop l x) y = if y = x then none else look l y
  | [] => by show look [] y = _; rw [look_nil]; split <;> rfl
  | p :: l => by
    have ih := look_pop x y l
    unfold pop at ih ⊢
    rw [List.filter_cons, look_cons]
    by_cases e : p.a = x
    · rw [if_neg (by simp [e]), ih]
      by_cases f : y = x
      · rw [if_pos f, if_pos f]
      · rw [if_neg f, if_neg f, if_neg (by rw [e]; exact fun z => f z.symm)]
    · rw [if_pos (by simp [e]), look_cons, ih]
      by_cases f : p.a = y
      · rw [if_pos f, if_pos f, if_neg (by rw [← f]; exact e)]
      · rw [if_neg f, if_neg f]
theorem nd_pop {l : List PI} (h : Nd l) (x : Int) : Nd (pop l x) := List.Sublist.nodup (List.Sublist.map _ List.filter_sublist) h
theorem nd_nodup {l : List PI} (h : Nd l) : l.Nodup := (List.pairwise_map.mp h).imp fun z e => z (by rw [e])
structure ZRel (l l' : List PI) : Prop where
  n : Nd l
  n' : Nd l'
  z : ∀ q ∈ l', q.b ≠ 0
  lk : ∀ x, (look l x).getD 0 = (look l' x).getD 0
theorem ZRel.nil : ZRel [] [] := ⟨nd_nil, nd_nil, fun q m => (nomatch m), fun x => rfl⟩
theorem ZRel.put {l l' : List PI} (h : ZRel l l') (x : Int) {v : Int} (e : v ≠ 0) : ZRel (put l x v) (put l' x v) := by
  refine ⟨nd_put h.n _ _, nd_put h.n' _ _, fun q m => ?_, fun y => ?_⟩
  · rcases mem_put m with m | rfl
    · exact h.z q m
    · exact e
  · rw [look_put, look_put]
    split
    · rfl
    · exact h.lk y
theorem ZRel.pop {l l' : List PI} (h : ZRel l l') (x : Int) : ZRel (E.put l x 0) (pop (E.put l' x 0) x) := by
  refine ⟨nd_put h.n _ _, nd_pop (nd_put h.n' _ _) _, fun q m => ?_, fun y => ?_⟩
  · obtain ⟨m, e⟩ := List.mem_filter.mp m
    have e : q.a ≠ x := of_decide_eq_true e
    rcases mem_put m with m | rfl
    · exact h.z q m
    · exact absurd rfl e
  · rw [look_put, look_pop, look_put]
    split
    · rfl
    · exact h.lk y
theorem ZRel.perm {l l' : List PI} (h : ZRel l l') : (l.filter nz).Perm l' := by
  refine (List.perm_ext_iff_of_nodup (List.Sublist.nodup List.filter_sublist (nd_nodup h.n)) (nd_nodup h.n')).mpr fun q => ?_
  have k := h.lk q.a
  rw [List.mem_filter]
  constructor
  · rintro ⟨m, e⟩
    have e : q.b ≠ 0 := of_decide_eq_true e
    rw [look_mem h.n m, Option.getD_some] at k
    cases f : look l' q.a with
    | none => rw [f] at k; exact absurd k e
    | some z =>
      rw [f, Option.getD_some] at k
      have m' := mem_look f
      rw [← k] at m'
      exact m'
  · intro m
    have e := h.z q m
    rw [look_mem h.n' m, Option.getD_some] at k
    cases f : look l q.a with
    | none => rw [f] at k; exact absurd k.symm e
    | some z =>
      rw [f, Option.getD_some] at k
      have m' := mem_look f
      rw [k] at m'
      exact ⟨m', decide_eq_true e⟩
theorem ZRel.told {l l' : List PI} (h : ZRel l l') : told l = srt l' :=
  srt_uniq (srt_srt _) (srt_srt _) (((srt_perm _).trans h.perm).trans (srt_perm _).symm)
theorem ZRel.len {l l' : List PI} (h : ZRel l l') : l'.length ≤ l.length := by
  rw [← h.perm.length_eq]; exact List.length_filter_le _ _
/-- a setup with its signs other than 0 in a dict -/
def zAt (H : Hp) (v : V) (c : Cfg) : Prop := ∃ t d l', v = .ref t ∧ H t = some (.tup [.int c.r, .int c.s, .ref d]) ∧ H d = some (.dK (dI l')) ∧ ZRel c.l l'
theorem zAt.up {H H' : Hp} {v : V} {c : Cfg} (h : zAt H v c) (s : Same H H') : zAt H' v c := by
  obtain ⟨t, d, l', e, h1, h2, h3⟩ := h
  exact ⟨t, d, l', e, s _ _ h1, s _ _ h2, h3⟩
/-- the setups behind 0, 1, .. k steps -/
def ZAll (H : Hp) (M : Mach) (xs : List V) (k : Nat) : Prop := xs.length = k + 1 ∧ ∀ i v, xs[i]? = some v → ∃ c, stepsC M i = some c ∧ zAt H v c
theorem ZAll.up {H H' : Hp} {M : Mach} {xs : List V} {k : Nat} (h : ZAll H M xs k) (s : Same H H') : ZAll H' M xs k :=
  ⟨h.1, fun i v e => by obtain ⟨c, a, b⟩ := h.2 i v e; exact ⟨c, a, b.up s⟩⟩
theorem ZAll.one {H : Hp} {M : Mach} {v : V} (h : zAt H v c0) : ZAll H M [v] 0 := ⟨rfl, fun i u e => by
  cases i with
  | zero => cases e; exact ⟨c0, rfl, h⟩
  | succ n => cases e⟩
theorem ZAll.app {H : Hp} {M : Mach} {xs : List V} {k : Nat} {v : V} {c : Cfg} (h : ZAll H M xs k) (e : stepsC M (k + 1) = some c) (z : zAt H v c) : ZAll H M (xs ++ [v]) (k + 1) := by
  refine ⟨by rw [List.length_append, h.1]; rfl, fun i u hu => ?_⟩
  by_cases l : i < xs.length
  · rw [List.getElem?_append_left l] at hu
    exact h.2 i u hu
  · rw [List.getElem?_append_right (by omega)] at hu
    cases j : i - xs.length with
    | zero =>
      rw [j] at hu
      cases hu
      have := h.1
      rw [show i = k + 1 by omega]
      exact ⟨c, e, z⟩
    | succ n => rw [j] at hu; cases hu
theorem ZAll.get {H : Hp} {M : Mach} {xs : List V} {k i : Nat} {c : Cfg} (h : ZAll H M xs k) (l : i ≤ k) (e : stepsC M i = some c) : ∃ v, xs[i]? = some v ∧ zAt H v c := by
  have l' : i < xs.length := by rw [h.1]; omega
  obtain ⟨c', e', z⟩ := h.2 i _ (List.getElem?_eq_getElem l')
  rw [e] at e'
  cases e'
  exact ⟨_, List.getElem?_eq_getElem l', z⟩
/-- the entry at c, looked up by a strip of the same signs -/
theorem CfOk.ent' {M : Mach} {R S : Nat} {c : Cfg} {l' : List PI} (hM : MOk M R S) (h : CfOk R S c) (z : ZRel c.l l') : ∃ row, M[c.r.toNat]? = some row ∧ 0 ≤ (E.look l' c.s).getD 0 ∧ row[((E.look l' c.s).getD 0).toNat]? = some (entOf M c) ∧ EOk R S (entOf M c) := by
  rw [← z.lk]
  exact h.ent hM
/-- what is read at a place -/
def gz (l : List PI) (x : Int) : Int := (look l x).getD 0
theorem ZRel.filt {l : List PI} (h : Nd l) : ZRel l (l.filter nz) := by
  refine ⟨h, List.Sublist.nodup (List.Sublist.map _ List.filter_sublist) h, fun q m => of_decide_eq_true (List.mem_filter.mp m).2, fun x => ?_⟩
  have hf : Nd (l.filter nz) := List.Sublist.nodup (List.Sublist.map _ List.filter_sublist) h
  cases e : look (l.filter nz) x with
  | some v =>
    have m := (List.mem_filter.mp (mem_look e)).1
    rw [show look l x = some v from look_mem h m]
  | none =>
    cases f : look l x with
    | none => rfl
    | some v =>
      by_cases z : v = 0
      · rw [z]; rfl
      · have m : (⟨x, v⟩ : PI) ∈ l.filter nz := List.mem_filter.mpr ⟨mem_look f, decide_eq_true z⟩
        rw [show look (l.filter nz) x = some v from look_mem hf m] at e
        cases e
/-! ### strides told, and runs -/
theorem look_perm {l m : List PI} (h : Nd l) (p : l.Perm m) (x : Int) : look l x = look m x := by
  have hm : Nd m := (p.map (fun q : PI => q.a)).nodup_iff.mp h
  cases e : look m x with
  | some v => exact look_mem h (p.mem_iff.mpr (mem_look e))
  | none =>
    cases f : look l x with
    | none => rfl
    | some v =>
      have : look m x = some v := look_mem hm (p.mem_iff.mp (mem_look f))
      rw [e] at this; cases this
theorem gz_told {l : List PI} (h : Nd l) (x : Int) : gz (told l) x = gz l x := by
  have hf : Nd (l.filter nz) := List.Sublist.nodup (List.Sublist.map _ List.filter_sublist) h
  unfold gz
  rw [(ZRel.filt h).lk x]
  unfold told
  rw [look_perm (nd_srt hf) (srt_perm _) x]
theorem told_nd {l : List PI} (h : Nd l) : Nd (told l) := nd_srt (List.Sublist.nodup (List.Sublist.map _ List.filter_sublist) h)
theorem told_len {l : List PI} : (told l).length ≤ l.length := by
  show (srt _).length ≤ _
  rw [(srt_perm _).length_eq]
  exact List.length_filter_le _ _
theorem told_mem {l : List PI} {q : PI} (m : q ∈ told l) : q ∈ l := (List.mem_filter.mp (mem_srt.mp m)).1
theorem leP_a {p q : PI} (h : LeP p q) : p.a ≤ q.a := by
  rcases leP_iff.mp h with h | h
  · omega
  · omega
theorem told_first {l : List PI} {x : PI} (h : (told l)[0]? = some x) : ∀ q ∈ told l, x.a ≤ q.a := fun q m => by
  have pw : (told l).Pairwise LeP := srt_srt (l.filter nz)
  obtain ⟨i, hi⟩ := List.getElem?_of_mem m
  obtain ⟨li, ei⟩ := List.getElem?_eq_some_iff.mp hi
  obtain ⟨l0, e0⟩ := List.getElem?_eq_some_iff.mp h
  by_cases c : i = 0
  · subst c
    rw [e0] at ei
    rw [ei]; exact Int.le_refl _
  · have := List.pairwise_iff_getElem.mp pw 0 i l0 li (by omega)
    rw [e0, ei] at this
    exact leP_a this
theorem told_last {l : List PI} {x : PI} (h : (told l)[(told l).length - 1]? = some x) : ∀ q ∈ told l, q.a ≤ x.a := fun q m => by
  have pw : (told l).Pairwise LeP := srt_srt (l.filter nz)
  obtain ⟨i, hi⟩ := List.getElem?_of_mem m
  obtain ⟨li, ei⟩ := List.getElem?_eq_some_iff.mp hi
  obtain ⟨l0, e0⟩ := List.getElem?_eq_some_iff.mp h
  by_cases c : i = (told l).length - 1
  · subst c
    rw [e0] at ei
    rw [ei]; exact Int.le_refl _
  · have := List.pairwise_iff_getElem.mp pw i ((told l).length - 1) li l0 (by omega)
    rw [ei, e0] at this
    exact leP_a this
theorem spot_bound {M : Mach} {R S : Nat} (hM : MOk M R S) : ∀ {k : Nat} {c : Cfg}, stepsC M k = some c → (-(k : Int) ≤ c.s ∧ c.s ≤ k) ∧ ∀ q ∈ c.l, -(k : Int) ≤ q.a ∧ q.a ≤ k
  | 0, c, h => by
    cases h
    exact ⟨⟨Int.le_refl _, Int.le_refl _⟩, fun q m => nomatch m⟩
  | k + 1, c, h => by
    obtain ⟨b, hb, e⟩ := stepsC_back h
    obtain ⟨⟨i1, i2⟩, i3⟩ := spot_bound hM hb
    obtain ⟨_, _, _, _, eo⟩ := (stepsC_ok hM hb).1.ent hM
    unfold stepC at e
    split at e
    · cases e
    · rename_i p w r he
      cases e
      obtain ⟨_, wo, _⟩ := eo.ok _ _ _ he
      refine ⟨⟨by show _ ≤ b.s + w; omega, by show b.s + w ≤ _; omega⟩, fun q m => ?_⟩
      rcases mem_put m with m | rfl
      · have := i3 q m
        omega
      · exact ⟨by show _ ≤ b.s; omega, by show b.s ≤ _; omega⟩
/-! ### walks by blocks, and steps -/
theorem told_st {l : List PI} (h : Nd l) : IsSt (told l) (gz l) := by
  refine ⟨?_, fun x s => ?_⟩
  · have hn := told_nd h
    have hs : (told l).Pairwise LeP := srt_srt _
    have hn2 : (told l).Pairwise (fun p q => p.a ≠ q.a) := List.pairwise_map.mp hn
    refine (List.Pairwise.and hs hn2).imp fun {p q} z => ?_
    have := leP_a z.1
    have := z.2
    omega
  · show _ ∈ srt (l.filter nz) ↔ _
    rw [mem_srt, List.mem_filter]
    constructor
    · rintro ⟨m, z⟩
      have e := look_mem h m
      refine ⟨?_, of_decide_eq_true z⟩
      show (look l x).getD 0 = s
      rw [show look l x = some s from e]; rfl
    · rintro ⟨e, z⟩
      refine ⟨?_, decide_eq_true z⟩
      have e : (look l x).getD 0 = s := e
      cases f : look l x with
      | none => rw [f] at e; exact absurd e.symm z
      | some v => rw [f] at e; have e : v = s := e; rw [← e]; exact mem_look f
/-- a setup of the machine within a block at a -/
structure RepB (k : Nat) (c : Cfg) (B : Int → List Int) (a : Int) (b : Bs) : Prop where
  r : c.r = b.r
  s : c.s = a * k + b.p
  f : ∀ x, gz c.l x = fB k (updB B a b.s) x
section
variable {M : Mach} {R S k : Nat} {c : Cfg} {B : Int → List Int} {a : Int} {b b' : Bs}
theorem dm {k : Nat} (k1 : 1 ≤ k) {a p : Int} (p0 : 0 ≤ p) (p1 : p < k) : (a * k + p) / (k : Int) = a ∧ (a * k + p) % (k : Int) = p :=
  (Int.ediv_emod_unique (by omega)).mpr ⟨by rw [Int.mul_comm]; omega, p0, p1⟩
theorem fB_at (k1 : 1 ≤ k) (s : List Int) {p : Int} (p0 : 0 ≤ p) (p1 : p < k) : fB k (updB B a s) (a * k + p) = (s[p.toNat]?).getD 0 := by
  obtain ⟨e1, e2⟩ := dm (a := a) k1 p0 p1
  unfold fB
  rw [e1, e2, updB_same]
theorem fB_set (k1 : 1 ≤ k) {s : List Int} (ls : s.length = k) {p v : Int} (p0 : 0 ≤ p) (p1 : p < k) (x : Int) : fB k (updB B a (s.set p.toNat v)) x = if x = a * k + p then v else fB k (updB B a s) x := by
  have hd := Int.mul_ediv_add_emod x k
  have h0 := Int.emod_nonneg x (show (k : Int) ≠ 0 by omega)
  have hc := Int.mul_comm (x / (k : Int)) k
  by_cases e : x = a * k + p
  · rw [if_pos e, e, fB_at k1 _ p0 p1, List.getElem?_set_self (show p.toNat < s.length by omega)]; rfl
  · rw [if_neg e]
    unfold fB updB
    by_cases ea : x / (k : Int) = a
    · rw [if_pos ea, if_pos ea]
      have : p.toNat ≠ (x % (k : Int)).toNat := fun z => e (by rw [ea] at hc hd; omega)
      rw [List.getElem?_set_ne this]
    · rw [if_neg ea, if_neg ea]
theorem gz_put {l : List PI} {x v y : Int} : gz (put l x v) y = if y = x then v else gz l y := by
  unfold gz
  rw [look_put]
  split
  · rfl
  · rfl
theorem RepB.ent (k1 : 1 ≤ k) (h : RepB k c B a b) (ok : BOk R S k b) : entOf M c = entAt M b.r (sgB b) := by
  have e : gz c.l c.s = sgB b := by
    rw [h.f, h.s, fB_at k1 _ ok.p0 ok.p1]; rfl
  show (((M[c.r.toNat]?.getD [])[(gz c.l c.s).toNat]?).getD .emp) = _
  rw [e, h.r]; rfl
theorem RepB.put (k1 : 1 ≤ k) (h : RepB k c B a b) (ok : BOk R S k b) (v : Int) : ∀ x, gz (put c.l c.s v) x = fB k (updB B a (b.s.set b.p.toNat v)) x := fun x => by
  rw [gz_put, fB_set k1 ok.len ok.p0 ok.p1, h.s, h.f]
theorem RepB.nxt (k1 : 1 ≤ k) (h : RepB k c B a b) (ok : BOk R S k b) (e : bn M b = .nxt b') : ∃ c', stepC M c = some c' ∧ RepB k c' B a b' := by
  have he := h.ent (M := M) k1 ok
  cases ee : entAt M b.r (sgB b) with
  | emp => rw [bn_emp ee] at e; cases e
  | go pu wa to =>
    by_cases z : 0 ≤ b.p + wa ∧ b.p + wa < (b.s.length : Int)
    · rw [bn_go ee z] at e
      cases e
      exact ⟨_, stepC_go (he.trans ee), rfl, by show c.s + wa = a * k + (b.p + wa); rw [h.s]; omega, h.put k1 ok pu⟩
    · rw [bn_out ee z] at e; cases e
theorem updB_updB {B : Int → List Int} {a : Int} {s : List Int} (x : Int) : fB k (updB (updB B a s) a s) x = fB k (updB B a s) x := by
  unfold fB updB
  split <;> rfl
theorem fB_id {B : Int → List Int} {a : Int} (x : Int) : fB k (updB B a (B a)) x = fB k B x := by
  unfold fB updB
  split
  · rename_i h; rw [h]
  · rfl
theorem RepB.out (k1 : 1 ≤ k) (hM : MOk M R S) (h : RepB k c B a b) (ok : BOk R S k b) {s : List Int} {r wa d : Int} (hB : ∀ x, (B x).length = k) (e : bn M b = .lv tOut s r wa d) :
    d = 1 ∧ (wa = -1 ∨ wa = 1) ∧ ∃ c', stepC M c = some c' ∧ RepB k c' (updB B a s) (a + wa) (st0 (updB B a s (a + wa)) r (decide (-wa = 1))) := by
  have he := h.ent (M := M) k1 ok
  have eo := ok.ent hM
  cases ee : entAt M b.r (sgB b) with
  | emp =>
    exfalso
    rw [bn_emp ee] at e
    injection e with e1
    exact absurd e1 (by decide +kernel)
  | go pu wa' to =>
    rw [ee] at eo
    obtain ⟨o1, o2, o3⟩ := eo.ok _ _ _ rfl
    by_cases z : 0 ≤ b.p + wa' ∧ b.p + wa' < (b.s.length : Int)
    · rw [bn_go ee z] at e; cases e
    · rw [bn_out ee z] at e
      cases e
      have l := ok.len; have p0 := ok.p0; have p1 := ok.p1
      refine ⟨rfl, o2, _, stepC_go (he.trans ee), rfl, ?_, fun x => ?_⟩
      · show c.s + wa = (a + wa) * k + (if decide (-wa = 1) then ((updB B a (b.s.set b.p.toNat pu) (a + wa)).length : Int) - 1 else 0)
        have lu : (updB B a (b.s.set b.p.toNat pu) (a + wa)).length = k := by
          unfold updB
          split
          · rw [List.length_set]; exact l
          · exact hB _
        rw [lu, h.s, Int.add_mul]
        rcases o2 with rfl | rfl
        · rw [if_pos (by decide)]; omega
        · rw [if_neg (by decide)]; omega
      · show gz (E.put c.l c.s pu) x = fB k (updB (updB B a (b.s.set b.p.toNat pu)) (a + wa) (updB B a (b.s.set b.p.toNat pu) (a + wa))) x
        rw [fB_id]
        exact h.put k1 ok pu x
theorem RepB.fin (k1 : 1 ≤ k) (h : RepB k c B a b) (ok : BOk R S k b) {s : List Int} {r x d : Int} (e : bn M b = .lv tEnd s r x d) : d = 0 ∧ stepC M c = none ∧ s = b.s ∧ r = b.r ∧ x = b.p := by
  have he := h.ent (M := M) k1 ok
  cases ee : entAt M b.r (sgB b) with
  | emp => rw [bn_emp ee] at e; cases e; exact ⟨rfl, stepC_none.mpr (he.trans ee), rfl, rfl, rfl⟩
  | go pu wa to =>
    exfalso
    by_cases z : 0 ≤ b.p + wa ∧ b.p + wa < (b.s.length : Int)
    · rw [bn_go ee z] at e; cases e
    · rw [bn_out ee z] at e
      injection e with e1
      exact absurd e1 (by decide +kernel)
theorem tj_rep (k1 : 1 ≤ k) (hM : MOk M R S) : ∀ (i j : Nat) (b b' : Bs) (c : Cfg), BOk R S k b → tj M i b = some b' → RepB k c B a b → stepsC M j = some c → ∃ c', stepsC M (j + i) = some c' ∧ RepB k c' B a b'
  | 0, j, b, b', c, ok, t, h, st => by cases t; exact ⟨c, st, h⟩
  | i + 1, j, b, b', c, ok, t, h, st => by
    cases eb : bn M b with
    | nxt b1 =>
      rw [tj_nxt eb] at t
      obtain ⟨c1, e1, h1⟩ := h.nxt k1 ok eb
      obtain ⟨c2, e2, h2⟩ := tj_rep k1 hM i (j + 1) b1 b' c1 (bn_ok ok hM eb) t h1 ((stepsC_next st).trans e1)
      exact ⟨c2, by rw [show j + (i + 1) = j + 1 + i by omega]; exact e2, h2⟩
    | lv w s r x d => rw [tj_lv eb] at t; cases t
theorem steps_le : ∀ {j i : Nat}, i ≤ j → stepsC M j ≠ none → stepsC M i ≠ none := fun {j i} l h z => by
  obtain ⟨d, rfl⟩ := Nat.le.dest l
  have : ∀ d, stepsC M (i + d) = none := fun d => by
    induction d with
    | zero => exact z
    | succ d ih =>
      show (stepsC M (i + d)).bind (stepC M) = none
      rw [ih]; rfl
  exact h (this d)
end
theorem word_of' {M : Mach} {c : Bs} {s : List Int} {w : TStr} {r x d : Int} (e : bn M c = .lv w s r x d) : w = tEnd ∨ w = tOut := by
  cases ee : entAt M c.r (sgB c) with
  | emp => rw [bn_emp ee] at e; cases e; exact .inl rfl
  | go pu wa to =>
    by_cases z : 0 ≤ c.p + wa ∧ c.p + wa < (c.s.length : Int)
    · rw [bn_go ee z] at e; cases e
    · rw [bn_out ee z] at e; cases e; exact .inr rfl
/-- a walk by blocks stands where the run does -/
structure WRep (M : Mach) (k : Nat) (W : Wk) (j : Nat) (c : Cfg) : Prop where
  st : stepsC M j = some c
  n : W.st = j
  rep : RepB k c W.B W.at_ (st0 (W.B W.at_) W.row W.far)
structure YRep (M : Mach) (k : Nat) (Y : ByR) (j : Nat) (c : Cfg) : Prop where
  st : stepsC M j = some c
  n : Y.st = j
  r : c.r = Y.row
  s : c.s = Y.pl
  f : ∀ x, gz c.l x = fB k Y.B x
  e : Y.w = tEnd → stepC M c = none
  v : Y.w = tStay → ∀ i, stepsC M i ≠ none
  w : Y.w = tEnd ∨ Y.w = tStay ∨ Y.w = tOnB
theorem tEnd_on : tEnd ≠ tOnB ∧ tEnd ≠ tStay ∧ tStay ≠ tOnB := by decide +kernel
theorem byB_rep {M : Mach} {R S k : Nat} (k1 : 1 ≤ k) (hM : MOk M R S) : ∀ (n : Nat) (W : Wk) (j : Nat) (c : Cfg), OkW R S k W → WRep M k W j c → ∃ j' c', j ≤ j' ∧ YRep M k (byB M R S k n W) j' c'
  | 0, W, j, c, ok, h => by
    refine ⟨j, c, Nat.le_refl j, h.st, h.n, h.rep.r, ?_, fun x => ?_, fun z => absurd z.symm tEnd_on.1, fun z => absurd z.symm tEnd_on.2.2, .inr (.inr rfl)⟩
    · show c.s = W.at_ * k + (if W.far then (k : Int) - 1 else 0)
      rw [h.rep.s]
      show W.at_ * k + (if W.far then ((W.B W.at_).length : Int) - 1 else 0) = _
      rw [ok.len]
    · rw [h.rep.f]; exact fB_id x
  | n + 1, W, j, c, ok, h => by
    have lB : (W.B W.at_).length = k := ok.len _
    have okb : BOk R S k (st0 (W.B W.at_) W.row W.far) := by
      have := st0_ok (R := R) (row := W.row) (far := W.far) (ok.s W.at_) (by omega) ok.r0 ok.r1
      rw [lB] at this; exact this
    cases et : thr M R S (W.B W.at_) W.row W.far with
    | stay =>
      rw [byB_stay et]
      have nv := thr_stay hM (ok.s _) (by omega) ok.r0 ok.r1 et
      refine ⟨j, c, Nat.le_refl j, h.st, h.n, h.rep.r, ?_, fun x => ?_, fun z => absurd z.symm tEnd_on.2.1, fun _ i => ?_, .inr (.inl rfl)⟩
      · show c.s = W.at_ * k + (if W.far then (k : Int) - 1 else 0)
        rw [h.rep.s]
        show W.at_ * k + (if W.far then ((W.B W.at_).length : Int) - 1 else 0) = _
        rw [lB]
      · rw [h.rep.f]; exact fB_id x
      · refine steps_le (j := j + i) (by omega) ?_
        cases t : tj M i (st0 (W.B W.at_) W.row W.far) with
        | none => exact absurd t (nv i)
        | some b' =>
          obtain ⟨c', e', _⟩ := tj_rep k1 hM i j _ b' c okb t h.rep h.st
          rw [e']; exact fun z => nomatch z
    | fin w s r x m =>
      obtain ⟨i, b', d, t1, t2, t3⟩ := thr_fin et
      obtain ⟨c1, e1, h1⟩ := tj_rep k1 hM i j _ b' c okb t1 h.rep h.st
      have okb' := tj_ok hM i _ b' okb t1
      rcases word_of' t2 with rfl | rfl
      · rw [byB_end et]
        obtain ⟨rfl, hs, rfl, rfl, rfl⟩ := h1.fin k1 okb' t2
        refine ⟨j + i, c1, by omega, e1, ?_, h1.r, h1.s, h1.f, fun _ => hs, fun z => absurd z tEnd_on.2.1, .inl rfl⟩
        show W.st + m = ((j + i : Nat) : Int)
        rw [h.n, t3]; omega
      · rw [byB_out et]
        obtain ⟨rfl, ww, c2, e2, h2⟩ := h1.out k1 hM okb' ok.len t2
        obtain ⟨j', c', lj, y⟩ := byB_rep k1 hM n (W.out s r x m) (j + i + 1) c2 (ok.out hM k1 et) ⟨(stepsC_next e1).trans e2, by show W.st + m = ((j + i + 1 : Nat) : Int); rw [h.n, t3]; omega, h2⟩
        exact ⟨j', c', by omega, y⟩
theorem W0_rep {M : Mach} {k : Nat} (k1 : 1 ≤ k) : WRep M k (W0 k) 0 c0 := by
  refine ⟨rfl, rfl, rfl, by show (0 : Int) = 0 * k + 0; omega, fun x => ?_⟩
  show (0 : Int) = fB k (updB (fun _ => List.replicate k 0) 0 (List.replicate k 0)) x
  unfold fB updB
  have e : (if x / (k : Int) = 0 then List.replicate k (0 : Int) else List.replicate k 0) = List.replicate k 0 := by split <;> rfl
  rw [e, List.getElem?_replicate]
  split <;> rfl
theorem byB_more {M : Mach} {R S k : Nat} (d : Nat) : ∀ (n : Nat) (W : Wk), (byB M R S k n W).w ≠ tOnB → byB M R S k (n + d) W = byB M R S k n W
  | 0, W, h => absurd rfl h
  | n + 1, W, h => by
    rw [show n + 1 + d = (n + d) + 1 by omega]
    cases et : thr M R S (W.B W.at_) W.row W.far with
    | stay => rw [byB_stay et, byB_stay et]
    | fin w s r x m =>
      by_cases e : w = tEnd
      · subst e; rw [byB_end et, byB_end et]
      · have e2 : ∀ n, byB M R S k (n + 1) W = byB M R S k n (W.out s r x m) := fun n => by rw [byB, et]; exact if_neg e
        rw [e2] at h ⊢
        rw [e2]
        exact byB_more d n _ h
/-- a count that is greater tells no fewer steps -/
theorem byB_mono {M : Mach} {R S k : Nat} (k1 : 1 ≤ k) (hM : MOk M R S) : ∀ (n : Nat) (W : Wk), OkW R S k W → W.st ≤ (byB M R S k n W).st
  | 0, W, _ => Int.le_refl _
  | n + 1, W, ok => by
    cases et : thr M R S (W.B W.at_) W.row W.far with
    | stay => rw [byB_stay et]; exact Int.le_refl _
    | fin w s r x m =>
      have z := thr_ok hM (ok.s _) (by rw [ok.len]; exact k1) ok.r0 ok.r1 et
      rcases z.1 with rfl | rfl
      · rw [byB_end et]; show W.st ≤ W.st + m; have := z.2.2.2.2.1; omega
      · rw [byB_out et]
        have := byB_mono k1 hM n (W.out s r x m) (ok.out hM k1 et)
        have e : (W.out s r x m).st = W.st + m := rfl
        have := z.2.2.2.2.1
        omega
theorem byB_grow {M : Mach} {R S k : Nat} (k1 : 1 ≤ k) (hM : MOk M R S) (d : Nat) : ∀ (n : Nat) (W : Wk), OkW R S k W → (byB M R S k n W).st ≤ (byB M R S k (n + d) W).st
  | 0, W, ok => by rw [Nat.zero_add]; exact byB_mono k1 hM d W ok
  | n + 1, W, ok => by
    rw [show n + 1 + d = (n + d) + 1 by omega]
    cases et : thr M R S (W.B W.at_) W.row W.far with
    | stay => rw [byB_stay et, byB_stay et]; exact Int.le_refl _
    | fin w s r x m =>
      have z := thr_ok hM (ok.s _) (by rw [ok.len]; exact k1) ok.r0 ok.r1 et
      rcases z.1 with rfl | rfl
      · rw [byB_end et, byB_end et]; exact Int.le_refl _
      · rw [byB_out et, byB_out et]
        exact byB_grow k1 hM d n _ (ok.out hM k1 et)
/-- a block of one place is left by each step -/
theorem byB_one {M : Mach} {R S : Nat} (hM : MOk M R S) : ∀ (n : Nat) (W : Wk), OkW R S 1 W → (byB M R S 1 n W).w ≠ tStay ∧ ((byB M R S 1 n W).w = tOnB → (byB M R S 1 n W).st = W.st + n)
  | 0, W, _ => ⟨fun z => absurd z.symm tEnd_on.2.2, fun _ => by show W.st = W.st + (0 : Nat); omega⟩
  | n + 1, W, ok => by
    have lB : (W.B W.at_).length = 1 := ok.len _
    have okb := st0_ok (R := R) (row := W.row) (far := W.far) (ok.s W.at_) (by omega) ok.r0 ok.r1
    have first : ∀ b', bn M (st0 (W.B W.at_) W.row W.far) ≠ .nxt b' := fun b' e => by
      cases ee : entAt M (st0 (W.B W.at_) W.row W.far).r (sgB (st0 (W.B W.at_) W.row W.far)) with
      | emp => rw [bn_emp ee] at e; cases e
      | go pu wa to =>
        have eo := okb.ent hM
        rw [ee] at eo
        obtain ⟨_, o2, _⟩ := eo.ok _ _ _ rfl
        have p0 := okb.p0
        have p1 := okb.p1
        have z : ¬ (0 ≤ (st0 (W.B W.at_) W.row W.far).p + wa ∧ (st0 (W.B W.at_) W.row W.far).p + wa < ((st0 (W.B W.at_) W.row W.far).s.length : Int)) := by
          have : ((st0 (W.B W.at_) W.row W.far).s.length : Int) = 1 := by show ((W.B W.at_).length : Int) = 1; rw [lB]; rfl
          rw [this]
          rw [lB] at p1
          omega
        rw [bn_out ee z] at e; cases e
    cases et : thr M R S (W.B W.at_) W.row W.far with
    | stay =>
      exfalso
      have nv := thr_stay hM (ok.s _) (by omega) ok.r0 ok.r1 et
      cases eb : bn M (st0 (W.B W.at_) W.row W.far) with
      | nxt b' => exact first b' eb
      | lv w s r x d => exact nv 1 (tj_lv eb)
    | fin w s r x m =>
      obtain ⟨i, b', d, t1, t2, t3⟩ := thr_fin et
      have i0 : i = 0 := by
        cases i with
        | zero => rfl
        | succ i =>
          cases eb : bn M (st0 (W.B W.at_) W.row W.far) with
          | nxt b2 => exact absurd eb (first b2)
          | lv w s r x d => rw [tj_lv eb] at t1; cases t1
      subst i0
      rcases word_of' t2 with rfl | rfl
      · rw [byB_end et]
        exact ⟨fun z => absurd z tEnd_on.2.1, fun z => absurd z tEnd_on.1⟩
      · rw [byB_out et]
        obtain ⟨h1, h2⟩ := byB_one hM n (W.out s r x m) (ok.out hM (Nat.le_refl 1) et)
        refine ⟨h1, fun z => (h2 z).trans ?_⟩
        have okb' := tj_ok hM 0 _ b' okb t1
        have hd : d = 1 := by
          cases ee : entAt M b'.r (sgB b') with
          | emp =>
            rw [bn_emp ee] at t2
            injection t2 with e1
            exact absurd e1 (by decide +kernel)
          | go pu wa to =>
            by_cases z : 0 ≤ b'.p + wa ∧ b'.p + wa < (b'.s.length : Int)
            · rw [bn_go ee z] at t2; cases t2
            · rw [bn_out ee z] at t2; cases t2; rfl
        show W.st + m + (n : Int) = W.st + ((n + 1 : Nat) : Int)
        rw [t3, hd]; omega
/-! ### the mirrored machine -/
def mirE : Ent → Ent
  | .emp => .emp
  | .go p w r => .go p (0 - w) r
def mirM (M : Mach) : Mach := M.map fun row => row.map mirE
theorem MOk.mir {M : Mach} {R S : Nat} (h : MOk M R S) : MOk (mirM M) R S := by
  refine ⟨h.r1, h.r4, h.s2, h.s4, by unfold mirM; rw [List.length_map]; exact h.len, fun r m => ?_, fun r m e k => ?_⟩
  · obtain ⟨r0, m0, rfl⟩ := List.mem_map.mp m
    rw [List.length_map]; exact h.row r0 m0
  · obtain ⟨r0, m0, rfl⟩ := List.mem_map.mp m
    obtain ⟨e0, k0, rfl⟩ := List.mem_map.mp k
    have o := h.ent r0 m0 e0 k0
    cases e0 with
    | emp => exact ⟨fun p w r z => nomatch z⟩
    | go p w r =>
      obtain ⟨o1, o2, o3⟩ := o.ok p w r rfl
      refine ⟨fun p' w' r' z => ?_⟩
      cases z
      exact ⟨o1, by omega, o3⟩
/-! ### the ways turned about -/
def sp_L_turned : Sp := fun vs H Q _ => ∃ (F : Hp) (v : V) (e : Ent), vs = [v] ∧ Same F H ∧ Is F v e ∧ ∀ (F' H' : Hp) (u : V), Gr mu0 F H F' H' → Is F' u (mirE e) → Q u H'
theorem ok_L_turned (t : Tx K mg) : FnOk P w K mg base CX0 1 t.a_L_turned t.fd_L_turned ["_law_entry_here"] sp_L_turned := by
  refine t.F_L_turned.ok sc_L_turned (fun vs H Q E h => ?_) (fun cdv A outer s H vs Q E hr h => ?_)
  · obtain ⟨F, v, e, rfl, _⟩ := h
    rfl
  · obtain ⟨F, v, e, rfl, sF, hv, q⟩ := h
    refine ⟨_, (pss_cons (ps_if (pt_cmpR (op_eqD hr.units) (pv 0) (pe_tup pa_nil) (nomark _)) (pss_one (ps_ret (pe_tup pa_nil))) pss_nil)
      (pss_one (ps_ret (pe_tup (pa_cons (pe_ix ix_tup (pv 0) pe_int (fun _ _ => rfl)) (pa_cons (pe_op op_sub pe_int (pe_ix ix_tup (pv 0) pe_int (fun _ _ => rfl))) (pa_cons (pe_ix ix_tup (pv 0) pe_int (fun _ _ => rfl)) pa_nil))))))), ?_⟩
    refine ⟨_, rfl, nil_le, fun p np => ?_⟩
    have g1 : Gr mu0 F H F (upd H p (.tup [])) := (Gr.refl sF).own np
    refine eq_dat (a := e) (b := Ent.emp) (hv.up g1.fh) ⟨p, rfl, upd_same⟩ ⟨_, rfl, ?_⟩
    generalize upd H p (.tup []) = H1 at g1 ⊢
    cases e with
    | emp => exact ifT (decide_eq_true rfl) ⟨nil_le, fun u nu => q _ _ _ (g1.new nu) ⟨u, rfl, upd_same⟩⟩
    | go pu wa to =>
      obtain ⟨a, rfl, ha⟩ := hv
      have h1 := SqT.of (K := K) (g1.fh _ _ ha)
      refine ifF (decide_eq_false (by intro z; cases z)) ?_
      exact ⟨_, rfl, a, _, _, _, rfl, rfl, h1, atI_nat (j := 0) rfl, _, rfl, a, _, _, _, rfl, rfl, h1, atI_nat (j := 1) rfl, _, _, rfl, rfl, _, rfl, a, _, _, _, rfl, rfl, h1, atI_nat (j := 2) rfl, three_le, fun u nu => q _ _ _ (g1.new nu) ⟨u, rfl, upd_same⟩⟩
def sp_L_mirrored : Sp := fun vs H Q _ => ∃ (F : Hp) (m : V) (M : Mach) (R S : Nat), vs = [m] ∧ Same F H ∧ Is F m M ∧ MOk M R S ∧ ∀ (F' H' : Hp) (v : V), Gr mu0 F H F' H' → Is F' v (mirM M) → Q v H'
theorem ok_L_mirrored (t : Tx K mg) : FnOk P w K mg base CX0 2 t.a_L_mirrored t.fd_L_mirrored ["_law_machine_here"] sp_L_mirrored := by
  refine t.F_L_mirrored.ok sc_L_mirrored (fun vs H Q E h => ?_) (fun cdv A outer s H vs Q E hr h => ?_)
  · obtain ⟨F, m, M, R, S, rfl, _⟩ := h
    rfl
  · obtain ⟨F, m, M, R, S, rfl, sF, hm, hM, q⟩ := h
    refine ⟨_, (pss_one (ps_ret (pe_lc (own := [("_law_row", 2)]) (g := gName 2) (tt := tYes) rfl sc_L_mirrored.nd (pi_list (pv 0)) (blkOk_by (N := N_L_mirrored) (sc := defScope s_L_mirrored) (by decide +kernel)) (fun _ _ _ _ _ => (pg_name (i := 2) sc_L_mirrored.nd rfl (by first | exact Or.inl rfl | exact Or.inr rfl))) (fun _ _ _ _ _ => pts_nil) (fun _ _ _ _ _ => (pe_lc (own := [("_law_entry_here", 1)]) (g := gName 1) (tt := tYes) rfl sc_L_mirrored.nd (pi_listK (K := K) rfl (pv 2)) (blkOk_by (N := N_L_mirrored) (sc := { kind := PySem.ScopeKind.function, names := [(PySem.Str.ofString ".0", PySem.NameKind.local), (PySem.Str.ofString "_law_row", PySem.NameKind.local)], isGenerator := false, isCoroutine := false }) (by decide +kernel)) (fun _ _ _ _ _ => (pg_name (i := 1) sc_L_mirrored.nd rfl (by first | exact Or.inl rfl | exact Or.inr rfl))) (fun _ _ _ _ _ => pts_nil) (fun _ _ _ _ _ => (pe_call (ok_L_turned t) (hr.mono (by decide)) (by rfl) t.m_L_turned t.F_L_turned.kp t.b_L_turned .nil pass0 (pa_cons (pv 1) pa_nil)))))))), ?_⟩
    have g0 : Gr mu0 F H F H := Gr.refl sF
    obtain ⟨am, rs, rfl, ham, hrs⟩ := id hm
    have r4 := hM.r4
    have s4 := hM.s4
    have lrs : rs.length = R := hrs.1.trans hM.len
    refine ⟨_, rfl, am, rfl, ⟨_, SqL.of (sF _ _ ham)⟩, fun D nD => lc_list (K := K) (a := am) (xs := rs) (fun i G => ∃ (F1 : Hp) (xs : List V), Gr mu0 F H F1 G ∧ Ow H F1 G D (.lst xs) ∧ IsAll F1 xs (mirM (M.take i)))
      ⟨F, [], g0.own nD, Ow.mk1 g0 nD, All2.nil⟩ (fun i G _ ⟨F1, xs, g, _⟩ => SqL.of (g.fh _ _ (g.ff _ _ ham))) ?_ ?_⟩
    · rintro i x G hi ⟨F1, xs, g, w, al⟩
      obtain ⟨row, hMi, ra, es, rfl, hra, hes⟩ := hrs.get' hi
      have il : i < rs.length := (List.getElem?_eq_some_iff.mp hi).1
      have ls : es.length = S := hes.1.trans (hM.row _ (List.mem_of_getElem? hMi))
      have lx : xs.length = i := by rw [al.1]; unfold mirM; rw [List.length_map, List.length_take, ← hrs.1]; omega
      refine ⟨rfl, yes ⟨_, rfl, ra, rfl, ⟨_, SqL.of (g.fh _ _ (g.ff _ _ hra))⟩, fun E nE => lc_list (K := K) (a := ra) (xs := es) (fun j G2 => ∃ (F2 : Hp) (ys : List V), Gr mu0 F H F2 G2 ∧ Same F1 F2 ∧ Ow H F2 G2 D (.lst xs) ∧ Ow H F2 G2 E (.lst ys) ∧ IsAll F2 ys ((row.take j).map mirE))
        ⟨F1, [], g.own nE, Same.refl F1, w.own nE, Ow.mk1 g nE, All2.nil⟩ (fun j G2 _ ⟨F2, ys, g2, _⟩ => SqL.of (g2.fh _ _ (g2.ff _ _ hra))) ?_ ?_⟩⟩
      · rintro j y G2 hj ⟨F2, ys, g2, s12, wD, wE, al2⟩
        obtain ⟨e, hej, ie⟩ := hes.get' hj
        have jl : j < es.length := (List.getElem?_eq_some_iff.mp hj).1
        have ly : ys.length = j := by rw [al2.1, List.length_map, List.length_take, ← hes.1]; omega
        refine ⟨rfl, yes ⟨_, rfl, F2, y, e, rfl, g2.fh, Is.up ie g2.ff, fun F3 G3 u g3 iu => ?_⟩⟩
        have wE3 := wE.call g3 (fun z => z)
        have wD3 := wD.call g3 (fun z => z)
        refine ⟨ys, wE3.h, lt_size (by omega), F3, ys ++ [u], (g2.trans g3).set wE3.f (.inl wE3.n), fun c o h => g3.ff c o (s12 c o h), wD3.other (w.ne nE), wE3.set, ?_⟩
        rw [map_take_succ hej]
        exact (al2.up g3.ff).app (All2.one iu)
      · rintro G2 ⟨F2, ys, g2, s12, wD, wE, al2⟩
        rw [hes.1, List.take_length] at al2
        have g3 := g2.frz wE.h wE.n wE.f
        have wD3 : Ow H (upd F2 E (.lst ys)) G2 D (.lst xs) := wD.frz' (w.ne nE)
        have s3 : Same F2 (upd F2 E (.lst ys)) := sm_new (Same.refl F2) wE.f
        refine ⟨xs, wD.h, lt_size (by omega), upd F2 E (.lst ys), xs ++ [.ref E], g3.set wD3.f (.inl wD3.n), wD3.set, ?_⟩
        have tk : mirM (M.take (i + 1)) = mirM (M.take i) ++ [row.map mirE] := map_take_succ hMi
        rw [tk]
        exact (al.up (fun c o h => s3 c o (s12 c o h))).app (All2.one ⟨E, ys, rfl, upd_same, al2.up s3⟩)
    · rintro G ⟨F1, xs, g, w, al⟩
      rw [hrs.1, List.take_length] at al
      exact q _ _ (.ref D) (g.frz w.h w.n w.f) ⟨D, xs, rfl, upd_same, al.up (sm_new (Same.refl F1) w.f)⟩
theorem strd_len (M : Mach) : ∀ (n : Nat) {k : Sk} {m : Nat}, LenK k m → LenK (strd M n k).2 (m + n)
  | 0, k, m, h => h
  | n + 1, k, m, h => by
    have h1 : LenK k (m + (n + 1)) := ⟨by have := h.1; omega, by have := h.2; omega⟩
    unfold strd
    split
    · exact h1
    · split
      · exact h1
      · rw [show m + (n + 1) = (m + 1) + n by omega]
        refine strd_len M n ?_
        split
        · exact ⟨by have := h.1; omega, by have := h.2; omega⟩
        · exact h.step _
theorem strd_ok {M : Mach} {R S : Nat} (hM : MOk M R S) : ∀ (n : Nat) {k : Sk}, OkK R S k → OkK R S (strd M n k).2
  | 0, k, h => h
  | n + 1, k, h => by
    have S1 : 1 ≤ S := by have := hM.s2; omega
    obtain ⟨_, _, _, eo⟩ := ent_of hM h.r0 h.r1 h.s0 h.s1
    rw [strd]
    cases ee : entAt M k.row k.s with
    | emp => exact h
    | go p w t =>
      rw [ee] at eo
      obtain ⟨⟨p0, p1⟩, wo, t0, t1⟩ := eo.ok _ _ _ rfl
      dsimp only
      split
      · exact h
      · refine strd_ok hM n ?_
        split
        · exact h
        · exact h.step _ S1 p0 p1 t0 t1
/-! ### a told strip is short -/
theorem int_len {lo : Int} {n : Nat} {l : List Int} (nd : l.Nodup) (h : ∀ x ∈ l, lo ≤ x ∧ x < lo + n) : l.length ≤ n := by
  rcases Nat.lt_or_ge n l.length with z | z
  · exfalso
    obtain ⟨i, j, ij, jn, q⟩ := pig n (fun i => ((l[i]?).getD lo - lo).toNat) fun i li => by
      have e : l[i]? = some l[i] := List.getElem?_eq_getElem (by omega)
      have hx := h l[i] (List.getElem_mem _)
      show ((l[i]?).getD lo - lo).toNat < n
      rw [e]
      show (l[i] - lo).toNat < n
      omega
    have li : i < l.length := by omega
    have lj : j < l.length := by omega
    have q : ((l[i]?).getD lo - lo).toNat = ((l[j]?).getD lo - lo).toNat := q
    rw [List.getElem?_eq_getElem li, List.getElem?_eq_getElem lj] at q
    have q : (l[i] - lo).toNat = (l[j] - lo).toNat := q
    have hi := h l[i] (List.getElem_mem _)
    have hj := h l[j] (List.getElem_mem _)
    exact List.pairwise_iff_getElem.mp nd i j li lj ij (by omega)
  · exact z
theorem byB_supp {M : Mach} {R S k : Nat} (k1 : 1 ≤ k) (hM : MOk M R S) : ∀ (n : Nat) (W : Wk) (t : Int), OkW R S k W → -t ≤ W.at_ → W.at_ ≤ t → (∀ a x, x ∈ W.B a → x ≠ 0 → -t ≤ a ∧ a ≤ t) → ∀ a x, x ∈ (byB M R S k n W).B a → x ≠ 0 → -(t + n) ≤ a ∧ a ≤ t + n
  | 0, W, t, _, _, _, h => fun a x m nz => by
    have := h a x m nz
    omega
  | n + 1, W, t, ok, a0, a1, h => fun a x => by
    have up : ∀ s : List Int, ∀ a x, x ∈ updB W.B W.at_ s a → x ≠ 0 → -t ≤ a ∧ a ≤ t := fun s a x m nz => by
      unfold updB at m
      by_cases e : a = W.at_
      · rw [e]; exact ⟨a0, a1⟩
      · rw [if_neg e] at m; exact h a x m nz
    cases et : thr M R S (W.B W.at_) W.row W.far with
    | stay =>
      rw [byB_stay et]
      intro m nz
      have := h a x m nz
      omega
    | fin w s r y m =>
      have z := thr_ok hM (ok.s _) (by rw [ok.len]; exact k1) ok.r0 ok.r1 et
      rcases z.1 with rfl | rfl
      · rw [byB_end et]
        intro m nz
        have := up s a x m nz
        omega
      · rw [byB_out et]
        intro m nz
        have z7 := (z.2.2.2.2.2.2 rfl).1
        have := byB_supp k1 hM n (W.out s r y _) (t + 1) (ok.out hM k1 et) (by show -(t + 1) ≤ W.at_ + y; omega) (by show W.at_ + y ≤ t + 1; omega) (fun a x m nz => by have := up s a x m nz; omega) a x m nz
        omega
theorem byB_few {M : Mach} {R S k N : Nat} {z : List PI} (k1 : 1 ≤ k) (k4 : k ≤ 4) (hM : MOk M R S) (hN : N ≤ 400) (st : IsSt z (fB k (byB M R S k N (W0 k)).B)) : z.length ≤ 3400 := by
  have S1 : 1 ≤ S := by have := hM.s2; omega
  have sp := byB_supp k1 hM N (W0 k) 0 (W0_ok hM.r1 S1) (Int.le_refl 0) (Int.le_refl 0) fun a x m nz => absurd (List.mem_replicate.mp m).2 nz
  have nd : (z.map T2.a).Nodup := by
    rw [List.nodup_iff_pairwise_ne, List.pairwise_map]
    exact st.rise.imp fun h => by omega
  have := int_len (lo := -1700) (n := 3400) nd fun x hx => by
    obtain ⟨y, hy, rfl⟩ := List.mem_map.mp hx
    obtain ⟨e1, e2⟩ := st.nz hy
    unfold fB at e1
    cases e : ((byB M R S k N (W0 k)).B (y.a / (k : Int)))[(y.a % (k : Int)).toNat]? with
    | none => rw [e] at e1; exact absurd e1.symm e2
    | some v =>
      rw [e] at e1
      have e1 : v = y.b := e1
      have := sp _ v (List.mem_of_getElem? e) (by rw [e1]; exact e2)
      rcases (by omega : k = 1 ∨ k = 2 ∨ k = 3 ∨ k = 4) with rfl | rfl | rfl | rfl <;> omega
  rw [List.length_map] at this
  exact this
/-! ### named otherwise, turned about or not (plain) -/
def Ent.nm (f g : Int → Int) (tn : Bool) : Ent → Ent
  | .emp => .emp
  | .go p w t => .go (f p) (if tn then 0 - w else w) (g t)
structure Nmd (M M' : Mach) (R S : Nat) (f g : Int → Int) (tn : Bool) : Prop where
  f0 : f 0 = 0
  fl : ∀ x, 0 ≤ x → x < (S : Int) → 0 ≤ f x ∧ f x < (S : Int)
  fi : ∀ x y, 0 ≤ x → x < (S : Int) → 0 ≤ y → y < (S : Int) → f x = f y → x = y
  gi : ∀ x y, 0 ≤ x → x < (R : Int) → 0 ≤ y → y < (R : Int) → g x = g y → x = y
  g0 : g 0 = 0
  ent : ∀ r s, 0 ≤ r → r < (R : Int) → 0 ≤ s → s < (S : Int) → entAt M' (g r) (f s) = (entAt M r s).nm f g tn
def nmL (f : Int → Int) (l : List PI) : List PI := l.map fun q => ⟨f q.a, q.b⟩
def Sk.nm (f g : Int → Int) (tn : Bool) (k : Sk) : Sk := ⟨nmL f (k.ah tn), nmL f (k.bh tn), f k.s, g k.row, k.st⟩
section
variable {M M' : Mach} {R S : Nat} {f g : Int → Int} {tn : Bool}
theorem Sk.nm_ah (k : Sk) (b : Bool) : (k.nm f g tn).ah b = nmL f (k.ah (xor b tn)) := by cases b <;> cases tn <;> rfl
theorem Sk.nm_bh (k : Sk) (b : Bool) : (k.nm f g tn).bh b = nmL f (k.bh (xor b tn)) := by cases b <;> cases tn <;> rfl
theorem Nmd.fe (h : Nmd M M' R S f g tn) {x y : Int} (x0 : 0 ≤ x) (x1 : x < S) (y0 : 0 ≤ y) (y1 : y < S) : decide (f x = f y) = decide (x = y) :=
  decide_eq_decide.mpr ⟨h.fi x y x0 x1 y0 y1, fun e => by rw [e]⟩
theorem Nmd.ge (h : Nmd M M' R S f g tn) {x y : Int} (x0 : 0 ≤ x) (x1 : x < R) (y0 : 0 ≤ y) (y1 : y < R) : decide (g x = g y) = decide (x = y) :=
  decide_eq_decide.mpr ⟨h.gi x y x0 x1 y0 y1, fun e => by rw [e]⟩
theorem Nmd.eats (h : Nmd M M' R S f g tn) {k : Sk} (ok : OkK R S k) {t : Int} (t0 : 0 ≤ t) (t1 : t < R) (b : Bool) : E.eats (k.nm f g tn) b (g t) = E.eats k (xor b tn) t := by
  unfold E.eats
  rw [Sk.nm_ah, show (k.nm f g tn).row = g k.row from rfl, h.ge t0 t1 ok.r0 ok.r1]
  have z := ok.ah (xor b tn)
  cases e : k.ah (xor b tn) with
  | nil => rfl
  | cons q l =>
    rw [e] at z
    have zq := (z q (List.mem_cons_self ..)).1
    show (decide (t = k.row) && decide (f q.a = f k.s)) = (decide (t = k.row) && decide (q.a = k.s))
    rw [h.fe zq.1 zq.2 ok.s0 ok.s1]
theorem Nmd.far (h : Nmd M M' R S f g tn) {k : Sk} (ok : OkK R S k) {t : Int} (t0 : 0 ≤ t) (t1 : t < R) (b : Bool) : farOf (k.nm f g tn) b (g t) = farOf k (xor b tn) t := by
  unfold farOf
  rw [h.eats ok t0 t1, Sk.nm_ah]
  cases k.ah (xor b tn) <;> rfl
theorem Nmd.ahOf (h : Nmd M M' R S f g tn) {k : Sk} (ok : OkK R S k) {t : Int} (t0 : 0 ≤ t) (t1 : t < R) (b : Bool) : E.ahOf (k.nm f g tn) b (g t) = nmL f (E.ahOf k (xor b tn) t) := by
  unfold E.ahOf
  rw [h.eats ok t0 t1, Sk.nm_ah]
  split
  · unfold nmL; rw [List.map_drop]
  · rfl
theorem Nmd.takn (h : Nmd M M' R S f g tn) (l : List PI) : E.takn (nmL f l) = (f (E.takn l).1, nmL f (E.takn l).2) := by
  cases l with
  | nil => show ((0 : Int), ([] : List PI)) = (f 0, []); rw [h.f0]
  | cons q r =>
    show (if q.b = 1 then (f q.a, nmL f r) else (f q.a, ⟨f q.a, q.b - 1⟩ :: nmL f r)) = _
    unfold E.takn
    dsimp only
    split <;> rfl
theorem Nmd.laid (h : Nmd M M' R S f g tn) {l : List PI} (ok : OkS S l) {p : Int} (n : Int) (p0 : 0 ≤ p) (p1 : p < S) : E.laid (nmL f l) (f p) n = nmL f (E.laid l p n) := by
  have S0 : (0 : Int) < S := by omega
  have z0 : (f p = 0) = (p = 0) := propext ⟨fun e => h.fi p 0 p0 p1 (Int.le_refl 0) S0 (e.trans h.f0.symm), fun e => by rw [e]; exact h.f0⟩
  unfold E.laid
  cases l with
  | nil =>
    show (if n = 0 ∨ (([] : List PI) = [] ∧ f p = 0) then ([] : List PI) else [⟨f p, n⟩]) = nmL f (if n = 0 ∨ (([] : List PI) = [] ∧ p = 0) then [] else [⟨p, n⟩])
    by_cases c : n = 0 ∨ (([] : List PI) = [] ∧ p = 0)
    · rw [if_pos c, if_pos (by rw [z0]; exact c)]; rfl
    · rw [if_neg c, if_neg (by rw [z0]; exact c)]; rfl
  | cons q r =>
    have zq := (ok q (List.mem_cons_self ..)).1
    have zz : (f q.a = f p) ↔ (q.a = p) := ⟨h.fi _ _ zq.1 zq.2 p0 p1, fun e => by rw [e]⟩
    show (if n = 0 ∨ (nmL f (q :: r) = [] ∧ f p = 0) then nmL f (q :: r) else if f q.a = f p then (⟨f p, q.b + n⟩ : PI) :: nmL f r else ⟨f p, n⟩ :: ⟨f q.a, q.b⟩ :: nmL f r) = nmL f (if n = 0 ∨ (q :: r = [] ∧ p = 0) then q :: r else if q.a = p then ⟨p, q.b + n⟩ :: r else ⟨p, n⟩ :: q :: r)
    by_cases c : n = 0
    · rw [if_pos (.inl c), if_pos (.inl c)]
    · have c1 : ¬ (n = 0 ∨ (nmL f (q :: r) = [] ∧ f p = 0)) := fun z => z.elim c fun z => (nomatch z.1)
      have c2 : ¬ (n = 0 ∨ (q :: r = [] ∧ p = 0)) := fun z => z.elim c fun z => (nomatch z.1)
      by_cases d : q.a = p
      · rw [if_neg c1, if_neg c2, if_pos (zz.mpr d), if_pos d]; rfl
      · rw [if_neg c1, if_neg c2, if_neg (fun z => d (zz.mp z)), if_neg d]; rfl
theorem Nmd.step (h : Nmd M M' R S f g tn) {k : Sk} (ok : OkK R S k) (b : Bool) {p t : Int} (p0 : 0 ≤ p) (p1 : p < S) (t0 : 0 ≤ t) (t1 : t < R) : stepS (k.nm f g tn) b (f p) (g t) = (stepS k (xor b tn) p t).nm f g tn := by
  have e1 := h.far ok t0 t1 b
  have e2 : E.laid ((k.nm f g tn).bh b) (f p) (farOf (k.nm f g tn) b (g t)) = nmL f (E.laid (k.bh (xor b tn)) p (farOf k (xor b tn) t)) := by
    rw [Sk.nm_bh, e1]; exact h.laid (ok.bh _) _ p0 p1
  have e3 : E.takn (E.ahOf (k.nm f g tn) b (g t)) = (f (E.takn (E.ahOf k (xor b tn) t)).1, nmL f (E.takn (E.ahOf k (xor b tn) t)).2) := by
    rw [h.ahOf ok t0 t1]; exact h.takn _
  unfold stepS
  rw [e2, e3, e1]
  cases b <;> cases tn <;> rfl
theorem Nmd.nevr (h : Nmd M M' R S f g tn) {k : Sk} (ok : OkK R S k) (b : Bool) {t : Int} (t0 : 0 ≤ t) (t1 : t < R) : E.nevr (k.nm f g tn) b (g t) = E.nevr k (xor b tn) t := by
  have S0 : (0 : Int) < S := by have := ok.s0; have := ok.s1; omega
  have a : decide (f k.s = 0) = decide (k.s = 0) := by
    have := h.fe ok.s0 ok.s1 (Int.le_refl 0) S0
    rw [h.f0] at this; exact this
  unfold E.nevr
  rw [show (k.nm f g tn).row = g k.row from rfl, show (k.nm f g tn).s = f k.s from rfl, h.ge t0 t1 ok.r0 ok.r1, a, Sk.nm_ah]
  cases k.ah (xor b tn) <;> rfl
theorem way_nm {w : Int} (h : w = -1 ∨ w = 1) : decide ((if tn = true then 0 - w else w) = 1) = xor (decide (w = 1)) tn := by
  rcases h with rfl | rfl <;> cases tn <;> rfl
theorem Nmd.strd (h : Nmd M M' R S f g tn) (hM : MOk M R S) : ∀ (n : Nat) (k : Sk), OkK R S k → E.strd M' n (k.nm f g tn) = ((E.strd M n k).1, (E.strd M n k).2.nm f g tn)
  | 0, k, _ => rfl
  | n + 1, k, ok => by
    have S1 : 1 ≤ S := by have := hM.s2; omega
    have ee := h.ent k.row k.s ok.r0 ok.r1 ok.s0 ok.s1
    have eo := (ent_of hM ok.r0 ok.r1 ok.s0 ok.s1).choose_spec.2.2
    show (match entAt M' (g k.row) (f k.s) with
      | .emp => (tEnd, k.nm f g tn)
      | .go p w t => if E.nevr (k.nm f g tn) (decide (w = 1)) t = true then (tNev, k.nm f g tn) else E.strd M' n (if n = 0 then k.nm f g tn else stepS (k.nm f g tn) (decide (w = 1)) p t)) = _
    have e1 : E.strd M (n + 1) k = match entAt M k.row k.s with
      | .emp => (tEnd, k)
      | .go p w t => if E.nevr k (decide (w = 1)) t = true then (tNev, k) else E.strd M n (if n = 0 then k else stepS k (decide (w = 1)) p t) := rfl
    rw [e1, ee]
    cases e : entAt M k.row k.s with
    | emp => rfl
    | go p w t =>
      rw [e] at eo
      obtain ⟨o1, o2, o3⟩ := eo.ok _ _ _ rfl
      show (if E.nevr (k.nm f g tn) (decide ((if tn = true then 0 - w else w) = 1)) (g t) = true then (tNev, k.nm f g tn) else E.strd M' n (if n = 0 then k.nm f g tn else stepS (k.nm f g tn) (decide ((if tn = true then 0 - w else w) = 1)) (f p) (g t))) = _
      rw [way_nm o2, h.nevr ok _ o3.1 o3.2, h.step ok _ o1.1 o1.2 o3.1 o3.2, Bool.xor_assoc, Bool.xor_self, Bool.xor_false]
      dsimp only
      split
      · rfl
      · by_cases z : n = 0
        · rw [if_pos z, if_pos z]; exact h.strd hM n k ok
        · rw [if_neg z, if_neg z]; exact h.strd hM n _ (ok.step _ S1 o1.1 o1.2 o3.1 o3.2)
end
/-! ### blocks named otherwise -/
def Bs.nm (f g : Int → Int) (b : Bs) : Bs := ⟨b.s.map f, b.p, g b.r⟩
def Bn.nm (f g : Int → Int) : Bn → Bn
  | .nxt b => .nxt (b.nm f g)
  | .lv w s r x d => .lv w (s.map f) (g r) x d
def ThR.nm (f g : Int → Int) : ThR → ThR
  | .stay => .stay
  | .fin w s r x n => .fin w (s.map f) (g r) x n
def Wk.nm (f g : Int → Int) (W : Wk) : Wk := ⟨fun a => (W.B a).map f, W.at_, g W.row, W.far, W.st⟩
def ByR.nm (f g : Int → Int) (Y : ByR) : ByR := ⟨Y.w, Y.st, g Y.row, Y.pl, fun a => (Y.B a).map f⟩
section
variable {M M' : Mach} {R S : Nat} {f g : Int → Int}
theorem Nmd.bn (h : Nmd M M' R S f g false) {L : Nat} {b : Bs} (ok : BOk R S L b) : E.bn M' (b.nm f g) = (E.bn M b).nm f g := by
  obtain ⟨e1, s0, s1⟩ := ok.sgB
  have es : sgB (b.nm f g) = f (sgB b) := by
    show ((b.s.map f)[b.p.toNat]?).getD 0 = _
    rw [List.getElem?_map, e1]; rfl
  have ee := h.ent b.r (sgB b) ok.r0 ok.r1 s0 s1
  have l : ((b.nm f g).s.length : Int) = (b.s.length : Int) := by show (((b.s.map f).length : Nat) : Int) = _; rw [List.length_map]
  cases e : entAt M b.r (sgB b) with
  | emp =>
    rw [e] at ee
    rw [bn_emp e, bn_emp (b := b.nm f g) (by rw [es]; exact ee)]
    rfl
  | go p w t =>
    rw [e] at ee
    have ee' : entAt M' (b.nm f g).r (sgB (b.nm f g)) = .go (f p) w (g t) := by rw [es]; exact ee
    by_cases z : 0 ≤ b.p + w ∧ b.p + w < (b.s.length : Int)
    · rw [bn_go e z, bn_go ee' (by rw [l]; exact z)]
      show Bn.nxt ⟨(b.s.map f).set b.p.toNat (f p), b.p + w, g t⟩ = .nxt ⟨(b.s.set b.p.toNat p).map f, b.p + w, g t⟩
      rw [List.map_set]
    · rw [bn_out e z, bn_out ee' (by rw [l]; exact z)]
      show Bn.lv tOut ((b.s.map f).set b.p.toNat (f p)) (g t) w 1 = .lv tOut ((b.s.set b.p.toNat p).map f) (g t) w 1
      rw [List.map_set]
theorem Nmd.bgo (h : Nmd M M' R S f g false) (hM : MOk M R S) {L : Nat} : ∀ (n : Nat) (b : Bs) (k : Int), BOk R S L b → E.bgo M' n (b.nm f g) k = (E.bgo M n b k).nm f g
  | 0, _, _, _ => rfl
  | n + 1, b, k, ok => by
    have e := h.bn ok
    cases eb : E.bn M b with
    | nxt c =>
      rw [eb] at e
      rw [bgo_nxt eb, bgo_nxt (c := c.nm f g) e]
      exact h.bgo hM n c _ (bn_ok ok hM eb)
    | lv w s r x d =>
      rw [eb] at e
      rw [bgo_lv eb, bgo_lv (s := s.map f) (r := g r) e]
      rfl
theorem Nmd.thr (h : Nmd M M' R S f g false) (hM : MOk M R S) {s : List Int} {row : Int} {far : Bool} (hs : SOk S s) (l : 1 ≤ s.length) (r0 : 0 ≤ row) (r1 : row < R) : E.thr M' R S (s.map f) (g row) far = (E.thr M R S s row far).nm f g := by
  unfold E.thr
  rw [List.length_map]
  have e : st0 (s.map f) (g row) far = (st0 s row far).nm f g := by
    unfold st0
    rw [List.length_map]
    rfl
  rw [e]
  exact h.bgo hM _ _ _ (st0_ok hs l r0 r1)
theorem updB_nm (B : Int → List Int) (a : Int) (s : List Int) : (fun x => (updB B a s x).map f) = updB (fun x => (B x).map f) a (s.map f) := by
  funext x
  unfold updB
  split <;> rfl
theorem Nmd.byB (h : Nmd M M' R S f g false) (hM : MOk M R S) {k : Nat} (k1 : 1 ≤ k) : ∀ (n : Nat) (W : Wk), OkW R S k W → E.byB M' R S k n (W.nm f g) = (E.byB M R S k n W).nm f g
  | 0, W, _ => rfl
  | n + 1, W, ok => by
    have e : E.thr M' R S ((W.nm f g).B (W.nm f g).at_) (W.nm f g).row (W.nm f g).far = (E.thr M R S (W.B W.at_) W.row W.far).nm f g := h.thr hM (ok.s _) (by rw [ok.len]; exact k1) ok.r0 ok.r1
    cases et : E.thr M R S (W.B W.at_) W.row W.far with
    | stay =>
      rw [et] at e
      rw [byB_stay et, byB_stay e]
      rfl
    | fin w s r x m =>
      rw [et] at e
      have z := thr_ok hM (ok.s _) (by rw [ok.len]; exact k1) ok.r0 ok.r1 et
      rcases z.1 with rfl | rfl
      · rw [byB_end et, byB_end (s := s.map f) (r := g r) e]
        show (⟨tEnd, W.st + m, g r, W.at_ * k + x, updB (fun a => (W.B a).map f) W.at_ (s.map f)⟩ : ByR) = ⟨tEnd, W.st + m, g r, W.at_ * k + x, fun a => (updB W.B W.at_ s a).map f⟩
        rw [updB_nm]
      · rw [byB_out et, byB_out (s := s.map f) (r := g r) e]
        have e2 : (W.nm f g).out (s.map f) (g r) x m = (W.out s r x m).nm f g := by
          show (⟨updB (fun a => (W.B a).map f) W.at_ (s.map f), W.at_ + x, g r, decide (-x = 1), W.st + m⟩ : Wk) = ⟨fun a => (updB W.B W.at_ s a).map f, W.at_ + x, g r, decide (-x = 1), W.st + m⟩
          rw [updB_nm]
        rw [e2]
        exact h.byB hM k1 n _ (ok.out hM k1 et)
theorem Nmd.byB0 (h : Nmd M M' R S f g false) (hM : MOk M R S) {k : Nat} (k1 : 1 ≤ k) (n : Nat) : E.byB M' R S k n (W0 k) = (E.byB M R S k n (W0 k)).nm f g := by
  have e : (W0 k).nm f g = W0 k := by
    show (⟨fun _ => (List.replicate k (0 : Int)).map f, 0, g 0, false, 0⟩ : Wk) = ⟨fun _ => List.replicate k 0, 0, 0, false, 0⟩
    rw [List.map_replicate, h.f0, h.g0]
  have S1 : 1 ≤ S := by have := hM.s2; omega
  rw [← h.byB hM k1 n _ (W0_ok hM.r1 S1), e]
/-- the strip, named otherwise -/
def nmS (f : Int → Int) (l : List PI) : List PI := l.map fun q => ⟨q.a, f q.b⟩
theorem Nmd.strip (h : Nmd M M' R S f g false) {k : Nat} {B : Int → List Int} {z : List PI} (hB : ∀ x, 0 ≤ fB k B x ∧ fB k B x < S) (st : IsSt z (fB k B)) : IsSt (nmS f z) (fB k fun a => (B a).map f) := by
  have eB : ∀ x, fB k (fun a => (B a).map f) x = f (fB k B x) := fun x => by
    show (((B (x / (k : Int))).map f)[(x % (k : Int)).toNat]?).getD 0 = f (((B (x / (k : Int)))[(x % (k : Int)).toNat]?).getD 0)
    rw [List.getElem?_map]
    cases (B (x / (k : Int)))[(x % (k : Int)).toNat]? with
    | none => exact h.f0.symm
    | some v => rfl
  refine ⟨?_, fun x s => ?_⟩
  · unfold nmS
    rw [List.pairwise_map]
    exact st.rise
  · rw [eB]
    have hx := hB x
    have S0 : (0 : Int) < S := by omega
    constructor
    · intro m
      obtain ⟨q, hq, e⟩ := List.mem_map.mp m
      obtain ⟨n1, n2⟩ := st.nz hq
      simp only [T2.mk.injEq] at e
      obtain ⟨e1, e2⟩ := e
      subst e1
      rw [n1]
      refine ⟨e2, fun e0 => n2 ?_⟩
      rw [n1] at hx
      exact h.fi _ _ hx.1 hx.2 (Int.le_refl 0) S0 (by rw [e2, e0, h.f0])
    · rintro ⟨e1, e2⟩
      refine List.mem_map.mpr ⟨⟨x, fB k B x⟩, (st.mem _ _).mpr ⟨rfl, fun e0 => e2 ?_⟩, ?_⟩
      · rw [← e1, e0, h.f0]
      · show (⟨x, f (fB k B x)⟩ : PI) = ⟨x, s⟩
        rw [e1]
end
/-! ### an order -/
structure Ord (n : Nat) (r : List Int) : Prop where
  len : r.length = n
  lt : ∀ x ∈ r, 0 ≤ x ∧ x < (n : Int)
  nd : r.Nodup
  z : r[0]? = some 0
def rl (r : List Int) (x : Int) : Int := (r[x.toNat]?).getD 0
section
variable {n : Nat} {r : List Int}
theorem Ord.at (h : Ord n r) {x : Int} (x0 : 0 ≤ x) (x1 : x < n) : r[x.toNat]? = some (rl r x) := by
  have l : x.toNat < r.length := by rw [h.len]; omega
  unfold rl
  rw [List.getElem?_eq_getElem l]; rfl
theorem Ord.fl (h : Ord n r) (x : Int) (x0 : 0 ≤ x) (x1 : x < n) : 0 ≤ rl r x ∧ rl r x < n := h.lt _ (List.mem_of_getElem? (h.at x0 x1))
theorem Ord.fi (h : Ord n r) (x y : Int) (x0 : 0 ≤ x) (x1 : x < n) (y0 : 0 ≤ y) (y1 : y < n) (e : rl r x = rl r y) : x = y := by
  have lx : x.toNat < r.length := by rw [h.len]; omega
  have ly : y.toNat < r.length := by rw [h.len]; omega
  have ex := h.at x0 x1
  have ey := h.at y0 y1
  rw [List.getElem?_eq_getElem lx] at ex
  rw [List.getElem?_eq_getElem ly] at ey
  have e3 : r[x.toNat] = r[y.toNat] := by rw [Option.some.inj ex, Option.some.inj ey, e]
  rcases Nat.lt_trichotomy x.toNat y.toNat with l | l | l
  · exact absurd e3 (List.pairwise_iff_getElem.mp h.nd _ _ lx ly l)
  · omega
  · exact absurd e3.symm (List.pairwise_iff_getElem.mp h.nd _ _ ly lx l)
theorem Ord.f0 (h : Ord n r) : rl r 0 = 0 := by
  unfold rl
  rw [show (0 : Int).toNat = 0 from rfl, h.z]; rfl
end
def sp_L_order : Sp := fun vs H Q _ => ∃ (F : Hp) (p : Addr) (n : Nat) (b : Int), vs = [.ref p, .int n] ∧ Same F H ∧ F p = none ∧ PuAt H p b ∧ b ≤ 800000 ∧ 1 ≤ n ∧ n ≤ 4 ∧
  ∀ (F' H' : Hp) (c : Addr) (r : List Int), Gr (muP p) F H F' H' → PuAt H' p (b + 10) → F' c = some (.lst (r.map V.int)) → Ord n r → Q (.ref c) H'
theorem ok_L_order (t : Tx K mg) : FnOk P w K mg base CX0 3 t.a_L_order t.fd_L_order ["_law_purse_here", "_law_many"] sp_L_order := by
  refine t.F_L_order.ok sc_L_order (fun vs H Q E h => ?_) (fun cdv A outer s H vs Q E hr h => ?_)
  · obtain ⟨F, p, n, b, rfl, _⟩ := h
    rfl
  · obtain ⟨F, p, n, b, rfl, sF, fp, hp, hb, n1, n4, q⟩ := h
    refine ⟨_, (pss_cons (ps_set (i := 2) sc_L_order.nd rfl (by first | exact Or.inl rfl | exact Or.inr rfl) (pe_lst pa_nil))
      (pss_cons (ps_for PassesOwn.never rfl (pi_range2 (by rfl) t.n_range (pa_cons pe_int (pa_cons (pv 1) pa_nil))) (pg_name (i := 3) sc_L_order.nd rfl (by first | exact Or.inl rfl | exact Or.inr rfl)) (pss_one (ps_expr (pe_bm PySem.F.plainAttrs_list PySem.F.slot_list_insert PySem.F.type_list_insert mt_insert (pv 2) (pa_cons (pe_call (ok_L_draw t) (hr.mono (by decide)) (by rfl) t.m_L_draw t.F_L_draw.kp t.b_L_draw .nil pass0 (pa_cons (pv 0) (pa_cons (pe_op op_add (pe_callB (id := "len") call_lenQ (by rfl) t.n_len (by decide +kernel) (pa_cons (pv 2) pa_nil)) pe_int) pa_nil))) (pa_cons (pv 3) pa_nil))))))
      (pss_one (ps_ret (pe_op op_cat (pe_lst (pa_cons pe_int pa_nil)) (pv 2)))))), ?_⟩
    have g0 : Gr (muP p) F H F H := Gr.refl sF
    refine ⟨nil_le, fun D nD => ?_⟩
    have pD := hp.ne nD
    have g1 := g0.own (o := .lst []) nD
    have w1 : Ow H F (upd H D (.lst [])) D (.lst ([].map V.int)) := Ow.mk1 g0 nD
    have hp1 := hp.ln (o := .lst []) nD
    generalize upd H D (.lst []) = H1 at g1 w1 hp1
    refine ⟨_, rfl, 1, n, rfl, ⟨by decide, by decide, by omega, by omega⟩, for_range (lo := 1) (n := ((n : Int) - 1).toNat) (fun i σ G => ∃ (xs : List Int) (b1 : Int) (v3 : Option V), σ = [some (.ref p), some (.int n), some (.ref D), v3] ∧ Gr (muP p) F H F G ∧ PuAt G p b1 ∧ b1 ≤ b + 2 * i ∧ Ow H F G D (.lst (xs.map V.int)) ∧ xs.length = i ∧ xs.Nodup ∧ ∀ x ∈ xs, 1 ≤ x ∧ x < 1 + (i : Int))
      ⟨[], b, none, rfl, g1, hp1, by omega, w1, rfl, List.nodup_nil, fun x z => nomatch z⟩ ?_ ?_⟩
    · rintro i σ G hi ⟨xs, b1, v3, rfl, g, hpG, hb1, w, lx, nd, hx⟩
      have hi : i < n - 1 := by omega
      have fp1 := hp.f fp g
      refine ⟨_, rfl, .inl ⟨rfl, _, SqL.of w.h⟩, _, rfl, _, rfl, D, xs.map V.int, rfl, .inl (SqL.of w.h), _, _, rfl, rfl, ?_⟩
      dsimp only
      rw [List.length_map, lx]
      refine ⟨F, p, (i : Int) + 1, b1, rfl, g.fh, fp1, hpG, by omega, by omega, by omega, fun d G1 d0 d1 g1 hp1 => ?_⟩
      have w1 := w.call g1 (Ne.symm pD)
      refine ⟨_, rfl, D, xs.map V.int, d, _, rfl, rfl, w1.h, by rw [List.length_map]; exact lt_size (by omega), d0, by omega, ?_⟩
      have eL : (xs.map V.int).take d.toNat ++ [V.int (1 + (i : Int))] ++ (xs.map V.int).drop d.toNat = (xs.take d.toNat ++ [1 + (i : Int)] ++ xs.drop d.toNat).map V.int := by
        rw [List.map_append, List.map_append, List.map_take, List.map_drop]; rfl
      rw [eL]
      have pm : (xs.take d.toNat ++ [1 + (i : Int)] ++ xs.drop d.toNat).Perm ((1 + (i : Int)) :: xs) := by
        have a : (xs.take d.toNat ++ [1 + (i : Int)] ++ xs.drop d.toNat).Perm ((1 + (i : Int)) :: (xs.take d.toNat ++ xs.drop d.toNat)) := by
          rw [List.append_assoc]; exact List.perm_middle
        rw [List.take_append_drop] at a; exact a
      refine ⟨_, _, _, rfl, (g.trans g1).set w1.f (.inl w1.n), hp1.off pD, by omega, w1.set, by rw [pm.length_eq, List.length_cons, lx], ?_, fun x m => ?_⟩
      · rw [pm.nodup_iff, List.nodup_cons]
        exact ⟨fun m => by have := hx _ m; omega, nd⟩
      · rcases List.mem_cons.mp (pm.mem_iff.mp m) with rfl | m
        · omega
        · have := hx x m; omega
    · rintro σ G ⟨xs, b1, v3, rfl, g, hpG, hb1, w, lx, nd, hx⟩
      have lx : xs.length = n - 1 := by omega
      refine ⟨one_le, fun l1 n1 => ?_⟩
      have g1 := g.own (o := .lst [.int 0]) n1
      have hp1 := hpG.ln (o := .lst [.int 0]) n1
      have w1 := w.own (u := .lst [.int 0]) n1
      have hl1 : (upd G l1 (.lst [.int 0])) l1 = some (.lst [.int 0]) := upd_same
      generalize upd G l1 (.lst [.int 0]) = G1 at g1 hp1 w1 hl1 ⊢
      refine ⟨_, rfl, l1, D, _, _, rfl, rfl, hl1, w1.h, ?_⟩
      refine ⟨by rw [List.length_map, lx, List.length_singleton]; exact Nat.le_of_lt (lt_size (by omega)), fun c nc => ?_⟩
      refine q _ _ c (0 :: xs) (g1.new nc) ((hp1.ln nc).le (by omega)) upd_same ⟨by rw [List.length_cons, lx]; omega, fun x m => ?_, ?_, rfl⟩
      · rcases List.mem_cons.mp m with rfl | m
        · omega
        · have := hx x m; omega
      · rw [List.nodup_cons]
        exact ⟨fun m => by have := hx 0 m; omega, nd⟩
/-! ### a machine named otherwise -/
section
variable {mu : Addr → Prop} {H00 H0 F G : Hp}
theorem frz_rows : ∀ (Es : List Addr) (F1 : Hp), Es.Nodup → Gr mu H00 H0 F1 G → (∀ E ∈ Es, ∃ xs, Ow H0 F1 G E (.lst xs)) →
    ∃ F2, Same F1 F2 ∧ Gr mu H00 H0 F2 G ∧ (∀ E ∈ Es, ∀ xs, G E = some (.lst xs) → F2 E = some (.lst xs)) ∧ ∀ q o, q ∉ Es → Ow H0 F1 G q o → Ow H0 F2 G q o
  | [], F1, _, g, _ => ⟨F1, Same.refl F1, g, fun _ m => (nomatch m), fun _ _ _ w => w⟩
  | E :: Es, F1, nd, g, h => by
    obtain ⟨n1, n2⟩ := List.nodup_cons.mp nd
    obtain ⟨xs, w⟩ := h E (List.mem_cons_self ..)
    have s1 : Same F1 (upd F1 E (.lst xs)) := sm_new (Same.refl F1) w.f
    obtain ⟨F2, s2, g2, h2, k2⟩ := frz_rows Es (upd F1 E (.lst xs)) n2 (g.frz w.h w.n w.f) fun E' m => by
      obtain ⟨xs', w'⟩ := h E' (List.mem_cons_of_mem _ m)
      exact ⟨xs', w'.frz' (fun e => n1 (e ▸ m))⟩
    refine ⟨F2, fun c o e => s2 c o (s1 c o e), g2, fun E' m xs' e => ?_, fun q o m w' => ?_⟩
    · rcases List.mem_cons.mp m with rfl | m
      · rw [w.h] at e
        cases e
        exact s2 _ _ upd_same
      · exact h2 E' m xs' e
    · exact k2 q o (fun z => m (List.mem_cons_of_mem _ z)) (w'.frz' (fun e => m (e ▸ List.mem_cons_self ..)))
end
/-- the rows as they stand -/
def RwAt (H0 F G : Hp) (E : Addr) (row : List Ent) : Prop := ∃ xs, Ow H0 F G E (.lst xs) ∧ IsAll F xs row
structure Nml (M : Mach) (R S : Nat) (f g : Int → Int) (N : Mach) (r s : Nat) : Prop where
  len : N.length = R
  row : ∀ x ∈ N, x.length = S
  ok : ∀ x ∈ N, ∀ e ∈ x, EOk R S e
  at_ : ∀ a b : Nat, a < R → b < S → (a < r ∨ (a = r ∧ b < s)) → entAt N (g a) (f b) = (entAt M a b).nm f g false
theorem ent_set {N : Mach} {a b : Nat} {row : List Ent} {e : Ent} (h : N[a]? = some row) (lb : b < row.length) (x y : Int) : entAt (N.set a (row.set b e)) x y = if x.toNat = a ∧ y.toNat = b then e else entAt N x y := by
  have la : a < N.length := (List.getElem?_eq_some_iff.mp h).1
  unfold entAt
  by_cases ex : x.toNat = a
  · rw [ex, List.getElem?_set_self la, h]
    by_cases ey : y.toNat = b
    · rw [if_pos ⟨rfl, ey⟩, ey]
      show ((row.set b e)[b]?).getD .emp = e
      rw [List.getElem?_set_self lb]; rfl
    · rw [if_neg (fun z => ey z.2)]
      show ((row.set b e)[y.toNat]?).getD .emp = (row[y.toNat]?).getD .emp
      rw [List.getElem?_set_ne (Ne.symm ey)]
  · rw [if_neg (fun z => ex z.1), List.getElem?_set_ne (Ne.symm ex)]
theorem Nml.put {M N : Mach} {R S r s : Nat} {rr rs : List Int} (hM : MOk M R S) (oR : Ord R rr) (oS : Ord S rs) (hr : r < R) (hs : s < S) (h : Nml M R S (rl rs) (rl rr) N r s) {row : List Ent} (hN : N[(rl rr r).toNat]? = some row) :
    Nml M R S (rl rs) (rl rr) (N.set (rl rr r).toNat (row.set (rl rs s).toNat ((entAt M r s).nm (rl rs) (rl rr) false))) r (s + 1) := by
  have mrow := List.mem_of_getElem? hN
  have lrow := h.row _ mrow
  have ga := oR.fl r (by omega) (by omega)
  have fb := oS.fl s (by omega) (by omega)
  have eo := (ent_of hM (r := (r : Int)) (s := (s : Int)) (by omega) (by omega) (by omega) (by omega)).choose_spec.2.2
  have eo' : EOk R S ((entAt M r s).nm (rl rs) (rl rr) false) := by
    cases e : entAt M r s with
    | emp => exact ⟨fun p w r z => nomatch z⟩
    | go p w t =>
      rw [e] at eo
      obtain ⟨o1, o2, o3⟩ := eo.ok _ _ _ rfl
      refine ⟨fun p' w' t' z => ?_⟩
      cases z
      exact ⟨oS.fl _ o1.1 o1.2, o2, oR.fl _ o3.1 o3.2⟩
  refine ⟨by rw [List.length_set]; exact h.len, fun x m => ?_, fun x m e k => ?_, fun a b la lb z => ?_⟩
  · rcases List.mem_or_eq_of_mem_set m with m | rfl
    · exact h.row x m
    · rw [List.length_set]; exact lrow
  · rcases List.mem_or_eq_of_mem_set m with m | rfl
    · exact h.ok x m e k
    · rcases List.mem_or_eq_of_mem_set k with k | rfl
      · exact h.ok _ mrow e k
      · exact eo'
  · rw [ent_set hN (by omega)]
    have ga' := oR.fl a (by omega) (by omega)
    have fb' := oS.fl b (by omega) (by omega)
    by_cases c : a = r ∧ b = s
    · obtain ⟨rfl, rfl⟩ := c
      rw [if_pos ⟨rfl, rfl⟩]
    · rw [if_neg]
      · exact h.at_ a b la lb (by omega)
      · rintro ⟨z1, z2⟩
        have e1 := oR.fi a r (by omega) (by omega) (by omega) (by omega) (by omega)
        have e2 := oS.fi b s (by omega) (by omega) (by omega) (by omega) (by omega)
        exact c ⟨by omega, by omega⟩
theorem IsAll.set {F : Hp} {xs : List V} {ys : List Ent} (h : IsAll F xs ys) (i : Nat) {x : V} {y : Ent} (z : Is F x y) : IsAll F (xs.set i x) (ys.set i y) := by
  refine ⟨by rw [List.length_set, List.length_set]; exact h.1, fun j u v hu hv => ?_⟩
  rw [List.getElem?_set] at hu hv
  by_cases e : i = j
  · rw [if_pos e] at hu hv
    split at hu
    · split at hv
      · cases hu; cases hv; exact z
      · cases hv
    · cases hu
  · rw [if_neg e] at hu hv
    exact h.2 j u v hu hv
def sp_L_named : Sp := fun vs H Q _ => ∃ (F : Hp) (m : V) (M : Mach) (R S : Nat) (ar as : Addr) (rr rs : List Int), vs = [m, .ref ar, .ref as] ∧ Same F H ∧ Is F m M ∧ MOk M R S ∧ F ar = some (.lst (rr.map V.int)) ∧ F as = some (.lst (rs.map V.int)) ∧ Ord R rr ∧ Ord S rs ∧
  ∀ (F' H' : Hp) (v : V) (N : Mach), Gr mu0 F H F' H' → Is F' v N → Nml M R S (rl rs) (rl rr) N R 0 → Q v H'
theorem ok_L_named (t : Tx K mg) : FnOk P w K mg base CX0 1 t.a_L_named t.fd_L_named ["_law_machine_here", "_law_rows", "_law_signs"] sp_L_named := by
  refine t.F_L_named.ok sc_L_named (fun vs H Q E h => ?_) (fun cdv A outer s H vs Q E hr h => ?_)
  · obtain ⟨F, m, M, R, S, ar, as, rr, rs, rfl, _⟩ := h
    rfl
  · obtain ⟨F, m, M, R, S, ar, as, rr, rs, rfl, sF, hm, hM, har, has, oR, oS, q⟩ := h
    refine ⟨_, (pss_cons (ps_setLc (i := 3) (own := [("_law_row", 4)]) (g := gName 4) (tt := tYes) rfl sc_L_named.nd rfl rfl (sw_true rfl rfl rfl (by decide +kernel)) (pi_list (pv 1)) (blkOk_by (N := N_L_named) (sc := defScope s_L_named) (by decide +kernel)) (fun _ _ _ _ _ => (pg_name (i := 4) sc_L_named.nd rfl (by first | exact Or.inl rfl | exact Or.inr rfl))) (fun _ _ _ _ _ => pts_nil) (fun _ _ _ _ _ => (pe_op op_rep (pe_lst (pa_cons (pe_tup pa_nil) pa_nil)) (pe_callB (id := "len") (crK (K := K) (r := rLenQ) rfl call_lenQ) (by rfl) t.n_len (by decide +kernel) (pa_cons (pv 2) pa_nil)))))
      (pss_cons (ps_for PassesOwn.never rfl (pi_range1 (by rfl) t.n_range (pa_cons (pe_callB (id := "len") call_lenQ (by rfl) t.n_len (by decide +kernel) (pa_cons (pv 1) pa_nil)) pa_nil)) (pg_name (i := 4) sc_L_named.nd rfl (by first | exact Or.inl rfl | exact Or.inr rfl)) (pss_one (ps_for PassesOwn.never rfl (pi_range1 (by rfl) t.n_range (pa_cons (pe_callB (id := "len") call_lenQ (by rfl) t.n_len (by decide +kernel) (pa_cons (pv 2) pa_nil)) pa_nil)) (pg_name (i := 5) sc_L_named.nd rfl (by first | exact Or.inl rfl | exact Or.inr rfl)) (pss_cons (ps_set (i := 6) sc_L_named.nd rfl (by first | exact Or.inl rfl | exact Or.inr rfl) (pe_ix ix_list (pe_ix ix_list (pv 0) (pv 4) (fun _ _ => rfl)) (pv 5) (fun _ _ => rfl)))
      (pss_cons (ps_if (pt_cmpR (op_neD hr.units) (pv 6) (pe_tup pa_nil) (nomark _)) (pss_one (ps_set (i := 6) sc_L_named.nd rfl (by first | exact Or.inl rfl | exact Or.inr rfl) (pe_tup (pa_cons (pe_ix ix_list (pv 2) (pe_ix ix_tup (pv 6) pe_int (fun _ _ => rfl)) (fun _ _ => rfl)) (pa_cons (pe_ix ix_tup (pv 6) pe_int (fun _ _ => rfl)) (pa_cons (pe_ix ix_list (pv 1) (pe_ix ix_tup (pv 6) pe_int (fun _ _ => rfl)) (fun _ _ => rfl)) pa_nil)))))) pss_nil)
      (pss_one (ps_asg (pv 6) (pg_sub (pe_ix ix_list (pv 3) (pe_ix ix_list (pv 1) (pv 4) (fun _ _ => rfl)) (fun _ _ => rfl)) (pe_ix ix_list (pv 2) (pv 5) (fun _ _ => rfl)) set_list))))))))
      (pss_one (ps_ret (pv 3))))), ?_⟩
    have g0 : Gr mu0 F H F H := Gr.refl sF
    have r4 := hM.r4
    have s4 := hM.s4
    have R1 := hM.r1
    have S2 := hM.s2
    have flat : ∀ (v : V) (n : Nat), (List.replicate n [v]).flatten = List.replicate n v := fun v n => by
      induction n with
      | zero => rfl
      | succ n ih => rw [List.replicate_succ, List.flatten_cons, ih]; rfl
    have lr : rr.length = R := oR.len
    have ls : rs.length = S := oS.len
    -- found = [[()] * len(signs) for row in rows]
    refine ⟨_, rfl, ar, rfl, ⟨_, SqL.of (sF _ _ har)⟩, fun D nD => lc_list (K := K) (a := ar) (xs := rr.map V.int) (fun i G => ∃ (F1 : Hp) (Es : List Addr), Gr mu0 F H F1 G ∧ Ow H F1 G D (.lst (Es.map V.ref)) ∧ Es.length = i ∧ D ∉ Es ∧ Es.Nodup ∧ ∀ E ∈ Es, RwAt H F1 G E (List.replicate S Ent.emp))
      ⟨F, [], g0.own nD, Ow.mk1 g0 nD, rfl, (fun z => nomatch z), List.nodup_nil, (fun E z => nomatch z)⟩ (fun i G _ ⟨F1, Es, g, _⟩ => SqL.of (g.fh _ _ (g.ff _ _ har))) ?_ ?_⟩
    · rintro i x G hi ⟨F1, Es, g, w, lE, dE, nd, hE⟩
      rw [List.getElem?_map] at hi
      obtain ⟨z, hz, rfl⟩ := Option.map_eq_some_iff.mp hi
      have il : i < rr.length := (List.getElem?_eq_some_iff.mp hz).1
      refine ⟨rfl, yes ⟨nil_le, fun e ne => ⟨one_le, fun l1 n1 => ?_⟩⟩⟩
      have g1 := g.new (o := .tup []) ne
      have w1 := w.new (u := .tup []) ne
      have he : (upd F1 e (.tup [])) e = some (.tup []) := upd_same
      have s1 : Same F1 (upd F1 e (.tup [])) := sm_new (Same.refl F1) (g.fh.free ne)
      have hE1 : ∀ E ∈ Es, RwAt H (upd F1 e (.tup [])) (upd G e (.tup [])) E (List.replicate S Ent.emp) := fun E m => by
        obtain ⟨xs, w', al⟩ := hE E m
        exact ⟨xs, w'.new ne, al.up s1⟩
      generalize upd F1 e (.tup []) = F2 at g1 w1 he hE1
      generalize upd G e (.tup []) = G1 at g1 w1 hE1 n1 ⊢
      have g2 := g1.own (o := .lst [.ref e]) n1
      have w2 := w1.own (u := .lst [.ref e]) n1
      have hl1 : (upd G1 l1 (.lst [.ref e])) l1 = some (.lst [.ref e]) := upd_same
      have hE2 : ∀ E ∈ Es, RwAt H F2 (upd G1 l1 (.lst [.ref e])) E (List.replicate S Ent.emp) := fun E m => by
        obtain ⟨xs, w', al⟩ := hE1 E m
        exact ⟨xs, w'.own n1, al⟩
      generalize upd G1 l1 (.lst [.ref e]) = G2 at g2 w2 hl1 hE2 ⊢
      refine ⟨_, rfl, as, rs.map V.int, rfl, .inl (SqL.of (g2.fh _ _ (g2.ff _ _ has))), l1, _, _, rfl, rfl, hl1, ?_⟩
      rw [List.length_map, ls]
      refine ⟨by omega, by omega, by rw [Int.toNat_natCast, List.length_singleton]; exact Nat.le_of_lt (lt_size (by omega)), fun E nE => ?_⟩
      rw [Int.toNat_natCast, flat]
      have g3 := g2.own (o := .lst (List.replicate S (.ref e))) nE
      have w3 := w2.own (u := .lst (List.replicate S (.ref e))) nE
      have wE : Ow H F2 (upd G2 E (.lst (List.replicate S (.ref e)))) E (.lst (List.replicate S (.ref e))) := Ow.mk1 g2 nE
      have DE := w2.ne nE
      refine ⟨Es.map V.ref, w3.h, by rw [List.length_map]; exact lt_size (by omega), F2, Es ++ [E], g3.set w3.f (.inl w3.n), by rw [List.map_append]; exact w3.set, by rw [List.length_append, lE]; rfl, ?_, ?_, fun E' m => ?_⟩
      · rw [List.mem_append, List.mem_singleton]
        exact fun z => z.elim dE DE
      · rw [List.nodup_append]
        refine ⟨nd, List.nodup_cons.mpr ⟨(fun z => nomatch z), List.nodup_nil⟩, fun a ma b mb e => ?_⟩
        rw [List.mem_singleton.mp mb] at e
        subst e
        obtain ⟨xs, w', _⟩ := hE2 a ma
        exact w'.ne nE rfl
      · rcases List.mem_append.mp m with m | m
        · obtain ⟨xs, w', al⟩ := hE2 E' m
          refine ⟨xs, (w'.own nE).other (fun e => dE (e ▸ m)), al⟩
        · rw [List.mem_singleton.mp m]
          refine ⟨_, wE.other (Ne.symm DE), by rw [List.length_replicate, List.length_replicate], fun i x y hx hy => ?_⟩
          rw [(List.mem_replicate.mp (List.mem_of_getElem? hx)).2, (List.mem_replicate.mp (List.mem_of_getElem? hy)).2]
          exact ⟨e, rfl, he⟩
    · rintro G ⟨F1, Es, g, w, lE, dE, nd, hE⟩
      rw [List.length_map, lr] at lE
      -- the rows as they stand
      have hN0 : ∀ (i : Nat) (E : Addr), Es[i]? = some E → ∃ row, (List.replicate R (List.replicate S Ent.emp))[i]? = some row ∧ RwAt H F1 G E row := fun i E e => by
        have il : i < Es.length := (List.getElem?_eq_some_iff.mp e).1
        exact ⟨_, by rw [List.getElem?_replicate, if_pos (by omega)], hE E (List.mem_of_getElem? e)⟩
      have nm0 : Nml M R S (rl rs) (rl rr) (List.replicate R (List.replicate S Ent.emp)) 0 0 :=
        ⟨List.length_replicate, fun x m => by rw [(List.mem_replicate.mp m).2]; exact List.length_replicate, fun x m e k => by rw [(List.mem_replicate.mp m).2] at k; rw [(List.mem_replicate.mp k).2]; exact ⟨fun p w r e => nomatch e⟩, fun a b _ _ z => by omega⟩
      clear hE
      obtain ⟨am, rws, rfl, ham, hrs⟩ := id hm
      have lrs : rws.length = R := hrs.1.trans hM.len
      refine ⟨_, rfl, ar, rr.map V.int, rfl, .inl (SqL.of (g.fh _ _ (g.ff _ _ har))), ?_⟩
      rw [List.length_map, lr]
      refine ⟨R, rfl, by omega, by omega, for_range (lo := 0) (n := ((R : Int)).toNat) (fun i σ T => ∃ (F2 : Hp) (N : Mach) (v4 v5 v6 : Option V), σ = [some (.ref am), some (.ref ar), some (.ref as), some (.ref D), v4, v5, v6] ∧ Gr mu0 F H F2 T ∧ Ow H F2 T D (.lst (Es.map V.ref)) ∧ (∀ (i : Nat) (E : Addr), Es[i]? = some E → ∃ row, N[i]? = some row ∧ RwAt H F2 T E row) ∧ Nml M R S (rl rs) (rl rr) N i 0)
        ⟨F1, _, none, none, none, rfl, g, w, hN0, nm0⟩ ?_ ?_⟩
      · rintro i σ T hi ⟨F2, N, v4, v5, v6, rfl, g2, w2, hN, nm⟩
        have hi : i < R := by rw [Int.toNat_natCast] at hi; exact hi
        have ei : ((0 : Int) + (i : Int)) = (i : Int) := by omega
        rw [ei]
        refine ⟨_, rfl, as, rs.map V.int, rfl, .inl (SqL.of (g2.fh _ _ (g2.ff _ _ has))), ?_⟩
        rw [List.length_map, ls]
        refine ⟨S, rfl, by omega, by omega, for_range (lo := 0) (n := ((S : Int)).toNat) (fun j σ U => ∃ (F3 : Hp) (N : Mach) (v5 v6 : Option V), σ = [some (.ref am), some (.ref ar), some (.ref as), some (.ref D), some (.int i), v5, v6] ∧ Gr mu0 F H F3 U ∧ Ow H F3 U D (.lst (Es.map V.ref)) ∧ (∀ (i : Nat) (E : Addr), Es[i]? = some E → ∃ row, N[i]? = some row ∧ RwAt H F3 U E row) ∧ Nml M R S (rl rs) (rl rr) N i j)
          ⟨F2, N, v5, v6, rfl, g2, w2, hN, nm⟩ ?_ ?_⟩
        · rintro j σ U hj ⟨F3, N, v5, v6, rfl, g3, w3, hN, nm⟩
          have hj : j < S := by rw [Int.toNat_natCast] at hj; exact hj
          have ej : ((0 : Int) + (j : Int)) = (j : Int) := by omega
          rw [ej]
          have hm3 := hm.up g3.ff
          obtain ⟨row0, eM, eR, eo⟩ := ent_of hM (r := (i : Int)) (s := (j : Int)) (by omega) (by omega) (by omega) (by omega)
          rw [Int.toNat_natCast] at eM eR
          have il : i < rws.length := by omega
          obtain ⟨row1, hM1, a1, es1, er1, ha1, hes1⟩ := hrs.get' (List.getElem?_eq_getElem il)
          have e10 : row1 = row0 := Option.some.inj (hM1.symm.trans eM)
          subst e10
          have jl : j < es1.length := by rw [hes1.1, hM.row _ (List.mem_of_getElem? eM)]; omega
          obtain ⟨d, hd, ie⟩ := hes1.get' (List.getElem?_eq_getElem jl)
          have ed : d = entAt M i j := by
            exact Option.some.inj (hd.symm.trans eR)
          subst ed
          have hx1 : rws[i]? = some (.ref a1) := (List.getElem?_eq_getElem il).trans (congrArg some er1)
          have ga := oR.fl i (by omega) (by omega)
          have fb := oS.fl j (by omega) (by omega)
          have mp : ∀ {l : List Int} {x : Int} {n : Nat}, Ord n l → 0 ≤ x → x < n → atI (l.map V.int) x = some (.int (rl l x)) := fun {l x n} o x0 x1 => by
            have e := atI_nat (xs := l.map V.int) (j := x.toNat) (v := .int (rl l x)) (by rw [List.getElem?_map, o.at x0 x1]; rfl)
            rw [Int.toNat_of_nonneg x0] at e
            exact e
          have fin : ∀ (F5 U5 : Hp) (v : V), Gr mu0 F H F5 U5 → Ow H F5 U5 D (.lst (Es.map V.ref)) → (∀ (i : Nat) (E : Addr), Es[i]? = some E → ∃ row, N[i]? = some row ∧ RwAt H F5 U5 E row) → Is F5 v ((entAt M i j).nm (rl rs) (rl rr) false) →
              ∃ (E0 : Addr) (xs : List V), atI (Es.map V.ref) (rl rr i) = some (.ref E0) ∧ U5 E0 = some (.lst xs) ∧ ixN xs.length (rl rs j) = some (rl rs j).toNat ∧
                ∃ N', Gr mu0 F H F5 (upd U5 E0 (.lst (xs.set (rl rs j).toNat v))) ∧ Ow H F5 (upd U5 E0 (.lst (xs.set (rl rs j).toNat v))) D (.lst (Es.map V.ref)) ∧ (∀ (i : Nat) (E : Addr), Es[i]? = some E → ∃ row, N'[i]? = some row ∧ RwAt H F5 (upd U5 E0 (.lst (xs.set (rl rs j).toNat v))) E row) ∧ Nml M R S (rl rs) (rl rr) N' i (j + 1) := by
            intro F5 U5 v g5 w5 hN5 iv
            have al : (rl rr i).toNat < Es.length := by omega
            have eE : Es[(rl rr i).toNat]? = some Es[(rl rr i).toNat] := List.getElem?_eq_getElem al
            generalize Es[(rl rr i).toNat] = E0 at eE
            obtain ⟨row, hrow, xs, w0, al0⟩ := hN5 _ _ eE
            have lrow := nm.row _ (List.mem_of_getElem? hrow)
            have lxs : xs.length = S := al0.1.trans lrow
            have DE : D ≠ E0 := fun e => dE (e ▸ List.mem_of_getElem? eE)
            refine ⟨E0, xs, ?_, w0.h, ?_, _, g5.set w0.f (.inl w0.n), w5.other DE, fun i' E' e' => ?_, nm.put hM oR oS hi hj hrow⟩
            · have e := atI_nat (xs := Es.map V.ref) (j := (rl rr i).toNat) (v := .ref E0) (by rw [List.getElem?_map, eE]; rfl)
              rw [Int.toNat_of_nonneg ga.1] at e
              exact e
            · exact ixN_of fb.1 (by omega)
            · by_cases c : i' = (rl rr i).toNat
              · subst c
                cases eE.symm.trans e'
                exact ⟨_, List.getElem?_set_self (by rw [nm.len]; omega), _, w0.set, al0.set _ iv⟩
              · obtain ⟨row', h1, xs', w', al'⟩ := hN5 _ _ e'
                refine ⟨row', by rw [List.getElem?_set_ne (Ne.symm c)]; exact h1, xs', w'.other (fun e => ?_), al'⟩
                subst e
                obtain ⟨l1, q1⟩ := List.getElem?_eq_some_iff.mp eE
                obtain ⟨l2, q2⟩ := List.getElem?_eq_some_iff.mp e'
                rcases Nat.lt_trichotomy i' (rl rr i).toNat with l | l | l
                · exact List.pairwise_iff_getElem.mp nd _ _ l2 l1 l (q2.trans q1.symm)
                · exact c l
                · exact List.pairwise_iff_getElem.mp nd _ _ l1 l2 l (q1.trans q2.symm)
          refine ⟨_, rfl, _, rfl, am, rws, _, _, rfl, rfl, SqL.of (g3.fh _ _ (g3.ff _ _ ham)), atI_nat (j := i) hx1, _, rfl, a1, es1, _, _, rfl, rfl, SqL.of (g3.fh _ _ (g3.ff _ _ ha1)), atI_nat (j := j) (List.getElem?_eq_getElem jl), ?_⟩
          have ie3 := Is.up ie g3.ff
          generalize es1[j] = ve at ie3
          refine ⟨_, rfl, nil_le, fun e0 ne0 => ?_⟩
          have g4 := g3.own (o := .tup []) ne0
          have w4 := w3.own (u := .tup []) ne0
          have hN4 : ∀ (i : Nat) (E : Addr), Es[i]? = some E → ∃ row, N[i]? = some row ∧ RwAt H F3 (upd U e0 (.tup [])) E row := fun i E e => by
            obtain ⟨row, h1, xs, w', al'⟩ := hN i E e
            exact ⟨row, h1, xs, w'.own ne0, al'⟩
          refine ne_dat (a := entAt M i j) (b := Ent.emp) (ie3.up g4.fh) ⟨e0, rfl, upd_same⟩ ⟨_, rfl, ?_⟩
          generalize upd U e0 (.tup []) = U1 at g4 w4 hN4 ⊢
          cases ee : entAt M i j with
          | emp =>
            rw [ee] at ie3 fin
            obtain ⟨E0, xs, q1, q2, q3, N', q4, q5, q6, q7⟩ := fin F3 U1 ve g4 w4 hN4 ie3
            refine ifF (by rw [decide_eq_true rfl]; rfl) ?_
            refine ⟨_, rfl, _, rfl, _, rfl, _, rfl, ar, _, _, _, rfl, rfl, SqL.of (g4.fh _ _ (g4.ff _ _ har)), mp oR (by omega) (by omega), D, _, _, _, rfl, rfl, SqL.of w4.h, q1, _, rfl, _, rfl, as, _, _, _, rfl, rfl, SqL.of (g4.fh _ _ (g4.ff _ _ has)), mp oS (by omega) (by omega), E0, xs, _, _, rfl, rfl, q2, q3, ?_⟩
            exact ⟨F3, N', _, _, rfl, q4, q5, q6, q7⟩
          | go pu wa to =>
            rw [ee] at ie3 fin eo
            obtain ⟨o1, o2, o3⟩ := eo.ok _ _ _ rfl
            obtain ⟨ae, rfl, hae⟩ := ie3
            have h6 := SqT.of (K := K) (g4.fh _ _ hae)
            refine ifT (by rw [decide_eq_false (fun z => nomatch z)]; rfl) ?_
            refine ⟨_, rfl, _, rfl, ae, _, _, _, rfl, rfl, h6, atI_nat (j := 0) rfl, as, _, _, _, rfl, rfl, SqL.of (g4.fh _ _ (g4.ff _ _ has)), mp oS o1.1 o1.2, _, rfl, ae, _, _, _, rfl, rfl, h6, atI_nat (j := 1) rfl, _, rfl, _, rfl, ae, _, _, _, rfl, rfl, h6, atI_nat (j := 2) rfl, ar, _, _, _, rfl, rfl, SqL.of (g4.fh _ _ (g4.ff _ _ har)), mp oR o3.1 o3.2, three_le, fun u nu => ?_⟩
            have g5 := g4.new (o := .tup [.int (rl rs pu), .int wa, .int (rl rr to)]) nu
            have w5 := w4.new (u := .tup [.int (rl rs pu), .int wa, .int (rl rr to)]) nu
            have s5 : Same F3 (upd F3 u (.tup [.int (rl rs pu), .int wa, .int (rl rr to)])) := sm_new (Same.refl F3) (g4.fh.free nu)
            have hN5 : ∀ (i : Nat) (E : Addr), Es[i]? = some E → ∃ row, N[i]? = some row ∧ RwAt H (upd F3 u (.tup [.int (rl rs pu), .int wa, .int (rl rr to)])) (upd U1 u (.tup [.int (rl rs pu), .int wa, .int (rl rr to)])) E row := fun i E e => by
              obtain ⟨row, h1, xs, w', al'⟩ := hN4 i E e
              exact ⟨row, h1, xs, w'.new nu, al'.up s5⟩
            obtain ⟨E0, xs, q1, q2, q3, N', q4, q5, q6, q7⟩ := fin _ _ (.ref u) g5 w5 hN5 ⟨u, rfl, upd_same⟩
            refine ⟨_, rfl, _, rfl, _, rfl, _, rfl, ar, _, _, _, rfl, rfl, SqL.of (g5.fh _ _ (g5.ff _ _ har)), mp oR (by omega) (by omega), D, _, _, _, rfl, rfl, SqL.of w5.h, q1, _, rfl, _, rfl, as, _, _, _, rfl, rfl, SqL.of (g5.fh _ _ (g5.ff _ _ has)), mp oS (by omega) (by omega), E0, xs, _, _, rfl, rfl, q2, q3, ?_⟩
            exact ⟨_, N', _, _, rfl, q4, q5, q6, q7⟩
        · rintro σ U ⟨F3, N, v5, v6, rfl, g3, w3, hN, nm⟩
          refine ⟨F3, N, _, _, _, rfl, g3, w3, hN, nm.len, nm.row, nm.ok, fun a b la lb z => nm.at_ a b la lb ?_⟩
          rw [Int.toNat_natCast]; omega
      · rintro σ T ⟨F2, N, v4, v5, v6, rfl, g2, w2, hN, nm⟩
        rw [Int.toNat_natCast] at nm
        obtain ⟨F3, s3, g3, h3, k3⟩ := frz_rows Es F2 nd g2 fun E m => by
          obtain ⟨i, hi⟩ := List.mem_iff_getElem?.mp m
          obtain ⟨row, _, xs, w', _⟩ := hN i E hi
          exact ⟨xs, w'⟩
        have w3 := k3 D _ dE w2
        have g4 := g3.frz w3.h w3.n w3.f
        have s4 : Same F3 (upd F3 D (.lst (Es.map V.ref))) := sm_new (Same.refl F3) w3.f
        refine ⟨_, rfl, ?_⟩
        refine q _ _ (.ref D) N g4 ⟨D, _, rfl, upd_same, by rw [List.length_map, nm.len, lE], fun i x y hx hy => ?_⟩ nm
        rw [List.getElem?_map] at hx
        obtain ⟨E, hE, rfl⟩ := Option.map_eq_some_iff.mp hx
        obtain ⟨row, h1, xs, w', al'⟩ := hN i E hE
        cases h1.symm.trans hy
        exact ⟨E, xs, rfl, s4 _ _ (h3 E (List.mem_of_getElem? hE) xs w'.h), (al'.up s3).up s4⟩
/-! ### runs named otherwise -/
def Rs.nm (f : Int → Int) (tn : Bool) (x : Rs) : Rs := if tn then ⟨(nmL f x.c).reverse, f x.b, (nmL f x.a).reverse⟩ else ⟨nmL f x.a, f x.b, nmL f x.c⟩
structure OkR2 (S : Nat) (x : Rs) : Prop where
  a : OkS S x.a
  b0 : 0 ≤ x.b
  b1 : x.b < S
  c : OkS S x.c
  la : x.a.length ≤ 2000
  lc : x.c.length ≤ 2000
def sp_L_runs_named : Sp := fun vs H Q _ => ∃ (F : Hp) (v : V) (x : Rs) (S : Nat) (as : Addr) (rs : List Int) (tn : Bool), vs = [v, .ref as, .bl tn] ∧ Same F H ∧ Is F v x ∧ OkR2 S x ∧ F as = some (.lst (rs.map V.int)) ∧ Ord S rs ∧
  ∀ (F' H' : Hp) (u : V), Gr mu0 F H F' H' → Is F' u (x.nm (rl rs) tn) → Q u H'
theorem ok_L_runs_named (t : Tx K mg) : FnOk P w K mg base CX0 1 t.a_L_runs_named t.fd_L_runs_named ["_law_runs_here", "_law_signs", "_law_turned_here"] sp_L_runs_named := by
  refine t.F_L_runs_named.ok sc_L_runs_named (fun vs H Q E h => ?_) (fun cdv A outer s H vs Q E hr h => ?_)
  · obtain ⟨F, v, x, S, as, rs, tn, rfl, _⟩ := h
    rfl
  · obtain ⟨F, v, x, S, as, rs, tn, rfl, sF, hv, ok, has, oS, q⟩ := h
    refine ⟨_, (pss_cons (ps_setLc (i := 3) (own := [("_law_k", 4), ("_law_many", 5)]) (tt := tYes) rfl sc_L_runs_named.nd rfl rfl (sw_true rfl rfl rfl (by decide +kernel)) (pi_list (pe_ix ix_tup (pv 0) pe_int (fun _ _ => rfl))) (blkOk_by (N := N_L_runs_named) (sc := defScope s_L_runs_named) (by decide +kernel)) (fun _ _ _ _ _ => (pg_tupK (K := K) (n := 2) rfl rfl (pgs_cons (pg_name (i := 4) sc_L_runs_named.nd rfl (by first | exact Or.inl rfl | exact Or.inr rfl)) (pgs_cons (pg_name (i := 5) sc_L_runs_named.nd rfl (by first | exact Or.inl rfl | exact Or.inr rfl)) pgs_nil)))) (fun _ _ _ _ _ => pts_nil) (fun _ _ _ _ _ => (pe_tup (pa_cons (pe_ix (ixK (K := K) (r := rIxL) rfl ix_list) (pv 1) (pv 4) (fun _ _ => rfl)) (pa_cons (pv 5) pa_nil)))))
      (pss_cons (ps_setLc (i := 6) (own := [("_law_k", 4), ("_law_many", 5)]) (tt := tYes) rfl sc_L_runs_named.nd rfl rfl (sw_true rfl rfl rfl (by decide +kernel)) (pi_list (pe_ix ix_tup (pv 0) pe_int (fun _ _ => rfl))) (blkOk_by (N := N_L_runs_named) (sc := defScope s_L_runs_named) (by decide +kernel)) (fun _ _ _ _ _ => (pg_tupK (K := K) (n := 2) rfl rfl (pgs_cons (pg_name (i := 4) sc_L_runs_named.nd rfl (by first | exact Or.inl rfl | exact Or.inr rfl)) (pgs_cons (pg_name (i := 5) sc_L_runs_named.nd rfl (by first | exact Or.inl rfl | exact Or.inr rfl)) pgs_nil)))) (fun _ _ _ _ _ => pts_nil) (fun _ _ _ _ _ => (pe_tup (pa_cons (pe_ix (ixK (K := K) (r := rIxL) rfl ix_list) (pv 1) (pv 4) (fun _ _ => rfl)) (pa_cons (pv 5) pa_nil)))))
      (pss_cons (ps_if (pt_val (pv 2)) (pss_one (ps_ret (pe_tup (pa_cons (pe_revL (pv 6)) (pa_cons (pe_ix ix_list (pv 1) (pe_ix ix_tup (pv 0) pe_int (fun _ _ => rfl)) (fun _ _ => rfl)) (pa_cons (pe_revL (pv 3)) pa_nil)))))) pss_nil)
      (pss_one (ps_ret (pe_tup (pa_cons (pv 3) (pa_cons (pe_ix ix_list (pv 1) (pe_ix ix_tup (pv 0) pe_int (fun _ _ => rfl)) (fun _ _ => rfl)) (pa_cons (pv 6) pa_nil))))))))), ?_⟩
    have g0 : Gr mu0 F H F H := Gr.refl sF
    obtain ⟨p, x1, x2, x3, rfl, hp, ⟨a, xs, rfl, ha, hxs⟩, e2, ⟨c, zs, rfl, hc, hzs⟩⟩ := hv
    have e2 : x2 = .int x.b := e2
    subst e2
    have mp : ∀ {x : Int}, 0 ≤ x → x < S → atI (rs.map V.int) x = some (.int (rl rs x)) := fun {x} x0 x1 => by
      have e := atI_nat (xs := rs.map V.int) (j := x.toNat) (v := .int (rl rs x)) (by rw [List.getElem?_map, oS.at x0 x1]; rfl)
      rw [Int.toNat_of_nonneg x0] at e
      exact e
    refine ⟨_, rfl, p, _, _, _, rfl, rfl, SqT.of (sF _ _ hp), atI_nat (j := 0) rfl, a, rfl, ⟨_, SqL.of (sF _ _ ha)⟩, fun D nD => lc_list (K := K) (a := a) (xs := xs) (fun i G => ∃ (F1 : Hp) (ys : List V), Gr mu0 F H F1 G ∧ Ow H F1 G D (.lst ys) ∧ IsAll F1 ys (nmL (rl rs) (x.a.take i)))
      ⟨F, [], g0.own nD, Ow.mk1 g0 nD, All2.nil⟩ (fun i G _ ⟨F1, ys, g, _⟩ => SqL.of (g.fh _ _ (g.ff _ _ ha))) ?_ ?_⟩
    · rintro i y G hi ⟨F1, ys, g, w, al⟩
      obtain ⟨d, hd, p2, y1, y2, rfl, hp2, f1, f2⟩ := hxs.get' hi
      have f1 : y1 = .int d.a := f1
      have f2 : y2 = .int d.b := f2
      subst f1
      subst f2
      have okd := (ok.a d (List.mem_of_getElem? hd)).1
      have la := ok.la
      have il : i < x.a.length := (List.getElem?_eq_some_iff.mp hd).1
      have ly : ys.length = i := by rw [al.1]; unfold nmL; rw [List.length_map, List.length_take]; omega
      refine ⟨p2, _, rfl, SqT.of (g.fh _ _ (g.ff _ _ hp2)), rfl, _, _, rfl, _, _, rfl, rfl, rfl, yes ⟨_, rfl, _, rfl, as, _, _, _, rfl, rfl, SqL.of (g.fh _ _ (g.ff _ _ has)), mp okd.1 okd.2, _, rfl, two_le, fun u nu => ?_⟩⟩
      have g2 := g.new (o := .tup [.int (rl rs d.a), .int d.b]) nu
      have w2 := w.new (u := .tup [.int (rl rs d.a), .int d.b]) nu
      have s2 : Same F1 (upd F1 u (.tup [.int (rl rs d.a), .int d.b])) := sm_new (Same.refl F1) (g.fh.free nu)
      refine ⟨ys, w2.h, lt_size (by omega), _, _, g2.set w2.f (.inl w2.n), w2.set, ?_⟩
      have tk : nmL (rl rs) (x.a.take (i + 1)) = nmL (rl rs) (x.a.take i) ++ [⟨rl rs d.a, d.b⟩] := map_take_succ hd
      rw [tk]
      exact (IsAll.up al s2).app (All2.one ⟨u, _, _, rfl, upd_same, rfl, rfl⟩)
    · rintro G ⟨F1, ys, g, w, al⟩
      rw [hxs.1, List.take_length] at al
      have g1 := g.frz w.h w.n w.f
      have s1 : Same F1 (upd F1 D (.lst ys)) := sm_new (Same.refl F1) w.f
      have hD : (upd F1 D (.lst ys)) D = some (.lst ys) := upd_same
      have al1 := IsAll.up al s1
      generalize upd F1 D (.lst ys) = F2 at g1 hD al1
      clear g w al s1
      -- the other side
      refine ⟨_, rfl, p, _, _, _, rfl, rfl, SqT.of (g1.fh _ _ (g1.ff _ _ hp)), atI_nat (j := 2) rfl, c, rfl, ⟨_, SqL.of (g1.fh _ _ (g1.ff _ _ hc))⟩, fun D2 nD2 => lc_list (K := K) (a := c) (xs := zs) (fun i G2 => ∃ (F1 : Hp) (ys2 : List V), Gr mu0 F2 G F1 G2 ∧ Ow G F1 G2 D2 (.lst ys2) ∧ IsAll F1 ys2 (nmL (rl rs) (x.c.take i)))
        ⟨F2, [], (Gr.refl g1.fh).own nD2, Ow.mk1 (Gr.refl (mu := mu0) g1.fh) nD2, All2.nil⟩ (fun i G _ ⟨F1, ys, g, _⟩ => SqL.of (g.fh _ _ (g.ff _ _ (g1.ff _ _ hc)))) ?_ ?_⟩
      · rintro i y G2 hi ⟨F1, ys2, g, w, al⟩
        obtain ⟨d, hd, p2, y1, y2, rfl, hp2, f1, f2⟩ := hzs.get' hi
        have f1 : y1 = .int d.a := f1
        have f2 : y2 = .int d.b := f2
        subst f1
        subst f2
        have okd := (ok.c d (List.mem_of_getElem? hd)).1
        have la := ok.lc
        have il : i < x.c.length := (List.getElem?_eq_some_iff.mp hd).1
        have ly : ys2.length = i := by rw [al.1]; unfold nmL; rw [List.length_map, List.length_take]; omega
        refine ⟨p2, _, rfl, SqT.of (g.fh _ _ (g.ff _ _ (g1.ff _ _ hp2))), rfl, _, _, rfl, _, _, rfl, rfl, rfl, yes ⟨_, rfl, _, rfl, as, _, _, _, rfl, rfl, SqL.of (g.fh _ _ (g.ff _ _ (g1.ff _ _ has))), mp okd.1 okd.2, _, rfl, two_le, fun u nu => ?_⟩⟩
        have g2 := g.new (o := .tup [.int (rl rs d.a), .int d.b]) nu
        have w2 := w.new (u := .tup [.int (rl rs d.a), .int d.b]) nu
        have s2 : Same F1 (upd F1 u (.tup [.int (rl rs d.a), .int d.b])) := sm_new (Same.refl F1) (g.fh.free nu)
        refine ⟨ys2, w2.h, lt_size (by omega), _, _, g2.set w2.f (.inl w2.n), w2.set, ?_⟩
        have tk : nmL (rl rs) (x.c.take (i + 1)) = nmL (rl rs) (x.c.take i) ++ [⟨rl rs d.a, d.b⟩] := map_take_succ hd
        rw [tk]
        exact (IsAll.up al s2).app (All2.one ⟨u, _, _, rfl, upd_same, rfl, rfl⟩)
      · rintro G2 ⟨F1, ys2, g, w, al⟩
        rw [hzs.1, List.take_length] at al
        have g2 := g1.trans (g.frz w.h w.n w.f)
        have s2 : Same F1 (upd F1 D2 (.lst ys2)) := sm_new (Same.refl F1) w.f
        have sF2 : Same F2 (upd F1 D2 (.lst ys2)) := fun z o e => s2 z o (g.ff z o e)
        have hD2 : (upd F1 D2 (.lst ys2)) D2 = some (.lst ys2) := upd_same
        have al2 := IsAll.up al s2
        have al1' := IsAll.up al1 sF2
        have hD' := sF2 _ _ hD
        generalize upd F1 D2 (.lst ys2) = F3 at g2 hD2 al2 al1' hD' sF2
        cases tn with
        | true =>
          refine ⟨_, rfl, _, rfl, ifT rfl ?_⟩
          refine ⟨_, rfl, D2, ys2, rfl, SqL.of (g2.fh _ _ hD2), fun e ne => ⟨_, rfl, _, rfl, p, _, _, _, rfl, rfl, SqT.of (ln ne (g2.fh _ _ (g2.ff _ _ hp))), atI_nat (j := 1) rfl, as, _, _, _, rfl, rfl, SqL.of (ln ne (g2.fh _ _ (g2.ff _ _ has))), mp ok.b0 ok.b1, _, rfl, D, ys, rfl, SqL.of (ln ne (g2.fh _ _ hD')), fun e2 ne2 => ⟨three_le, fun u nu => ?_⟩⟩⟩
          have g3 := g2.new (o := .lst ys2.reverse) ne
          have s3 : Same F3 (upd F3 e (.lst ys2.reverse)) := sm_new (Same.refl F3) (g2.fh.free ne)
          have he : (upd F3 e (.lst ys2.reverse)) e = some (.lst ys2.reverse) := upd_same
          have a3 := (IsAll.up al2 s3).rev
          have b3 := IsAll.up al1' s3
          generalize upd F3 e (.lst ys2.reverse) = F4 at g3 he a3 b3
          have g4 := g3.new (o := .lst ys.reverse) ne2
          have s4 : Same F4 (upd F4 e2 (.lst ys.reverse)) := sm_new (Same.refl F4) (g3.fh.free ne2)
          have he2 : (upd F4 e2 (.lst ys.reverse)) e2 = some (.lst ys.reverse) := upd_same
          have he' := s4 _ _ he
          have a4 := IsAll.up a3 s4
          have b4 := (IsAll.up b3 s4).rev
          generalize upd F4 e2 (.lst ys.reverse) = F5 at g4 he2 he' a4 b4
          have s5 : Same F5 (upd F5 u (.tup [.ref e, .int (rl rs x.b), .ref e2])) := sm_new (Same.refl F5) (g4.fh.free nu)
          exact q _ _ (.ref u) (g4.new nu) ⟨u, _, _, _, rfl, upd_same, ⟨e, _, rfl, s5 _ _ he', IsAll.up a4 s5⟩, rfl, ⟨e2, _, rfl, s5 _ _ he2, IsAll.up b4 s5⟩⟩
        | false =>
          refine ⟨_, rfl, _, rfl, ifF rfl ?_⟩
          refine ⟨_, rfl, _, rfl, _, rfl, p, _, _, _, rfl, rfl, SqT.of (g2.fh _ _ (g2.ff _ _ hp)), atI_nat (j := 1) rfl, as, _, _, _, rfl, rfl, SqL.of (g2.fh _ _ (g2.ff _ _ has)), mp ok.b0 ok.b1, _, rfl, three_le, fun u nu => ?_⟩
          have s5 : Same F3 (upd F3 u (.tup [.ref D, .int (rl rs x.b), .ref D2])) := sm_new (Same.refl F3) (g2.fh.free nu)
          exact q _ _ (.ref u) (g2.new nu) ⟨u, _, _, _, rfl, upd_same, ⟨D, _, rfl, s5 _ _ hD', IsAll.up al1' s5⟩, rfl, ⟨D2, _, rfl, s5 _ _ hD2, IsAll.up al2 s5⟩⟩
/-! ### strides of both told alike -/
def sp_L_same : Sp := fun vs H Q _ => ∃ (F : Hp) (v1 v2 : V) (y : Res4) (R S : Nat) (ar as : Addr) (rr rs : List Int) (tn : Bool), vs = [v1, v2, .ref ar, .ref as, .bl tn] ∧ Same F H ∧ Is F v1 y ∧ (0 ≤ y.c ∧ y.c < R) ∧ OkR2 S y.d ∧ Is F v2 (⟨y.a, y.b, rl rr y.c, y.d.nm (rl rs) tn⟩ : Res4) ∧ F ar = some (.lst (rr.map V.int)) ∧ F as = some (.lst (rs.map V.int)) ∧ Ord R rr ∧ Ord S rs ∧
  ∀ (F' H' : Hp), Gr mu0 F H F' H' → Q (.bl true) H'
theorem ok_L_same_strides (t : Tx K mg) : FnOk P w K mg base CX0 2 t.a_L_same_strides t.fd_L_same_strides ["_law_one", "_law_other", "_law_rows", "_law_signs", "_law_turned_here"] sp_L_same := by
  refine t.F_L_same_strides.ok sc_L_same_strides (fun vs H Q E h => ?_) (fun cdv A outer s H vs Q E hr h => ?_)
  · obtain ⟨F, v1, v2, y, R, S, ar, as, rr, rs, tn, rfl, _⟩ := h
    rfl
  · obtain ⟨F, v1, v2, y, R, S, ar, as, rr, rs, tn, rfl, sF, h1, yc, yd, h2, har, has, oR, oS, q⟩ := h
    refine ⟨_, (pss_one (ps_ret (pe_cmpR (op_eqD hr.units) (pv 1) (pe_tup (pa_cons (pe_ix ix_tup (pv 0) pe_int (fun _ _ => rfl)) (pa_cons (pe_ix ix_tup (pv 0) pe_int (fun _ _ => rfl)) (pa_cons (pe_ix ix_list (pv 2) (pe_ix ix_tup (pv 0) pe_int (fun _ _ => rfl)) (fun _ _ => rfl)) (pa_cons (pe_call (ok_L_runs_named t) (hr.mono (by decide)) (by rfl) t.m_L_runs_named t.F_L_runs_named.kp t.b_L_runs_named .nil pass0 (pa_cons (pe_ix ix_tup (pv 0) pe_int (fun _ _ => rfl)) (pa_cons (pv 3) (pa_cons (pv 4) pa_nil)))) pa_nil))))) (nomark _)))), ?_⟩
    obtain ⟨p, x1, x2, x3, x4, rfl, hp, i1, i2, i3, i4⟩ := h1
    have i1 : x1 = .str y.a.x := i1
    have i2 : x2 = .int y.b := i2
    have i3 : x3 = .int y.c := i3
    subst i1
    subst i2
    subst i3
    have mp : ∀ {x : Int}, 0 ≤ x → x < R → atI (rr.map V.int) x = some (.int (rl rr x)) := fun {x} x0 x1 => by
      have e := atI_nat (xs := rr.map V.int) (j := x.toNat) (v := .int (rl rr x)) (by rw [List.getElem?_map, oR.at x0 x1]; rfl)
      rw [Int.toNat_of_nonneg x0] at e
      exact e
    have hp' := SqT.of (K := K) (sF _ _ hp)
    refine ⟨_, rfl, _, rfl, p, _, _, _, rfl, rfl, hp', atI_nat (j := 0) rfl, _, rfl, p, _, _, _, rfl, rfl, hp', atI_nat (j := 1) rfl, _, rfl, _, rfl, p, _, _, _, rfl, rfl, hp', atI_nat (j := 2) rfl, ar, _, _, _, rfl, rfl, SqL.of (sF _ _ har), mp yc.1 yc.2, ?_⟩
    refine ⟨_, rfl, p, _, _, _, rfl, rfl, hp', atI_nat (j := 3) rfl, _, rfl, _, rfl, F, x4, y.d, S, as, rs, tn, rfl, sF, i4, yd, has, oS, fun F1 H1 u g1 iu => ⟨by show 4 ≤ sizeLine; decide, fun c nc => ?_⟩⟩
    have g2 := g1.new (o := .tup [.str y.a.x, .int y.b, .int (rl rr y.c), u]) nc
    have s2 : Same F1 (upd F1 c (.tup [.str y.a.x, .int y.b, .int (rl rr y.c), u])) := sm_new (Same.refl F1) (g1.fh.free nc)
    have ic : Is (upd F1 c (.tup [.str y.a.x, .int y.b, .int (rl rr y.c), u])) (.ref c) (⟨y.a, y.b, rl rr y.c, y.d.nm (rl rs) tn⟩ : Res4) := ⟨c, _, _, _, _, rfl, upd_same, rfl, rfl, rfl, Is.up iu s2⟩
    refine eq_dat (a := (⟨y.a, y.b, rl rr y.c, y.d.nm (rl rs) tn⟩ : Res4)) (b := ⟨y.a, y.b, rl rr y.c, y.d.nm (rl rs) tn⟩) ((h2.up g2.ff).up g2.fh) (ic.up g2.fh) ?_
    rw [decide_eq_true rfl]
    exact q _ _ g2
theorem gr_same {F H H1 : Hp} (f : Same F H) (s : Same H H1) : Gr mu0 F H F H1 := ⟨fun _ _ h => h, fun c o h => s _ _ (f _ _ h), fun _ _ h => .inl h, fun c o h _ => s _ _ h, fun c h => s.free h⟩
theorem SqL.up {K : PySem.W.Frag} {H H' : Hp} {a : Addr} {xs : List V} (h : SqL K H a xs) (s : Same H H') : SqL K H' a xs :=
  h.elim (fun h => .inl (h.elim (fun h => .inl (s _ _ h)) fun ⟨o, h⟩ => .inr ⟨o, s _ _ h⟩)) fun h => .inr h
theorem Nml.ok' {M N : Mach} {R S : Nat} {f g : Int → Int} (hM : MOk M R S) (h : Nml M R S f g N R 0) : MOk N R S := ⟨hM.r1, hM.r4, hM.s2, hM.s4, h.len, h.row, h.ok⟩
theorem Nml.nmd {M N : Mach} {R S : Nat} {rr rs : List Int} (oR : Ord R rr) (oS : Ord S rs) (h : Nml M R S (rl rs) (rl rr) N R 0) : Nmd M N R S (rl rs) (rl rr) false :=
  ⟨oS.f0, oS.fl, oS.fi, oR.fi, oR.f0, fun r s r0 r1 s0 s1 => by
    have := h.at_ r.toNat s.toNat (by omega) (by omega) (.inl (by omega))
    rw [Int.toNat_of_nonneg r0, Int.toNat_of_nonneg s0] at this
    exact this⟩
theorem entAt_mirA (M : Mach) (r s : Int) : entAt (mirM M) r s = mirE (entAt M r s) := by
  unfold entAt mirM
  rw [List.getElem?_map]
  cases M[r.toNat]? with
  | none => rfl
  | some row =>
    show ((row.map mirE)[s.toNat]?).getD Ent.emp = mirE ((row[s.toNat]?).getD .emp)
    rw [List.getElem?_map]
    cases row[s.toNat]? <;> rfl
theorem Nmd.mir {M N : Mach} {R S : Nat} {f g : Int → Int} (h : Nmd M N R S f g false) : Nmd M (mirM N) R S f g true :=
  ⟨h.f0, h.fl, h.fi, h.gi, h.g0, fun r s r0 r1 s0 s1 => by
    rw [entAt_mirA, h.ent r s r0 r1 s0 s1]
    cases entAt M r s <;> rfl⟩
theorem k0_nm (f g : Int → Int) (tn : Bool) (x : Rs) (row : Int) : k0Of (x.nm f tn) (g row) = (k0Of x row).nm f g tn := by
  cases tn
  · show (⟨(nmL f x.a).reverse, nmL f x.c, f x.b, g row, 0⟩ : Sk) = ⟨nmL f x.a.reverse, nmL f x.c, f x.b, g row, 0⟩
    unfold nmL
    rw [List.map_reverse]
  · show (⟨((nmL f x.c).reverse).reverse, (nmL f x.a).reverse, f x.b, g row, 0⟩ : Sk) = ⟨nmL f x.c, nmL f x.a.reverse, f x.b, g row, 0⟩
    rw [List.reverse_reverse]
    unfold nmL
    rw [List.map_reverse]
theorem toR_nm (f g : Int → Int) (tn : Bool) (k : Sk) : (⟨(k.nm f g tn).l.reverse, (k.nm f g tn).s, (k.nm f g tn).r⟩ : Rs) = Rs.nm f tn ⟨k.l.reverse, k.s, k.r⟩ := by
  cases tn
  · show (⟨(nmL f k.l).reverse, f k.s, nmL f k.r⟩ : Rs) = ⟨nmL f k.l.reverse, f k.s, nmL f k.r⟩
    unfold nmL
    rw [List.map_reverse]
  · show (⟨(nmL f k.r).reverse, f k.s, nmL f k.l⟩ : Rs) = ⟨(nmL f k.r).reverse, f k.s, (nmL f k.l.reverse).reverse⟩
    unfold nmL
    rw [List.map_reverse, List.reverse_reverse]
theorem OkR.nm {M N : Mach} {R S : Nat} {f g : Int → Int} {tn : Bool} (h : Nmd M N R S f g tn) {x : Rs} (o : OkR S x) : OkR S (x.nm f tn) := by
  have fl := h.fl
  obtain ⟨⟨o1, o2⟩, o3, o4, o5⟩ := o
  have nl : ∀ {l : List PI}, OkS S l → OkS S (nmL f l) := fun {l} ol q m => by
    obtain ⟨p, mp, rfl⟩ := List.mem_map.mp m
    have z := ol p mp
    exact ⟨fl _ z.1.1 z.1.2, z.2⟩
  have ll : ∀ {l : List PI}, (nmL f l).length = l.length := List.length_map _
  cases tn
  · exact ⟨⟨nl o1, by show (nmL f x.a).length ≤ _; rw [ll]; exact o2⟩, fl _ o3.1 o3.2, nl o4, by show (nmL f x.c).length ≤ _; rw [ll]; exact o5⟩
  · exact ⟨⟨(nl o4).rev, by show (nmL f x.c).reverse.length ≤ _; rw [List.length_reverse, ll]; exact o5⟩, fl _ o3.1 o3.2, (nl o1).rev, by show (nmL f x.a).reverse.length ≤ _; rw [List.length_reverse, ll]; exact o2⟩
theorem OkR.two {S : Nat} {x : Rs} (o : OkR S x) : OkR2 S x := ⟨o.1.1, o.2.1.1, o.2.1.2, o.2.2.1, by have := o.1.2; omega, by have := o.2.2.2; omega⟩
theorem told_two {M : Mach} {R S n : Nat} {x : Rs} {row : Int} (hM : MOk M R S) (o : OkR S x) (r0 : 0 ≤ row) (r1 : row < R) (hn : n ≤ 600) : OkR2 S (⟨(strd M (n + 1) (k0Of x row)).2.l.reverse, (strd M (n + 1) (k0Of x row)).2.s, (strd M (n + 1) (k0Of x row)).2.r⟩ : Rs) ∧ 0 ≤ (strd M (n + 1) (k0Of x row)).2.row ∧ (strd M (n + 1) (k0Of x row)).2.row < R := by
  have ok := strd_ok hM (n + 1) (k := k0Of x row) ⟨o.1.1.rev, o.2.2.1, o.2.1.1, o.2.1.2, r0, r1⟩
  have ln := strd_len M (n + 1) (k := k0Of x row) (m := 900) ⟨by show x.a.reverse.length ≤ 900; rw [List.length_reverse]; exact o.1.2, o.2.2.2⟩
  exact ⟨⟨ok.l.rev, ok.s0, ok.s1, ok.r, by show (strd M (n + 1) (k0Of x row)).2.l.reverse.length ≤ _; rw [List.length_reverse]; have := ln.1; omega, by have := ln.2; show (strd M (n + 1) (k0Of x row)).2.r.length ≤ _; omega⟩, ok.r0, ok.r1⟩
theorem strd_told {M N : Mach} {R S n : Nat} {f g : Int → Int} {tn : Bool} {x : Rs} {row : Int} (h : Nmd M N R S f g tn) (hM : MOk M R S) (o : OkR S x) (r0 : 0 ≤ row) (r1 : row < R) :
    (strd N n (k0Of (x.nm f tn) (g row))) = ((strd M n (k0Of x row)).1, (strd M n (k0Of x row)).2.nm f g tn) := by
  rw [k0_nm]
  exact h.strd hM n _ ⟨o.1.1.rev, o.2.2.1, o.2.1.1, o.2.1.2, r0, r1⟩
abbrev Y5 := T5 TStr Int Int Int (List PI)
def sp_law (K : PySem.W.Frag) : Sp := fun vs H Q _ => ∃ (a : Addr) (ns : List Int), vs = [.ref a] ∧ SqL K H a (ns.map V.int) ∧ ns.length ≤ 63 ∧ ∀ H', Q (.bl true) H'
theorem ok_law (t : Tx K mg) : FnOk P w K mg base CX0 6 t.a_law t.fd_law ["_law_script"] (sp_law K) := by
  refine t.F_law.ok sc_law (fun vs H Q E h => ?_) (fun cdv A outer s H vs Q E hr h => ?_)
  · obtain ⟨a, ns, rfl, _⟩ := h
    rfl
  · obtain ⟨l, ns, rfl, hS, hn, q⟩ := h
    refine ⟨_, (pss_cons (ps_for PassesOwn.never rfl (pi_range1 (by rfl) t.n_range (pa_cons pe_int pa_nil)) (pg_name (i := 1) sc_law.nd rfl (by first | exact Or.inl rfl | exact Or.inr rfl)) (pss_cons (ps_set (i := 2) sc_law.nd rfl (by first | exact Or.inl rfl | exact Or.inr rfl) (pe_call (ok_L_purse t) (hr.mono (by decide)) (by rfl) t.m_L_purse t.F_L_purse.kp t.b_L_purse .nil pass0 (pa_cons (pv 0) (pa_cons (pv 1) pa_nil))))
      (pss_cons (ps_set (i := 3) sc_law.nd rfl (by first | exact Or.inl rfl | exact Or.inr rfl) (pe_call (ok_L_machine t) (hr.mono (by decide)) (by rfl) t.m_L_machine t.F_L_machine.kp t.b_L_machine .nil pass0 (pa_cons (pv 2) pa_nil)))
      (pss_cons (ps_set (i := 4) sc_law.nd rfl (by first | exact Or.inl rfl | exact Or.inr rfl) (pe_call (ok_L_order t) (hr.mono (by decide)) (by rfl) t.m_L_order t.F_L_order.kp t.b_L_order .nil pass0 (pa_cons (pv 2) (pa_cons (pe_callB (id := "len") call_lenQ (by rfl) t.n_len (by decide +kernel) (pa_cons (pv 3) pa_nil)) pa_nil))))
      (pss_cons (ps_set (i := 5) sc_law.nd rfl (by first | exact Or.inl rfl | exact Or.inr rfl) (pe_call (ok_L_order t) (hr.mono (by decide)) (by rfl) t.m_L_order t.F_L_order.kp t.b_L_order .nil pass0 (pa_cons (pv 2) (pa_cons (pe_callB (id := "len") call_lenQ (by rfl) t.n_len (by decide +kernel) (pa_cons (pe_ix ix_list (pv 3) pe_int (fun _ _ => rfl)) pa_nil)) pa_nil))))
      (pss_cons (ps_set (i := 6) sc_law.nd rfl (by first | exact Or.inl rfl | exact Or.inr rfl) (pe_call (ok_L_named t) (hr.mono (by decide)) (by rfl) t.m_L_named t.F_L_named.kp t.b_L_named .nil pass0 (pa_cons (pv 3) (pa_cons (pv 4) (pa_cons (pv 5) pa_nil)))))
      (pss_cons (ps_set (i := 7) sc_law.nd rfl (by first | exact Or.inl rfl | exact Or.inr rfl) (pe_call (ok_L_mirrored t) (hr.mono (by decide)) (by rfl) t.m_L_mirrored t.F_L_mirrored.kp t.b_L_mirrored .nil pass0 (pa_cons (pv 6) pa_nil)))
      (pss_cons (ps_set (i := 8) sc_law.nd rfl (by first | exact Or.inl rfl | exact Or.inr rfl) (pe_call (ok_L_draw t) (hr.mono (by decide)) (by rfl) t.m_L_draw t.F_L_draw.kp t.b_L_draw .nil pass0 (pa_cons (pv 2) (pa_cons pe_int pa_nil))))
      (pss_cons (ps_set (i := 9) sc_law.nd rfl (by first | exact Or.inl rfl | exact Or.inr rfl) (pe_call (ok_L_draw t) (hr.mono (by decide)) (by rfl) t.m_L_draw t.F_L_draw.kp t.b_L_draw .nil pass0 (pa_cons (pv 2) (pa_cons (pe_callB (id := "len") call_lenQ (by rfl) t.n_len (by decide +kernel) (pa_cons (pv 3) pa_nil)) pa_nil))))
      (pss_cons (ps_for PassesOwn.never rfl (pi_list (pe_lst (pa_cons (pe_tup (pa_cons (pe_lst pa_nil) (pa_cons pe_int (pa_cons (pe_lst pa_nil) pa_nil)))) (pa_cons (pe_call (ok_L_runs t) (hr.mono (by decide)) (by rfl) t.m_L_runs t.F_L_runs.kp t.b_L_runs .nil pass0 (pa_cons (pv 2) (pa_cons (pe_callB (id := "len") call_lenQ (by rfl) t.n_len (by decide +kernel) (pa_cons (pe_ix ix_list (pv 3) pe_int (fun _ _ => rfl)) pa_nil)) pa_nil))) pa_nil)))) (pg_name (i := 10) sc_law.nd rfl (by first | exact Or.inl rfl | exact Or.inr rfl)) (pss_cons (ps_set (i := 11) sc_law.nd rfl (by first | exact Or.inl rfl | exact Or.inr rfl) (pe_call (ok_by_strides t) (hr.mono (by decide)) (by rfl) t.m_by_strides t.F_by_strides.kp t.b_by_strides .nil pass0 (pa_cons (pv 3) (pa_cons (pv 9) (pa_cons (pe_call (ok_L_copied t) (hr.mono (by decide)) (by rfl) t.m_L_copied t.F_L_copied.kp t.b_L_copied .nil pass0 (pa_cons (pv 10) pa_nil)) (pa_cons (pv 8) pa_nil))))))
      (pss_cons (ps_set (i := 12) sc_law.nd rfl (by first | exact Or.inl rfl | exact Or.inr rfl) (pe_call (ok_by_strides t) (hr.mono (by decide)) (by rfl) t.m_by_strides t.F_by_strides.kp t.b_by_strides .nil pass0 (pa_cons (pv 6) (pa_cons (pe_ix ix_list (pv 4) (pv 9) (fun _ _ => rfl)) (pa_cons (pe_call (ok_L_runs_named t) (hr.mono (by decide)) (by rfl) t.m_L_runs_named t.F_L_runs_named.kp t.b_L_runs_named .nil pass0 (pa_cons (pv 10) (pa_cons (pv 5) (pa_cons pe_bl pa_nil)))) (pa_cons (pv 8) pa_nil))))))
      (pss_cons (ps_if (pt_not (pt_val (pe_call (ok_L_same_strides t) (hr.mono (by decide)) (by rfl) t.m_L_same_strides t.F_L_same_strides.kp t.b_L_same_strides .nil pass0 (pa_cons (pv 11) (pa_cons (pv 12) (pa_cons (pv 4) (pa_cons (pv 5) (pa_cons pe_bl pa_nil)))))))) (pss_one (ps_ret pe_bl)) pss_nil)
      (pss_cons (ps_set (i := 12) sc_law.nd rfl (by first | exact Or.inl rfl | exact Or.inr rfl) (pe_call (ok_by_strides t) (hr.mono (by decide)) (by rfl) t.m_by_strides t.F_by_strides.kp t.b_by_strides .nil pass0 (pa_cons (pv 7) (pa_cons (pe_ix ix_list (pv 4) (pv 9) (fun _ _ => rfl)) (pa_cons (pe_call (ok_L_runs_named t) (hr.mono (by decide)) (by rfl) t.m_L_runs_named t.F_L_runs_named.kp t.b_L_runs_named .nil pass0 (pa_cons (pv 10) (pa_cons (pv 5) (pa_cons pe_bl pa_nil)))) (pa_cons (pv 8) pa_nil))))))
      (pss_one (ps_if (pt_not (pt_val (pe_call (ok_L_same_strides t) (hr.mono (by decide)) (by rfl) t.m_L_same_strides t.F_L_same_strides.kp t.b_L_same_strides .nil pass0 (pa_cons (pv 11) (pa_cons (pv 12) (pa_cons (pv 4) (pa_cons (pv 5) (pa_cons pe_bl pa_nil)))))))) (pss_one (ps_ret pe_bl)) pss_nil)))))))
      (pss_cons (ps_set (i := 13) sc_law.nd rfl (by first | exact Or.inl rfl | exact Or.inr rfl) (pe_op op_add pe_int (pe_call (ok_L_draw t) (hr.mono (by decide)) (by rfl) t.m_L_draw t.F_L_draw.kp t.b_L_draw .nil pass0 (pa_cons (pv 2) (pa_cons pe_int pa_nil)))))
      (pss_cons (ps_set (i := 8) sc_law.nd rfl (by first | exact Or.inl rfl | exact Or.inr rfl) (pe_call (ok_L_draw t) (hr.mono (by decide)) (by rfl) t.m_L_draw t.F_L_draw.kp t.b_L_draw .nil pass0 (pa_cons (pv 2) (pa_cons pe_int pa_nil))))
      (pss_cons (ps_asg (pe_call (ok_by_blocks t) (hr.mono (by decide)) (by rfl) t.m_by_blocks t.F_by_blocks.kp t.b_by_blocks .nil pass0 (pa_cons (pv 3) (pa_cons (pv 13) (pa_cons (pv 8) pa_nil)))) (pg_tup rfl (pgs_cons (pg_name (i := 14) sc_law.nd rfl (by first | exact Or.inl rfl | exact Or.inr rfl)) (pgs_cons (pg_name (i := 15) sc_law.nd rfl (by first | exact Or.inl rfl | exact Or.inr rfl)) (pgs_cons (pg_name (i := 9) sc_law.nd rfl (by first | exact Or.inl rfl | exact Or.inr rfl)) (pgs_cons (pg_name (i := 16) sc_law.nd rfl (by first | exact Or.inl rfl | exact Or.inr rfl)) (pgs_cons (pg_name (i := 17) sc_law.nd rfl (by first | exact Or.inl rfl | exact Or.inr rfl)) pgs_nil)))))))
      (pss_cons (ps_setLc (i := 17) (own := [("_law_spot", 18), ("_law_sign", 19)]) (tt := tYes) rfl sc_law.nd rfl rfl (sw_true rfl rfl rfl (by decide +kernel)) (pi_list (pv 17)) (blkOk_by (N := N_law) (sc := defScope s_law) (by decide +kernel)) (fun _ _ _ _ _ => (pg_tupK (K := K) (n := 2) rfl rfl (pgs_cons (pg_name (i := 18) sc_law.nd rfl (by first | exact Or.inl rfl | exact Or.inr rfl)) (pgs_cons (pg_name (i := 19) sc_law.nd rfl (by first | exact Or.inl rfl | exact Or.inr rfl)) pgs_nil)))) (fun _ _ _ _ _ => pts_nil) (fun _ _ _ _ _ => (pe_tup (pa_cons (pv 18) (pa_cons (pe_ix (ixK (K := K) (r := rIxL) rfl ix_list) (pv 5) (pv 19) (fun _ _ => rfl)) pa_nil)))))
      (pss_one (ps_if (pt_cmpR (op_neD hr.units) (pe_call (ok_by_blocks t) (hr.mono (by decide)) (by rfl) t.m_by_blocks t.F_by_blocks.kp t.b_by_blocks .nil pass0 (pa_cons (pv 6) (pa_cons (pv 13) (pa_cons (pv 8) pa_nil)))) (pe_tup (pa_cons (pv 14) (pa_cons (pv 15) (pa_cons (pe_ix ix_list (pv 4) (pv 9) (fun _ _ => rfl)) (pa_cons (pv 16) (pa_cons (pv 17) pa_nil)))))) (nomark _)) (pss_one (ps_ret pe_bl)) pss_nil))))))))))))))))
      (pss_one (ps_ret pe_bl))), ?_⟩
    refine ⟨6, rfl, by decide, by decide, for_range (lo := 0) (n := 6) (fun i σ G => ∃ (v1 v2 v3 v4 v5 v6 v7 v8 v9 v10 v11 v12 v13 v14 v15 v16 v17 v18 v19 : Option V), σ = [some (.ref l), v1, v2, v3, v4, v5, v6, v7, v8, v9, v10, v11, v12, v13, v14, v15, v16, v17, v18, v19] ∧ Same H G)
      ⟨none, none, none, none, none, none, none, none, none, none, none, none, none, none, none, none, none, none, none, rfl, Same.refl H⟩ ?_ ?_⟩
    · rintro i σ G hi ⟨v1, v2, v3, v4, v5, v6, v7, v8, v9, v10, v11, v12, v13, v14, v15, v16, v17, v18, v19, rfl, sG⟩
      have ei : ((0 : Int) + (i : Int)) = (i : Int) := by omega
      rw [ei]
      refine ⟨_, rfl, _, rfl, l, ns, i, rfl, SqL.up hS sG, by omega, fun p G1 s1 np hp1 => ?_⟩
      refine ⟨_, rfl, G, p, 10000, rfl, s1, np, hp1, by decide, fun F2 G2 m M R S g2 hp2 hM hm => ?_⟩
      have r1 := hM.r1
      have r4 := hM.r4
      have S2 := hM.s2
      have S4 := hM.s4
      obtain ⟨am, rws, rfl, ham, hrs⟩ := id hm
      have lrs : rws.length = R := hrs.1.trans hM.len
      have l0 : 0 < rws.length := by omega
      obtain ⟨row0, hM0, a0, es0, er0, ha0, hes0⟩ := hrs.get' (List.getElem?_eq_getElem l0)
      have ls0 : es0.length = S := hes0.1.trans (hM.row _ (List.mem_of_getElem? hM0))
      have hx0 : rws[0]? = some (.ref a0) := (List.getElem?_eq_getElem l0).trans (congrArg some er0)
      -- the orders
      have fp2 := hp1.f np g2
      refine ⟨_, rfl, _, rfl, am, rws, rfl, .inl (SqL.of (g2.fh _ _ ham)), ?_⟩
      rw [lrs]
      refine ⟨F2, p, R, _, rfl, g2.fh, fp2, hp2, by omega, r1, r4, fun F3 G3 ar rr g3 hp3 har oR => ?_⟩
      have fp3 := hp2.f fp2 g3
      have ham3 := g3.ff _ _ ham
      have ha03 := g3.ff _ _ ha0
      refine ⟨_, rfl, _, rfl, am, rws, _, _, rfl, rfl, SqL.of (g3.fh _ _ ham3), atI_nat (j := 0) hx0, a0, es0, rfl, .inl (SqL.of (g3.fh _ _ ha03)), ?_⟩
      rw [ls0]
      refine ⟨F3, p, S, _, rfl, g3.fh, fp3, hp3, by omega, by omega, S4, fun F4 G4 as rs g4 hp4 has oS => ?_⟩
      have fp4 := hp3.f fp3 g4
      have hm4 := (hm.up g3.ff).up g4.ff
      have har4 := g4.ff _ _ har
      -- named otherwise
      refine ⟨_, rfl, _, rfl, _, rfl, F4, .ref am, M, R, S, ar, as, rr, rs, rfl, g4.fh, hm4, hM, har4, has, oR, oS, fun F5 G5 mn N g5 hmn nml => ?_⟩
      have hN := nml.ok' hM
      have nm := nml.nmd oR oS
      refine ⟨_, rfl, F5, mn, N, R, S, rfl, g5.fh, hmn, hN, fun F6 G6 mb g6 hmb => ?_⟩
      have hB := hN.mir
      have nmB := nm.mir
      have g46 := g5.trans g6
      have hp6 := hp4.gr g46 (fun z => z)
      have hm6 := hm4.up g46.ff
      have hmn6 := hmn.up g6.ff
      have har6 := g46.ff _ _ har4
      have has6 := g46.ff _ _ has
      have ham6 := g46.ff _ _ (g4.ff _ _ ham3)
      have ha06 := g46.ff _ _ (g4.ff _ _ ha03)
      have gg := ((g2.trans g3).trans g4).trans g46.of0
      have fp6 := hp1.f np gg
      clear g2 g3 g4 g5 g6 g46 hp2 hp3 hp4 hm4 hmn
      -- the count, the row
      refine ⟨_, rfl, F6, p, 501, _, rfl, gg.fh, fp6, hp6, by omega, by decide, by decide, fun d1 G7 d10 d11 g7 hp7 => ?_⟩
      have fp7 := hp6.f fp6 g7
      have en : ((d1.toNat : Nat) : Int) = d1 := Int.toNat_of_nonneg d10
      generalize hd : d1.toNat = n at en
      dsimp only
      rw [← en]
      have n5 : n ≤ 500 := by omega
      refine ⟨_, rfl, _, rfl, am, rws, rfl, .inl (SqL.of (g7.fh _ _ ham6)), ?_⟩
      rw [lrs]
      refine ⟨F6, p, (R : Int), _, rfl, g7.fh, fp7, hp7, by omega, by omega, by omega, fun d2 G8 d20 d21 g8 hp8 => ?_⟩
      have fp8 := hp7.f fp7 g8
      have g9 := g7.trans g8
      -- the two strips
      refine ⟨nil_le, fun a1 n1 => ⟨nil_le, fun a2 n2 => ⟨three_le, fun a3 n3 => ?_⟩⟩⟩
      have ga := g9.new (o := .lst []) n1
      have hpa := hp8.ln (o := .lst []) n1
      have ha1 : (upd F6 a1 (.lst [])) a1 = some (.lst []) := upd_same
      generalize upd F6 a1 (.lst []) = Fa at ga ha1
      generalize upd G8 a1 (.lst []) = Ga at ga hpa n2 n3 ⊢
      have gb := ga.new (o := .lst []) n2
      have hpb := hpa.ln (o := .lst []) n2
      have ha1 := ln (u := .lst []) (ga.fh.free n2) ha1
      have ha2 : (upd Fa a2 (.lst [])) a2 = some (.lst []) := upd_same
      generalize upd Fa a2 (.lst []) = Fb at gb ha1 ha2
      generalize upd Ga a2 (.lst []) = Gb at gb hpb n3 ⊢
      have gc := gb.new (o := .tup [.ref a1, .int 0, .ref a2]) n3
      have hpc := hpb.ln (o := .tup [.ref a1, .int 0, .ref a2]) n3
      have s3 : Same Fb (upd Fb a3 (.tup [.ref a1, .int 0, .ref a2])) := sm_new (Same.refl Fb) (gb.fh.free n3)
      have ix0 : Is (upd Fb a3 (.tup [.ref a1, .int 0, .ref a2])) (.ref a3) (⟨[], 0, []⟩ : Rs) := ⟨a3, _, _, _, rfl, upd_same, ⟨a1, [], rfl, s3 _ _ ha1, All2.nil⟩, rfl, ⟨a2, [], rfl, s3 _ _ ha2, All2.nil⟩⟩
      generalize upd Fb a3 (.tup [.ref a1, .int 0, .ref a2]) = Fc at gc ix0
      generalize upd Gb a3 (.tup [.ref a1, .int 0, .ref a2]) = Gc at gc hpc ⊢
      refine ⟨_, rfl, _, rfl, am, rws, _, _, rfl, rfl, SqL.of (gc.fh _ _ (gc.ff _ _ ham6)), atI_nat (j := 0) hx0, a0, es0, rfl, .inl (SqL.of (gc.fh _ _ (gc.ff _ _ ha06))), ?_⟩
      rw [ls0]
      have fpc := hp6.f fp6 gc
      refine ⟨Fc, p, S, _, rfl, gc.fh, fpc, hpc, by omega, S2, S4, fun Fd Gd vr xr gd hpd ixr okr _ _ => ⟨two_le, fun a4 n4 => ?_⟩⟩
      have ge := (gc.trans gd).new (o := .lst [.ref a3, vr]) n4
      have hpe := hpd.ln (o := .lst [.ref a3, vr]) n4
      have s4 : Same Fd (upd Fd a4 (.lst [.ref a3, vr])) := sm_new (Same.refl Fd) ((gc.trans gd).fh.free n4)
      have ha4 : (upd Fd a4 (.lst [.ref a3, vr])) a4 = some (.lst [.ref a3, vr]) := upd_same
      have ok0 : OkR S (⟨[], 0, []⟩ : Rs) := ⟨⟨OkS.nil, by decide⟩, ⟨Int.le_refl 0, by show (0 : Int) < S; omega⟩, OkS.nil, by decide⟩
      have hall : ∀ (j : Nat) (y : V), [V.ref a3, vr][j]? = some y → ∃ x : Rs, Is (upd Fd a4 (.lst [.ref a3, vr])) y x ∧ OkR S x := fun j y e => by
        match j, e with
        | 0, e => cases e; exact ⟨_, (ix0.up gd.ff).up s4, ok0⟩
        | 1, e => cases e; exact ⟨xr, ixr.up s4, okr⟩
      have har12 := ge.ff _ _ har6
      have has12 := ge.ff _ _ has6
      have ham12 := ge.ff _ _ ham6
      have hm12 := hm6.up ge.ff
      have hmn12 := hmn6.up ge.ff
      have hmb12 := hmb.up ge.ff
      have gg12 := gg.trans ge
      generalize upd Fd a4 (.lst [.ref a3, vr]) = F12 at ge ha4 hall har12 has12 ham12 hm12 hmn12 hmb12 gg12
      generalize upd Gd a4 (.lst [.ref a3, vr]) = G12 at ge hpe gg12 ⊢
      have fp12 := hp1.f np gg12
      clear ga gb gc gd ge hpa hpb hpc hpd n1 n2 n3 n4 g7 g8 g9 hp7 hp8 hp6
      have mpR : ∀ {x : Int}, 0 ≤ x → x < R → atI (rr.map V.int) x = some (.int (rl rr x)) := fun {x} x0 x1 => by
        have e := atI_nat (xs := rr.map V.int) (j := x.toNat) (v := .int (rl rr x)) (by rw [List.getElem?_map, oR.at x0 x1]; rfl)
        rw [Int.toNat_of_nonneg x0] at e
        exact e
      have mpS : ∀ {x : Int}, 0 ≤ x → x < S → atI (rs.map V.int) x = some (.int (rl rs x)) := fun {x} x0 x1 => by
        have e := atI_nat (xs := rs.map V.int) (j := x.toNat) (v := .int (rl rs x)) (by rw [List.getElem?_map, oS.at x0 x1]; rfl)
        rw [Int.toNat_of_nonneg x0] at e
        exact e
      refine ⟨a4, rfl, ⟨_, SqL.of (gg12.fh _ _ ha4)⟩, for_list (K := K) (a := a4) (xs := [.ref a3, vr]) (fun j σ T => ∃ (F7 : Hp) (v10 v11 v12 : Option V), σ = [some (.ref l), some (.int i), some (.ref p), some (.ref am), some (.ref ar), some (.ref as), some mn, some mb, some (.int n), some (.int d2), v10, v11, v12, v13, v14, v15, v16, v17, v18, v19] ∧ Gr mu0 F12 G12 F7 T)
        ⟨F12, v10, v11, v12, rfl, Gr.refl gg12.fh⟩ (fun j σ T _ ⟨F7, _, _, _, _, g⟩ => SqL.of (g.fh _ _ (g.ff _ _ ha4))) ?_ ?_⟩
      · rintro j y σ T hj ⟨F7, v10, v11, v12, rfl, g⟩
        obtain ⟨x, ix, okx⟩ := hall j y hj
        have tw := told_two (n := n) hM okx d20 d21 (by omega)
        -- the one
        refine ⟨_, rfl, _, rfl, _, rfl, F7, y, x, rfl, g.fh, Is.up ix g.ff, fun F8 T8 u8 k8 iu8 => ?_⟩
        have g8 := g.trans k8
        refine ⟨_, rfl, F8, .ref am, u8, M, R, S, x, d2, n, rfl, g8.fh, hm12.up g8.ff, hM, iu8, okx, d20, d21, by omega, fun F9 T9 t u l1 l2 xs1 xs2 z ez k9 ht hu w1 w2 l12 i1 i2 => ?_⟩
        rw [ez] at tw
        obtain ⟨Fx, kx, ht3, iu3⟩ := bs_frz k9 ht hu w1 w2 l12 i1 i2
        have gx := g8.trans kx
        have i1t : Is Fx (.ref t) (⟨z.1, z.2.st, z.2.row, ⟨z.2.l.reverse, z.2.s, z.2.r⟩⟩ : Res4) := ⟨t, _, _, _, _, rfl, ht3, rfl, rfl, rfl, iu3⟩
        -- the other one
        refine ⟨_, rfl, _, rfl, _, rfl, ar, _, _, _, rfl, rfl, SqL.of (gx.fh _ _ (gx.ff _ _ har12)), mpR d20 d21, _, rfl, _, rfl, Fx, y, x, S, as, rs, false, rfl, gx.fh, Is.up ix gx.ff, okx.two, gx.ff _ _ has12, oS, fun Fa1 Ta1 ua1 ka1 iua1 => ?_⟩
        have ga1 := gx.trans ka1
        refine ⟨_, rfl, Fa1, mn, ua1, N, R, S, x.nm (rl rs) false, rl rr d2, n, rfl, ga1.fh, hmn12.up ga1.ff, hN, iua1, okx.nm nm, (oR.fl _ d20 d21).1, (oR.fl _ d20 d21).2, by omega, fun Fa2 Ta2 ta2 ua2 l1 l2 xs1 xs2 za2 eza2 ka2 ht hu w1 w2 l12 i1 i2 => ?_⟩
        rw [strd_told nm hM okx d20 d21, ez] at eza2
        subst eza2
        obtain ⟨Fa3, ka3, ht3, iu3⟩ := bs_frz ka2 ht hu w1 w2 l12 i1 i2
        rw [toR_nm] at iu3
        have ga3 := ga1.trans ka3
        have ia3 : Is Fa3 (.ref ta2) (⟨z.1, z.2.st, rl rr z.2.row, Rs.nm (rl rs) false ⟨z.2.l.reverse, z.2.s, z.2.r⟩⟩ : Res4) := ⟨ta2, _, _, _, _, rfl, ht3, rfl, rfl, rfl, iu3⟩
        refine ⟨_, rfl, _, rfl, _, rfl, _, rfl, Fa3, .ref t, .ref ta2, ⟨z.1, z.2.st, z.2.row, ⟨z.2.l.reverse, z.2.s, z.2.r⟩⟩, R, S, ar, as, rr, rs, false, rfl, ga3.fh, (i1t.up ka1.ff).up ka3.ff, ⟨tw.2.1, tw.2.2⟩, tw.1, ia3, ga3.ff _ _ har12, ga3.ff _ _ has12, oR, oS, fun Fa4 Ta4 ka4 => ⟨_, rfl, ifF rfl ?_⟩⟩
        have ga4 := ga3.trans ka4
        have i1t := ((i1t.up ka1.ff).up ka3.ff).up ka4.ff
        -- the other one
        refine ⟨_, rfl, _, rfl, _, rfl, ar, _, _, _, rfl, rfl, SqL.of (ga4.fh _ _ (ga4.ff _ _ har12)), mpR d20 d21, _, rfl, _, rfl, Fa4, y, x, S, as, rs, true, rfl, ga4.fh, Is.up ix ga4.ff, okx.two, ga4.ff _ _ has12, oS, fun Fb1 Tb1 ub1 kb1 iub1 => ?_⟩
        have gb1 := ga4.trans kb1
        refine ⟨_, rfl, Fb1, mb, ub1, (mirM N), R, S, x.nm (rl rs) true, rl rr d2, n, rfl, gb1.fh, hmb12.up gb1.ff, hB, iub1, okx.nm nmB, (oR.fl _ d20 d21).1, (oR.fl _ d20 d21).2, by omega, fun Fb2 Tb2 tb2 ub2 l1 l2 xs1 xs2 zb2 ezb2 kb2 ht hu w1 w2 l12 i1 i2 => ?_⟩
        rw [strd_told nmB hM okx d20 d21, ez] at ezb2
        subst ezb2
        obtain ⟨Fb3, kb3, ht3, iu3⟩ := bs_frz kb2 ht hu w1 w2 l12 i1 i2
        rw [toR_nm] at iu3
        have gb3 := gb1.trans kb3
        have ib3 : Is Fb3 (.ref tb2) (⟨z.1, z.2.st, rl rr z.2.row, Rs.nm (rl rs) true ⟨z.2.l.reverse, z.2.s, z.2.r⟩⟩ : Res4) := ⟨tb2, _, _, _, _, rfl, ht3, rfl, rfl, rfl, iu3⟩
        refine ⟨_, rfl, _, rfl, _, rfl, _, rfl, Fb3, .ref t, .ref tb2, ⟨z.1, z.2.st, z.2.row, ⟨z.2.l.reverse, z.2.s, z.2.r⟩⟩, R, S, ar, as, rr, rs, true, rfl, gb3.fh, (i1t.up kb1.ff).up kb3.ff, ⟨tw.2.1, tw.2.2⟩, tw.1, ib3, gb3.ff _ _ har12, gb3.ff _ _ has12, oR, oS, fun Fb4 Tb4 kb4 => ⟨_, rfl, ifF rfl ?_⟩⟩
        have gb4 := gb3.trans kb4
        have i1t := ((i1t.up kb1.ff).up kb3.ff).up kb4.ff
        exact ⟨_, _, _, _, rfl, gb4⟩
      · rintro σ T ⟨F7, v10, v11, v12, rfl, g⟩
        have gT := gg12.trans g.of0
        have hpT := hpe.gr g (fun z => z)
        have fp := hp1.f np gT
        have hmT := hm12.up g.ff
        have hmnT := hmn12.up g.ff
        have harT := g.ff _ _ har12
        have hasT := g.ff _ _ has12
        clear g ha4 hall gg12 hpe
        refine ⟨_, rfl, F7, p, 4, _, rfl, gT.fh, fp, hpT, by omega, by decide, by decide, fun e1 T1 e10 e11 g1 hp1' => ⟨_, _, rfl, rfl, ?_⟩⟩
        have ek : (1 + e1 : Int) = (((1 + e1).toNat : Nat) : Int) := (Int.toNat_of_nonneg (by omega)).symm
        generalize hk : (1 + e1).toNat = k at ek
        dsimp only
        rw [ek]
        have k1 : 1 ≤ k := by omega
        have k4 : k ≤ 4 := by omega
        refine ⟨_, rfl, F7, p, 61, _, rfl, g1.fh, fp, hp1', by omega, by decide, by decide, fun e2 T2 e20 e21 g2 hp2' => ?_⟩
        have en2 : ((e2.toNat : Nat) : Int) = e2 := Int.toNat_of_nonneg e20
        generalize hd2 : e2.toNat = b at en2
        dsimp only
        rw [← en2]
        have gU := gT.trans (g1.trans g2)
        clear g1 g2 hp1' hp2' hpT gT
        refine ⟨_, rfl, _, rfl, _, rfl, F7, .ref am, M, R, S, k, b, rfl, gU.fh, hmT, hM, k1, k4, by omega, fun F5 T5 v la xs z Y eY g5 hv5 wl5 al5 st5 => ?_⟩
        have S1 : 1 ≤ S := by omega
        obtain ⟨j, c, _, yr⟩ := byB_rep k1 hM b (W0 k) 0 c0 (W0_ok r1 S1) (W0_rep k1)
        rw [eY] at yr
        obtain ⟨okc, _⟩ := stepsC_ok hM yr.st
        have hfB : ∀ x, 0 ≤ fB k Y.B x ∧ fB k Y.B x < S := fun x => by rw [← yr.f x]; exact okc.look S1 x
        have hrow : 0 ≤ Y.row ∧ Y.row < R := by rw [← yr.r]; exact ⟨okc.r0, okc.r1⟩
        have few := byB_few k1 k4 hM (by omega : b ≤ 400) (by rw [eY]; exact st5)
        have g6 := g5.frz wl5.h wl5.n wl5.f
        have s6 : Same F5 (upd F5 la (.lst xs)) := sm_new (Same.refl F5) wl5.f
        have hl6 : (upd F5 la (.lst xs)) la = some (.lst xs) := upd_same
        have hv6 := s6 _ _ hv5
        have al6 := IsAll.up al5 s6
        generalize upd F5 la (.lst xs) = F6' at g6 hl6 hv6 al6
        refine ⟨v, _, rfl, SqT.of (g6.fh _ _ hv6), rfl, _, _, rfl, _, _, rfl, _, _, rfl, _, _, rfl, _, _, rfl, rfl, ?_⟩
        refine ⟨_, rfl, la, rfl, ⟨_, SqL.of (g6.fh _ _ hl6)⟩, fun D nD => lc_list (K := K) (a := la) (xs := xs) (fun i G => ∃ (F1 : Hp) (ys : List V), Gr mu0 F6' T5 F1 G ∧ Ow T5 F1 G D (.lst ys) ∧ IsAll F1 ys (nmS (rl rs) (z.take i)))
          ⟨F6', [], (Gr.refl g6.fh).own nD, Ow.mk1 (Gr.refl (mu := mu0) g6.fh) nD, All2.nil⟩ (fun i G _ ⟨F1, ys, g, _⟩ => SqL.of (g.fh _ _ (g.ff _ _ hl6))) ?_ ?_⟩
        · rintro i' y G' hi' ⟨F1, ys, g, w, al⟩
          obtain ⟨d, hd', p2, y1, y2, rfl, hp2, f1, f2⟩ := al6.get' hi'
          have f1 : y1 = .int d.a := f1
          have f2 : y2 = .int d.b := f2
          subst f1
          subst f2
          have nz := (st5.nz (List.mem_of_getElem? hd')).1
          have okd := hfB d.a
          rw [nz] at okd
          have il : i' < z.length := (List.getElem?_eq_some_iff.mp hd').1
          have ly : ys.length = i' := by rw [al.1]; unfold nmS; rw [List.length_map, List.length_take]; omega
          refine ⟨p2, _, rfl, SqT.of (g.fh _ _ (g.ff _ _ hp2)), rfl, _, _, rfl, _, _, rfl, rfl, rfl, yes ⟨_, rfl, _, rfl, _, rfl, as, _, _, _, rfl, rfl, SqL.of (g.fh _ _ (g.ff _ _ (g6.ff _ _ hasT))), mpS okd.1 okd.2, two_le, fun u nu => ?_⟩⟩
          have g2 := g.new (o := .tup [.int d.a, .int (rl rs d.b)]) nu
          have w2 := w.new (u := .tup [.int d.a, .int (rl rs d.b)]) nu
          have s2 : Same F1 (upd F1 u (.tup [.int d.a, .int (rl rs d.b)])) := sm_new (Same.refl F1) (g.fh.free nu)
          refine ⟨ys, w2.h, lt_size (by omega), _, _, g2.set w2.f (.inl w2.n), w2.set, ?_⟩
          have tk : nmS (rl rs) (z.take (i' + 1)) = nmS (rl rs) (z.take i') ++ [⟨d.a, rl rs d.b⟩] := map_take_succ hd'
          rw [tk]
          exact (IsAll.up al s2).app (All2.one ⟨u, _, _, rfl, upd_same, rfl, rfl⟩)
        · rintro G' ⟨F1, ys, g, w, al⟩
          rw [al6.1, List.take_length] at al
          have g7 := g6.trans (g.frz w.h w.n w.f)
          have s7 : Same F1 (upd F1 D (.lst ys)) := sm_new (Same.refl F1) w.f
          have iD : Is (upd F1 D (.lst ys)) (.ref D) (nmS (rl rs) z) := ⟨D, ys, rfl, upd_same, IsAll.up al s7⟩
          generalize upd F1 D (.lst ys) = F8 at g7 iD
          refine ⟨_, rfl, _, rfl, _, rfl, F8, mn, N, R, S, k, b, rfl, g7.fh, hmnT.up g7.ff, hN, k1, k4, by omega, fun F9 T9 v2 lb xs2 z2 Y2 eY2 g8 hv8 w8 al8 st8 => ?_⟩
          have e2 : Y2 = Y.nm (rl rs) (rl rr) := by rw [← eY2, nm.byB0 hM k1, eY]
          subst e2
          have ez : z2 = nmS (rl rs) z := st8.uniq (nm.strip hfB st5)
          subst ez
          refine ⟨_, rfl, _, rfl, _, rfl, _, rfl, ar, _, _, _, rfl, rfl, SqL.of (g8.fh _ _ (g8.ff _ _ (g7.ff _ _ harT))), mpR hrow.1 hrow.2, _, rfl, _, rfl, five_le, fun u nu => ?_⟩
          have gn := g8.new (o := .tup [.str Y.w.x, .int Y.st, .int (rl rr Y.row), .int Y.pl, .ref D]) nu
          have sn : Same T9 (upd T9 u (.tup [.str Y.w.x, .int Y.st, .int (rl rr Y.row), .int Y.pl, .ref D])) := sm_up nu
          have i1 : Is (upd T9 u (.tup [.str Y.w.x, .int Y.st, .int (rl rr Y.row), .int Y.pl, .ref D])) (.ref v2) (⟨Y.w, Y.st, rl rr Y.row, Y.pl, nmS (rl rs) z⟩ : Y5) := ⟨v2, _, _, _, _, _, rfl, sn _ _ (g8.fh _ _ hv8), rfl, rfl, rfl, rfl, lb, xs2, rfl, sn _ _ w8.h, (IsAll.up al8 g8.fh).up sn⟩
          have i2 : Is (upd T9 u (.tup [.str Y.w.x, .int Y.st, .int (rl rr Y.row), .int Y.pl, .ref D])) (.ref u) (⟨Y.w, Y.st, rl rr Y.row, Y.pl, nmS (rl rs) z⟩ : Y5) := ⟨u, _, _, _, _, _, rfl, upd_same, rfl, rfl, rfl, rfl, ((iD.up g8.ff).up g8.fh).up sn⟩
          refine ne_dat i1 i2 ⟨_, rfl, ifF (by rw [decide_eq_true rfl]; rfl) ?_⟩
          exact ⟨_, _, _, _, _, _, _, _, _, _, _, _, _, _, _, _, _, _, _, rfl, fun c o h => sn _ _ (g8.fh _ _ (g8.ff _ _ (g7.ff _ _ (gU.ff _ _ (sG c o h)))))⟩
    · rintro σ G _
      exact q G

end
def all_tx {K : PySem.W.Frag} {h : Heap} {mg : Str → Option Value} {a_L_at a_L_purse a_L_mixed a_L_draw a_L_entry a_L_machine a_L_order a_L_named a_L_turned a_L_mirrored a_is_entry a_is_machine a_must_machine a_Walk_init a_most_setups a_through a_Walk_out a_Walk_place a_Walk_strip a_Walk_block a_by_blocks a_L_side a_L_runs a_Strip_init a_Strip_told a_put_run a_taken a_Strip_stride a_Strip_step a_by_strides a_L_copied a_L_runs_named a_L_same_strides a_law C_NoMachine C_Walk C_Strip : Addr} {od_L_at an_L_at od_L_purse an_L_purse od_L_mixed an_L_mixed od_L_draw an_L_draw od_L_entry an_L_entry od_L_machine an_L_machine od_L_order an_L_order od_L_named an_L_named od_L_turned an_L_turned od_L_mirrored an_L_mirrored od_is_entry an_is_entry od_is_machine an_is_machine od_must_machine an_must_machine od_Walk_init an_Walk_init od_most_setups an_most_setups od_through an_through od_Walk_out an_Walk_out od_Walk_place an_Walk_place od_Walk_strip an_Walk_strip od_Walk_block an_Walk_block od_by_blocks an_by_blocks od_L_side an_L_side od_L_runs an_L_runs od_Strip_init an_Strip_init od_Strip_told an_Strip_told od_put_run an_put_run od_taken an_taken od_Strip_stride an_Strip_stride od_Strip_step an_Strip_step od_by_strides an_by_strides od_L_copied an_L_copied od_L_runs_named an_L_runs_named od_L_same_strides an_L_same_strides od_law an_law : Option Addr} {sl_L_at sl_L_purse sl_L_mixed sl_L_draw sl_L_entry sl_L_machine sl_L_order sl_L_named sl_L_turned sl_L_mirrored sl_is_entry sl_is_machine sl_must_machine sl_Walk_init sl_most_setups sl_through sl_Walk_out sl_Walk_place sl_Walk_strip sl_Walk_block sl_by_blocks sl_L_side sl_L_runs sl_Strip_init sl_Strip_told sl_put_run sl_taken sl_Strip_stride sl_Strip_step sl_by_strides sl_L_copied sl_L_runs_named sl_L_same_strides sl_law : Array (Option Value)} {oc_L_at kV_L_at dc_L_at pm_L_at cd_L_at ct_L_at oc_L_purse kV_L_purse dc_L_purse pm_L_purse cd_L_purse ct_L_purse oc_L_mixed kV_L_mixed dc_L_mixed pm_L_mixed cd_L_mixed ct_L_mixed oc_L_draw kV_L_draw dc_L_draw pm_L_draw cd_L_draw ct_L_draw oc_L_entry kV_L_entry dc_L_entry pm_L_entry cd_L_entry ct_L_entry oc_L_machine kV_L_machine dc_L_machine pm_L_machine cd_L_machine ct_L_machine oc_L_order kV_L_order dc_L_order pm_L_order cd_L_order ct_L_order oc_L_named kV_L_named dc_L_named pm_L_named cd_L_named ct_L_named oc_L_turned kV_L_turned dc_L_turned pm_L_turned cd_L_turned ct_L_turned oc_L_mirrored kV_L_mirrored dc_L_mirrored pm_L_mirrored cd_L_mirrored ct_L_mirrored oc_is_entry kV_is_entry dc_is_entry pm_is_entry cd_is_entry ct_is_entry oc_is_machine kV_is_machine dc_is_machine pm_is_machine cd_is_machine ct_is_machine oc_must_machine kV_must_machine dc_must_machine pm_must_machine cd_must_machine ct_must_machine oc_Walk_init kV_Walk_init dc_Walk_init pm_Walk_init cd_Walk_init ct_Walk_init oc_most_setups kV_most_setups dc_most_setups pm_most_setups cd_most_setups ct_most_setups oc_through kV_through dc_through pm_through cd_through ct_through oc_Walk_out kV_Walk_out dc_Walk_out pm_Walk_out cd_Walk_out ct_Walk_out oc_Walk_place kV_Walk_place dc_Walk_place pm_Walk_place cd_Walk_place ct_Walk_place oc_Walk_strip kV_Walk_strip dc_Walk_strip pm_Walk_strip cd_Walk_strip ct_Walk_strip oc_Walk_block kV_Walk_block dc_Walk_block pm_Walk_block cd_Walk_block ct_Walk_block oc_by_blocks kV_by_blocks dc_by_blocks pm_by_blocks cd_by_blocks ct_by_blocks oc_L_side kV_L_side dc_L_side pm_L_side cd_L_side ct_L_side oc_L_runs kV_L_runs dc_L_runs pm_L_runs cd_L_runs ct_L_runs oc_Strip_init kV_Strip_init dc_Strip_init pm_Strip_init cd_Strip_init ct_Strip_init oc_Strip_told kV_Strip_told dc_Strip_told pm_Strip_told cd_Strip_told ct_Strip_told oc_put_run kV_put_run dc_put_run pm_put_run cd_put_run ct_put_run oc_taken kV_taken dc_taken pm_taken cd_taken ct_taken oc_Strip_stride kV_Strip_stride dc_Strip_stride pm_Strip_stride cd_Strip_stride ct_Strip_stride oc_Strip_step kV_Strip_step dc_Strip_step pm_Strip_step cd_Strip_step ct_Strip_step oc_by_strides kV_by_strides dc_by_strides pm_by_strides cd_by_strides ct_by_strides oc_L_copied kV_L_copied dc_L_copied pm_L_copied cd_L_copied ct_L_copied oc_L_runs_named kV_L_runs_named dc_L_runs_named pm_L_runs_named cd_L_runs_named ct_L_runs_named oc_L_same_strides kV_L_same_strides dc_L_same_strides pm_L_same_strides cd_L_same_strides ct_L_same_strides oc_law kV_law dc_law pm_law cd_law ct_law : Value} {tk_MOST_ROWS tk_MOST_SIGNS : Tok} (X : K.In h) (G : h.Ns mainGlobals mg)
    (n_NoMachine : PySem.W.nsIn K mainGlobals "NoMachine" = some (some (.ref C_NoMachine)))
    (n_Walk : PySem.W.nsIn K mainGlobals "Walk" = some (some (.ref C_Walk)))
    (n_Strip : PySem.W.nsIn K mainGlobals "Strip" = some (some (.ref C_Strip)))
    (n_L_at : PySem.W.nsIn K mainGlobals "_law_at" = some (some (.ref a_L_at)))
    (l_L_at : K.lookup a_L_at = some ⟨oc_L_at, od_L_at, .func (PySem.W.fnOf "_law_at" "_law_at" (defArgs s_L_at) (defBody s_L_at) (defScope s_L_at) .none kV_L_at dc_L_at pm_L_at an_L_at cd_L_at ct_L_at), sl_L_at⟩)
    (c_L_at : PySem.W.codeIn K cd_L_at "_law_at" = true)
    (k_L_at : PySem.W.keepIn K (.ref a_L_at) = true)
    (n_L_purse : PySem.W.nsIn K mainGlobals "_law_purse" = some (some (.ref a_L_purse)))
    (l_L_purse : K.lookup a_L_purse = some ⟨oc_L_purse, od_L_purse, .func (PySem.W.fnOf "_law_purse" "_law_purse" (defArgs s_L_purse) (defBody s_L_purse) (defScope s_L_purse) .none kV_L_purse dc_L_purse pm_L_purse an_L_purse cd_L_purse ct_L_purse), sl_L_purse⟩)
    (c_L_purse : PySem.W.codeIn K cd_L_purse "_law_purse" = true)
    (k_L_purse : PySem.W.keepIn K (.ref a_L_purse) = true)
    (n_L_mixed : PySem.W.nsIn K mainGlobals "_law_mixed" = some (some (.ref a_L_mixed)))
    (l_L_mixed : K.lookup a_L_mixed = some ⟨oc_L_mixed, od_L_mixed, .func (PySem.W.fnOf "_law_mixed" "_law_mixed" (defArgs s_L_mixed) (defBody s_L_mixed) (defScope s_L_mixed) .none kV_L_mixed dc_L_mixed pm_L_mixed an_L_mixed cd_L_mixed ct_L_mixed), sl_L_mixed⟩)
    (c_L_mixed : PySem.W.codeIn K cd_L_mixed "_law_mixed" = true)
    (k_L_mixed : PySem.W.keepIn K (.ref a_L_mixed) = true)
    (n_L_draw : PySem.W.nsIn K mainGlobals "_law_draw" = some (some (.ref a_L_draw)))
    (l_L_draw : K.lookup a_L_draw = some ⟨oc_L_draw, od_L_draw, .func (PySem.W.fnOf "_law_draw" "_law_draw" (defArgs s_L_draw) (defBody s_L_draw) (defScope s_L_draw) .none kV_L_draw dc_L_draw pm_L_draw an_L_draw cd_L_draw ct_L_draw), sl_L_draw⟩)
    (c_L_draw : PySem.W.codeIn K cd_L_draw "_law_draw" = true)
    (k_L_draw : PySem.W.keepIn K (.ref a_L_draw) = true)
    (n_L_entry : PySem.W.nsIn K mainGlobals "_law_entry" = some (some (.ref a_L_entry)))
    (l_L_entry : K.lookup a_L_entry = some ⟨oc_L_entry, od_L_entry, .func (PySem.W.fnOf "_law_entry" "_law_entry" (defArgs s_L_entry) (defBody s_L_entry) (defScope s_L_entry) .none kV_L_entry dc_L_entry pm_L_entry an_L_entry cd_L_entry ct_L_entry), sl_L_entry⟩)
    (c_L_entry : PySem.W.codeIn K cd_L_entry "_law_entry" = true)
    (k_L_entry : PySem.W.keepIn K (.ref a_L_entry) = true)
    (n_L_machine : PySem.W.nsIn K mainGlobals "_law_machine" = some (some (.ref a_L_machine)))
    (l_L_machine : K.lookup a_L_machine = some ⟨oc_L_machine, od_L_machine, .func (PySem.W.fnOf "_law_machine" "_law_machine" (defArgs s_L_machine) (defBody s_L_machine) (defScope s_L_machine) .none kV_L_machine dc_L_machine pm_L_machine an_L_machine cd_L_machine ct_L_machine), sl_L_machine⟩)
    (c_L_machine : PySem.W.codeIn K cd_L_machine "_law_machine" = true)
    (k_L_machine : PySem.W.keepIn K (.ref a_L_machine) = true)
    (n_L_order : PySem.W.nsIn K mainGlobals "_law_order" = some (some (.ref a_L_order)))
    (l_L_order : K.lookup a_L_order = some ⟨oc_L_order, od_L_order, .func (PySem.W.fnOf "_law_order" "_law_order" (defArgs s_L_order) (defBody s_L_order) (defScope s_L_order) .none kV_L_order dc_L_order pm_L_order an_L_order cd_L_order ct_L_order), sl_L_order⟩)
    (c_L_order : PySem.W.codeIn K cd_L_order "_law_order" = true)
    (k_L_order : PySem.W.keepIn K (.ref a_L_order) = true)
    (n_L_named : PySem.W.nsIn K mainGlobals "_law_named" = some (some (.ref a_L_named)))
    (l_L_named : K.lookup a_L_named = some ⟨oc_L_named, od_L_named, .func (PySem.W.fnOf "_law_named" "_law_named" (defArgs s_L_named) (defBody s_L_named) (defScope s_L_named) .none kV_L_named dc_L_named pm_L_named an_L_named cd_L_named ct_L_named), sl_L_named⟩)
    (c_L_named : PySem.W.codeIn K cd_L_named "_law_named" = true)
    (k_L_named : PySem.W.keepIn K (.ref a_L_named) = true)
    (n_L_turned : PySem.W.nsIn K mainGlobals "_law_turned" = some (some (.ref a_L_turned)))
    (l_L_turned : K.lookup a_L_turned = some ⟨oc_L_turned, od_L_turned, .func (PySem.W.fnOf "_law_turned" "_law_turned" (defArgs s_L_turned) (defBody s_L_turned) (defScope s_L_turned) .none kV_L_turned dc_L_turned pm_L_turned an_L_turned cd_L_turned ct_L_turned), sl_L_turned⟩)
    (c_L_turned : PySem.W.codeIn K cd_L_turned "_law_turned" = true)
    (k_L_turned : PySem.W.keepIn K (.ref a_L_turned) = true)
    (n_L_mirrored : PySem.W.nsIn K mainGlobals "_law_mirrored" = some (some (.ref a_L_mirrored)))
    (l_L_mirrored : K.lookup a_L_mirrored = some ⟨oc_L_mirrored, od_L_mirrored, .func (PySem.W.fnOf "_law_mirrored" "_law_mirrored" (defArgs s_L_mirrored) (defBody s_L_mirrored) (defScope s_L_mirrored) .none kV_L_mirrored dc_L_mirrored pm_L_mirrored an_L_mirrored cd_L_mirrored ct_L_mirrored), sl_L_mirrored⟩)
    (c_L_mirrored : PySem.W.codeIn K cd_L_mirrored "_law_mirrored" = true)
    (k_L_mirrored : PySem.W.keepIn K (.ref a_L_mirrored) = true)
    (n_is_entry : PySem.W.nsIn K mainGlobals "is_entry" = some (some (.ref a_is_entry)))
    (l_is_entry : K.lookup a_is_entry = some ⟨oc_is_entry, od_is_entry, .func (PySem.W.fnOf "is_entry" "is_entry" (defArgs s_is_entry) (defBody s_is_entry) (defScope s_is_entry) .none kV_is_entry dc_is_entry pm_is_entry an_is_entry cd_is_entry ct_is_entry), sl_is_entry⟩)
    (c_is_entry : PySem.W.codeIn K cd_is_entry "is_entry" = true)
    (k_is_entry : PySem.W.keepIn K (.ref a_is_entry) = true)
    (n_is_machine : PySem.W.nsIn K mainGlobals "is_machine" = some (some (.ref a_is_machine)))
    (l_is_machine : K.lookup a_is_machine = some ⟨oc_is_machine, od_is_machine, .func (PySem.W.fnOf "is_machine" "is_machine" (defArgs s_is_machine) (defBody s_is_machine) (defScope s_is_machine) .none kV_is_machine dc_is_machine pm_is_machine an_is_machine cd_is_machine ct_is_machine), sl_is_machine⟩)
    (c_is_machine : PySem.W.codeIn K cd_is_machine "is_machine" = true)
    (k_is_machine : PySem.W.keepIn K (.ref a_is_machine) = true)
    (n_must_machine : PySem.W.nsIn K mainGlobals "must_machine" = some (some (.ref a_must_machine)))
    (l_must_machine : K.lookup a_must_machine = some ⟨oc_must_machine, od_must_machine, .func (PySem.W.fnOf "must_machine" "must_machine" (defArgs s_must_machine) (defBody s_must_machine) (defScope s_must_machine) .none kV_must_machine dc_must_machine pm_must_machine an_must_machine cd_must_machine ct_must_machine), sl_must_machine⟩)
    (c_must_machine : PySem.W.codeIn K cd_must_machine "must_machine" = true)
    (k_must_machine : PySem.W.keepIn K (.ref a_must_machine) = true)
    (n_Walk_init : PySem.W.findIn K (.ref C_Walk) "__init__" = some (some (.ref a_Walk_init)))
    (i_Walk_init : PySem.W.isFn K (.ref a_Walk_init) = true)
    (l_Walk_init : K.lookup a_Walk_init = some ⟨oc_Walk_init, od_Walk_init, .func (PySem.W.fnOf "__init__" "Walk.__init__" (defArgs s_Walk_init) (defBody s_Walk_init) (defScope s_Walk_init) .none kV_Walk_init dc_Walk_init pm_Walk_init an_Walk_init cd_Walk_init ct_Walk_init), sl_Walk_init⟩)
    (c_Walk_init : PySem.W.codeIn K cd_Walk_init "Walk.__init__" = true)
    (k_Walk_init : PySem.W.keepIn K (.ref a_Walk_init) = true)
    (n_most_setups : PySem.W.nsIn K mainGlobals "most_setups" = some (some (.ref a_most_setups)))
    (l_most_setups : K.lookup a_most_setups = some ⟨oc_most_setups, od_most_setups, .func (PySem.W.fnOf "most_setups" "most_setups" (defArgs s_most_setups) (defBody s_most_setups) (defScope s_most_setups) .none kV_most_setups dc_most_setups pm_most_setups an_most_setups cd_most_setups ct_most_setups), sl_most_setups⟩)
    (c_most_setups : PySem.W.codeIn K cd_most_setups "most_setups" = true)
    (k_most_setups : PySem.W.keepIn K (.ref a_most_setups) = true)
    (n_through : PySem.W.nsIn K mainGlobals "through" = some (some (.ref a_through)))
    (l_through : K.lookup a_through = some ⟨oc_through, od_through, .func (PySem.W.fnOf "through" "through" (defArgs s_through) (defBody s_through) (defScope s_through) .none kV_through dc_through pm_through an_through cd_through ct_through), sl_through⟩)
    (c_through : PySem.W.codeIn K cd_through "through" = true)
    (k_through : PySem.W.keepIn K (.ref a_through) = true)
    (n_Walk_out : PySem.W.findIn K (.ref C_Walk) "out" = some (some (.ref a_Walk_out)))
    (i_Walk_out : PySem.W.isFn K (.ref a_Walk_out) = true)
    (l_Walk_out : K.lookup a_Walk_out = some ⟨oc_Walk_out, od_Walk_out, .func (PySem.W.fnOf "out" "Walk.out" (defArgs s_Walk_out) (defBody s_Walk_out) (defScope s_Walk_out) .none kV_Walk_out dc_Walk_out pm_Walk_out an_Walk_out cd_Walk_out ct_Walk_out), sl_Walk_out⟩)
    (c_Walk_out : PySem.W.codeIn K cd_Walk_out "Walk.out" = true)
    (k_Walk_out : PySem.W.keepIn K (.ref a_Walk_out) = true)
    (n_Walk_place : PySem.W.findIn K (.ref C_Walk) "place" = some (some (.ref a_Walk_place)))
    (i_Walk_place : PySem.W.isFn K (.ref a_Walk_place) = true)
    (l_Walk_place : K.lookup a_Walk_place = some ⟨oc_Walk_place, od_Walk_place, .func (PySem.W.fnOf "place" "Walk.place" (defArgs s_Walk_place) (defBody s_Walk_place) (defScope s_Walk_place) .none kV_Walk_place dc_Walk_place pm_Walk_place an_Walk_place cd_Walk_place ct_Walk_place), sl_Walk_place⟩)
    (c_Walk_place : PySem.W.codeIn K cd_Walk_place "Walk.place" = true)
    (k_Walk_place : PySem.W.keepIn K (.ref a_Walk_place) = true)
    (n_Walk_strip : PySem.W.findIn K (.ref C_Walk) "strip" = some (some (.ref a_Walk_strip)))
    (i_Walk_strip : PySem.W.isFn K (.ref a_Walk_strip) = true)
    (l_Walk_strip : K.lookup a_Walk_strip = some ⟨oc_Walk_strip, od_Walk_strip, .func (PySem.W.fnOf "strip" "Walk.strip" (defArgs s_Walk_strip) (defBody s_Walk_strip) (defScope s_Walk_strip) .none kV_Walk_strip dc_Walk_strip pm_Walk_strip an_Walk_strip cd_Walk_strip ct_Walk_strip), sl_Walk_strip⟩)
    (c_Walk_strip : PySem.W.codeIn K cd_Walk_strip "Walk.strip" = true)
    (k_Walk_strip : PySem.W.keepIn K (.ref a_Walk_strip) = true)
    (n_Walk_block : PySem.W.findIn K (.ref C_Walk) "block" = some (some (.ref a_Walk_block)))
    (i_Walk_block : PySem.W.isFn K (.ref a_Walk_block) = true)
    (l_Walk_block : K.lookup a_Walk_block = some ⟨oc_Walk_block, od_Walk_block, .func (PySem.W.fnOf "block" "Walk.block" (defArgs s_Walk_block) (defBody s_Walk_block) (defScope s_Walk_block) .none kV_Walk_block dc_Walk_block pm_Walk_block an_Walk_block cd_Walk_block ct_Walk_block), sl_Walk_block⟩)
    (c_Walk_block : PySem.W.codeIn K cd_Walk_block "Walk.block" = true)
    (k_Walk_block : PySem.W.keepIn K (.ref a_Walk_block) = true)
    (n_by_blocks : PySem.W.nsIn K mainGlobals "by_blocks" = some (some (.ref a_by_blocks)))
    (l_by_blocks : K.lookup a_by_blocks = some ⟨oc_by_blocks, od_by_blocks, .func (PySem.W.fnOf "by_blocks" "by_blocks" (defArgs s_by_blocks) (defBody s_by_blocks) (defScope s_by_blocks) .none kV_by_blocks dc_by_blocks pm_by_blocks an_by_blocks cd_by_blocks ct_by_blocks), sl_by_blocks⟩)
    (c_by_blocks : PySem.W.codeIn K cd_by_blocks "by_blocks" = true)
    (k_by_blocks : PySem.W.keepIn K (.ref a_by_blocks) = true)
    (n_L_side : PySem.W.nsIn K mainGlobals "_law_side" = some (some (.ref a_L_side)))
    (l_L_side : K.lookup a_L_side = some ⟨oc_L_side, od_L_side, .func (PySem.W.fnOf "_law_side" "_law_side" (defArgs s_L_side) (defBody s_L_side) (defScope s_L_side) .none kV_L_side dc_L_side pm_L_side an_L_side cd_L_side ct_L_side), sl_L_side⟩)
    (c_L_side : PySem.W.codeIn K cd_L_side "_law_side" = true)
    (k_L_side : PySem.W.keepIn K (.ref a_L_side) = true)
    (n_L_runs : PySem.W.nsIn K mainGlobals "_law_runs" = some (some (.ref a_L_runs)))
    (l_L_runs : K.lookup a_L_runs = some ⟨oc_L_runs, od_L_runs, .func (PySem.W.fnOf "_law_runs" "_law_runs" (defArgs s_L_runs) (defBody s_L_runs) (defScope s_L_runs) .none kV_L_runs dc_L_runs pm_L_runs an_L_runs cd_L_runs ct_L_runs), sl_L_runs⟩)
    (c_L_runs : PySem.W.codeIn K cd_L_runs "_law_runs" = true)
    (k_L_runs : PySem.W.keepIn K (.ref a_L_runs) = true)
    (n_Strip_init : PySem.W.findIn K (.ref C_Strip) "__init__" = some (some (.ref a_Strip_init)))
    (i_Strip_init : PySem.W.isFn K (.ref a_Strip_init) = true)
    (l_Strip_init : K.lookup a_Strip_init = some ⟨oc_Strip_init, od_Strip_init, .func (PySem.W.fnOf "__init__" "Strip.__init__" (defArgs s_Strip_init) (defBody s_Strip_init) (defScope s_Strip_init) .none kV_Strip_init dc_Strip_init pm_Strip_init an_Strip_init cd_Strip_init ct_Strip_init), sl_Strip_init⟩)
    (c_Strip_init : PySem.W.codeIn K cd_Strip_init "Strip.__init__" = true)
    (k_Strip_init : PySem.W.keepIn K (.ref a_Strip_init) = true)
    (n_Strip_told : PySem.W.findIn K (.ref C_Strip) "told" = some (some (.ref a_Strip_told)))
    (i_Strip_told : PySem.W.isFn K (.ref a_Strip_told) = true)
    (l_Strip_told : K.lookup a_Strip_told = some ⟨oc_Strip_told, od_Strip_told, .func (PySem.W.fnOf "told" "Strip.told" (defArgs s_Strip_told) (defBody s_Strip_told) (defScope s_Strip_told) .none kV_Strip_told dc_Strip_told pm_Strip_told an_Strip_told cd_Strip_told ct_Strip_told), sl_Strip_told⟩)
    (c_Strip_told : PySem.W.codeIn K cd_Strip_told "Strip.told" = true)
    (k_Strip_told : PySem.W.keepIn K (.ref a_Strip_told) = true)
    (n_put_run : PySem.W.nsIn K mainGlobals "put_run" = some (some (.ref a_put_run)))
    (l_put_run : K.lookup a_put_run = some ⟨oc_put_run, od_put_run, .func (PySem.W.fnOf "put_run" "put_run" (defArgs s_put_run) (defBody s_put_run) (defScope s_put_run) .none kV_put_run dc_put_run pm_put_run an_put_run cd_put_run ct_put_run), sl_put_run⟩)
    (c_put_run : PySem.W.codeIn K cd_put_run "put_run" = true)
    (k_put_run : PySem.W.keepIn K (.ref a_put_run) = true)
    (n_taken : PySem.W.nsIn K mainGlobals "taken" = some (some (.ref a_taken)))
    (l_taken : K.lookup a_taken = some ⟨oc_taken, od_taken, .func (PySem.W.fnOf "taken" "taken" (defArgs s_taken) (defBody s_taken) (defScope s_taken) .none kV_taken dc_taken pm_taken an_taken cd_taken ct_taken), sl_taken⟩)
    (c_taken : PySem.W.codeIn K cd_taken "taken" = true)
    (k_taken : PySem.W.keepIn K (.ref a_taken) = true)
    (n_Strip_stride : PySem.W.findIn K (.ref C_Strip) "stride" = some (some (.ref a_Strip_stride)))
    (i_Strip_stride : PySem.W.isFn K (.ref a_Strip_stride) = true)
    (l_Strip_stride : K.lookup a_Strip_stride = some ⟨oc_Strip_stride, od_Strip_stride, .func (PySem.W.fnOf "stride" "Strip.stride" (defArgs s_Strip_stride) (defBody s_Strip_stride) (defScope s_Strip_stride) .none kV_Strip_stride dc_Strip_stride pm_Strip_stride an_Strip_stride cd_Strip_stride ct_Strip_stride), sl_Strip_stride⟩)
    (c_Strip_stride : PySem.W.codeIn K cd_Strip_stride "Strip.stride" = true)
    (k_Strip_stride : PySem.W.keepIn K (.ref a_Strip_stride) = true)
    (n_Strip_step : PySem.W.findIn K (.ref C_Strip) "step" = some (some (.ref a_Strip_step)))
    (i_Strip_step : PySem.W.isFn K (.ref a_Strip_step) = true)
    (l_Strip_step : K.lookup a_Strip_step = some ⟨oc_Strip_step, od_Strip_step, .func (PySem.W.fnOf "step" "Strip.step" (defArgs s_Strip_step) (defBody s_Strip_step) (defScope s_Strip_step) .none kV_Strip_step dc_Strip_step pm_Strip_step an_Strip_step cd_Strip_step ct_Strip_step), sl_Strip_step⟩)
    (c_Strip_step : PySem.W.codeIn K cd_Strip_step "Strip.step" = true)
    (k_Strip_step : PySem.W.keepIn K (.ref a_Strip_step) = true)
    (n_by_strides : PySem.W.nsIn K mainGlobals "by_strides" = some (some (.ref a_by_strides)))
    (l_by_strides : K.lookup a_by_strides = some ⟨oc_by_strides, od_by_strides, .func (PySem.W.fnOf "by_strides" "by_strides" (defArgs s_by_strides) (defBody s_by_strides) (defScope s_by_strides) .none kV_by_strides dc_by_strides pm_by_strides an_by_strides cd_by_strides ct_by_strides), sl_by_strides⟩)
    (c_by_strides : PySem.W.codeIn K cd_by_strides "by_strides" = true)
    (k_by_strides : PySem.W.keepIn K (.ref a_by_strides) = true)
    (n_L_copied : PySem.W.nsIn K mainGlobals "_law_copied" = some (some (.ref a_L_copied)))
    (l_L_copied : K.lookup a_L_copied = some ⟨oc_L_copied, od_L_copied, .func (PySem.W.fnOf "_law_copied" "_law_copied" (defArgs s_L_copied) (defBody s_L_copied) (defScope s_L_copied) .none kV_L_copied dc_L_copied pm_L_copied an_L_copied cd_L_copied ct_L_copied), sl_L_copied⟩)
    (c_L_copied : PySem.W.codeIn K cd_L_copied "_law_copied" = true)
    (k_L_copied : PySem.W.keepIn K (.ref a_L_copied) = true)
    (n_L_runs_named : PySem.W.nsIn K mainGlobals "_law_runs_named" = some (some (.ref a_L_runs_named)))
    (l_L_runs_named : K.lookup a_L_runs_named = some ⟨oc_L_runs_named, od_L_runs_named, .func (PySem.W.fnOf "_law_runs_named" "_law_runs_named" (defArgs s_L_runs_named) (defBody s_L_runs_named) (defScope s_L_runs_named) .none kV_L_runs_named dc_L_runs_named pm_L_runs_named an_L_runs_named cd_L_runs_named ct_L_runs_named), sl_L_runs_named⟩)
    (c_L_runs_named : PySem.W.codeIn K cd_L_runs_named "_law_runs_named" = true)
    (k_L_runs_named : PySem.W.keepIn K (.ref a_L_runs_named) = true)
    (n_L_same_strides : PySem.W.nsIn K mainGlobals "_law_same_strides" = some (some (.ref a_L_same_strides)))
    (l_L_same_strides : K.lookup a_L_same_strides = some ⟨oc_L_same_strides, od_L_same_strides, .func (PySem.W.fnOf "_law_same_strides" "_law_same_strides" (defArgs s_L_same_strides) (defBody s_L_same_strides) (defScope s_L_same_strides) .none kV_L_same_strides dc_L_same_strides pm_L_same_strides an_L_same_strides cd_L_same_strides ct_L_same_strides), sl_L_same_strides⟩)
    (c_L_same_strides : PySem.W.codeIn K cd_L_same_strides "_law_same_strides" = true)
    (k_L_same_strides : PySem.W.keepIn K (.ref a_L_same_strides) = true)
    (n_law : PySem.W.nsIn K mainGlobals "law" = some (some (.ref a_law)))
    (l_law : K.lookup a_law = some ⟨oc_law, od_law, .func (PySem.W.fnOf "law" "law" (defArgs s_law) (defBody s_law) (defScope s_law) .none kV_law dc_law pm_law an_law cd_law ct_law), sl_law⟩)
    (c_law : PySem.W.codeIn K cd_law "law" = true)
    (k_law : PySem.W.keepIn K (.ref a_law) = true)
    (pg_Walk : PySem.W.plainGet K C_Walk Str.empty = true)
    (hd_Walk : PySem.W.hasDictIn K C_Walk = true)
    (po_Walk : PySem.W.plainOver K C_Walk = true)
    (sa_Walk : PySem.W.findIn K (.ref C_Walk) "__setattr__" = some (some (.builtin "object.__setattr__")))
    (mk_Walk : PySem.W.makesIn K C_Walk = true)
    (kc_Walk : PySem.W.keepIn K (.ref C_Walk) = true)
    (f_Walk_long : PySem.W.findIn K (.ref C_Walk) "long" = some none)
    (f_Walk_blocks : PySem.W.findIn K (.ref C_Walk) "blocks" = some none)
    (f_Walk_at : PySem.W.findIn K (.ref C_Walk) "at" = some none)
    (f_Walk_row : PySem.W.findIn K (.ref C_Walk) "row" = some none)
    (f_Walk_side : PySem.W.findIn K (.ref C_Walk) "side" = some none)
    (f_Walk_steps : PySem.W.findIn K (.ref C_Walk) "steps" = some none)
    (pg_Strip : PySem.W.plainGet K C_Strip Str.empty = true)
    (hd_Strip : PySem.W.hasDictIn K C_Strip = true)
    (po_Strip : PySem.W.plainOver K C_Strip = true)
    (sa_Strip : PySem.W.findIn K (.ref C_Strip) "__setattr__" = some (some (.builtin "object.__setattr__")))
    (mk_Strip : PySem.W.makesIn K C_Strip = true)
    (kc_Strip : PySem.W.keepIn K (.ref C_Strip) = true)
    (f_Strip_sides : PySem.W.findIn K (.ref C_Strip) "sides" = some none)
    (f_Strip_sign : PySem.W.findIn K (.ref C_Strip) "sign" = some none)
    (f_Strip_row : PySem.W.findIn K (.ref C_Strip) "row" = some none)
    (f_Strip_steps : PySem.W.findIn K (.ref C_Strip) "steps" = some none)
    (n_MOST_ROWS : PySem.W.nsIn K mainGlobals "MOST_ROWS" = some (some (.int 4 tk_MOST_ROWS)))
    (n_MOST_SIGNS : PySem.W.nsIn K mainGlobals "MOST_SIGNS" = some (some (.int 4 tk_MOST_SIGNS)))
    (z_len : PySem.W.nsIn K mainGlobals "len" = some none)
    (z_max : PySem.W.nsIn K mainGlobals "max" = some none)
    (z_int : PySem.W.nsIn K mainGlobals "int" = some none)
    (z_range : PySem.W.nsIn K mainGlobals "range" = some none)
    (z_all : PySem.W.nsIn K mainGlobals "all" = some none)
    (z_list : PySem.W.nsIn K mainGlobals "list" = some none)
    (z_tuple : PySem.W.nsIn K mainGlobals "tuple" = some none)
    (z_sorted : PySem.W.nsIn K mainGlobals "sorted" = some none)
    (z_enumerate : PySem.W.nsIn K mainGlobals "enumerate" = some none) : Tx K mg where
  a_L_at := a_L_at
  fd_L_at := PySem.W.fnOf "_law_at" "_law_at" (defArgs s_L_at) (defBody s_L_at) (defScope s_L_at) .none kV_L_at dc_L_at pm_L_at an_L_at cd_L_at ct_L_at
  F_L_at := fun_mk l_L_at c_L_at k_L_at
  b_L_at := (fun_mk (st := s_L_at) l_L_at c_L_at k_L_at).binds (ps := ["_law_script", "_law_k"]) fun _ _ _ _ _ _ us hl => match us, hl with | [_, _], _ => rfl
  m_L_at := PySem.W.mg_of X G n_L_at
  a_L_purse := a_L_purse
  fd_L_purse := PySem.W.fnOf "_law_purse" "_law_purse" (defArgs s_L_purse) (defBody s_L_purse) (defScope s_L_purse) .none kV_L_purse dc_L_purse pm_L_purse an_L_purse cd_L_purse ct_L_purse
  F_L_purse := fun_mk l_L_purse c_L_purse k_L_purse
  b_L_purse := (fun_mk (st := s_L_purse) l_L_purse c_L_purse k_L_purse).binds (ps := ["_law_script", "_law_at_here"]) fun _ _ _ _ _ _ us hl => match us, hl with | [_, _], _ => rfl
  m_L_purse := PySem.W.mg_of X G n_L_purse
  a_L_mixed := a_L_mixed
  fd_L_mixed := PySem.W.fnOf "_law_mixed" "_law_mixed" (defArgs s_L_mixed) (defBody s_L_mixed) (defScope s_L_mixed) .none kV_L_mixed dc_L_mixed pm_L_mixed an_L_mixed cd_L_mixed ct_L_mixed
  F_L_mixed := fun_mk l_L_mixed c_L_mixed k_L_mixed
  b_L_mixed := (fun_mk (st := s_L_mixed) l_L_mixed c_L_mixed k_L_mixed).binds (ps := ["_law_cell", "_law_k"]) fun _ _ _ _ _ _ us hl => match us, hl with | [_, _], _ => rfl
  m_L_mixed := PySem.W.mg_of X G n_L_mixed
  a_L_draw := a_L_draw
  fd_L_draw := PySem.W.fnOf "_law_draw" "_law_draw" (defArgs s_L_draw) (defBody s_L_draw) (defScope s_L_draw) .none kV_L_draw dc_L_draw pm_L_draw an_L_draw cd_L_draw ct_L_draw
  F_L_draw := fun_mk l_L_draw c_L_draw k_L_draw
  b_L_draw := (fun_mk (st := s_L_draw) l_L_draw c_L_draw k_L_draw).binds (ps := ["_law_purse_here", "_law_out_of"]) fun _ _ _ _ _ _ us hl => match us, hl with | [_, _], _ => rfl
  m_L_draw := PySem.W.mg_of X G n_L_draw
  a_L_entry := a_L_entry
  fd_L_entry := PySem.W.fnOf "_law_entry" "_law_entry" (defArgs s_L_entry) (defBody s_L_entry) (defScope s_L_entry) .none kV_L_entry dc_L_entry pm_L_entry an_L_entry cd_L_entry ct_L_entry
  F_L_entry := fun_mk l_L_entry c_L_entry k_L_entry
  b_L_entry := (fun_mk (st := s_L_entry) l_L_entry c_L_entry k_L_entry).binds (ps := ["_law_purse_here", "_law_rows", "_law_signs", "_law_row", "_law_few"]) fun _ _ _ _ _ _ us hl => match us, hl with | [_, _, _, _, _], _ => rfl
  m_L_entry := PySem.W.mg_of X G n_L_entry
  a_L_machine := a_L_machine
  fd_L_machine := PySem.W.fnOf "_law_machine" "_law_machine" (defArgs s_L_machine) (defBody s_L_machine) (defScope s_L_machine) .none kV_L_machine dc_L_machine pm_L_machine an_L_machine cd_L_machine ct_L_machine
  F_L_machine := fun_mk l_L_machine c_L_machine k_L_machine
  b_L_machine := (fun_mk (st := s_L_machine) l_L_machine c_L_machine k_L_machine).binds (ps := ["_law_purse_here"]) fun _ _ _ _ _ _ us hl => match us, hl with | [_], _ => rfl
  m_L_machine := PySem.W.mg_of X G n_L_machine
  a_L_order := a_L_order
  fd_L_order := PySem.W.fnOf "_law_order" "_law_order" (defArgs s_L_order) (defBody s_L_order) (defScope s_L_order) .none kV_L_order dc_L_order pm_L_order an_L_order cd_L_order ct_L_order
  F_L_order := fun_mk l_L_order c_L_order k_L_order
  b_L_order := (fun_mk (st := s_L_order) l_L_order c_L_order k_L_order).binds (ps := ["_law_purse_here", "_law_many"]) fun _ _ _ _ _ _ us hl => match us, hl with | [_, _], _ => rfl
  m_L_order := PySem.W.mg_of X G n_L_order
  a_L_named := a_L_named
  fd_L_named := PySem.W.fnOf "_law_named" "_law_named" (defArgs s_L_named) (defBody s_L_named) (defScope s_L_named) .none kV_L_named dc_L_named pm_L_named an_L_named cd_L_named ct_L_named
  F_L_named := fun_mk l_L_named c_L_named k_L_named
  b_L_named := (fun_mk (st := s_L_named) l_L_named c_L_named k_L_named).binds (ps := ["_law_machine_here", "_law_rows", "_law_signs"]) fun _ _ _ _ _ _ us hl => match us, hl with | [_, _, _], _ => rfl
  m_L_named := PySem.W.mg_of X G n_L_named
  a_L_turned := a_L_turned
  fd_L_turned := PySem.W.fnOf "_law_turned" "_law_turned" (defArgs s_L_turned) (defBody s_L_turned) (defScope s_L_turned) .none kV_L_turned dc_L_turned pm_L_turned an_L_turned cd_L_turned ct_L_turned
  F_L_turned := fun_mk l_L_turned c_L_turned k_L_turned
  b_L_turned := (fun_mk (st := s_L_turned) l_L_turned c_L_turned k_L_turned).binds (ps := ["_law_entry_here"]) fun _ _ _ _ _ _ us hl => match us, hl with | [_], _ => rfl
  m_L_turned := PySem.W.mg_of X G n_L_turned
  a_L_mirrored := a_L_mirrored
  fd_L_mirrored := PySem.W.fnOf "_law_mirrored" "_law_mirrored" (defArgs s_L_mirrored) (defBody s_L_mirrored) (defScope s_L_mirrored) .none kV_L_mirrored dc_L_mirrored pm_L_mirrored an_L_mirrored cd_L_mirrored ct_L_mirrored
  F_L_mirrored := fun_mk l_L_mirrored c_L_mirrored k_L_mirrored
  b_L_mirrored := (fun_mk (st := s_L_mirrored) l_L_mirrored c_L_mirrored k_L_mirrored).binds (ps := ["_law_machine_here"]) fun _ _ _ _ _ _ us hl => match us, hl with | [_], _ => rfl
  m_L_mirrored := PySem.W.mg_of X G n_L_mirrored
  a_is_entry := a_is_entry
  fd_is_entry := PySem.W.fnOf "is_entry" "is_entry" (defArgs s_is_entry) (defBody s_is_entry) (defScope s_is_entry) .none kV_is_entry dc_is_entry pm_is_entry an_is_entry cd_is_entry ct_is_entry
  F_is_entry := fun_mk l_is_entry c_is_entry k_is_entry
  b_is_entry := (fun_mk (st := s_is_entry) l_is_entry c_is_entry k_is_entry).binds (ps := ["entry", "rows", "signs"]) fun _ _ _ _ _ _ us hl => match us, hl with | [_, _, _], _ => rfl
  m_is_entry := PySem.W.mg_of X G n_is_entry
  a_is_machine := a_is_machine
  fd_is_machine := PySem.W.fnOf "is_machine" "is_machine" (defArgs s_is_machine) (defBody s_is_machine) (defScope s_is_machine) .none kV_is_machine dc_is_machine pm_is_machine an_is_machine cd_is_machine ct_is_machine
  F_is_machine := fun_mk l_is_machine c_is_machine k_is_machine
  b_is_machine := (fun_mk (st := s_is_machine) l_is_machine c_is_machine k_is_machine).binds (ps := ["machine"]) fun _ _ _ _ _ _ us hl => match us, hl with | [_], _ => rfl
  m_is_machine := PySem.W.mg_of X G n_is_machine
  a_must_machine := a_must_machine
  fd_must_machine := PySem.W.fnOf "must_machine" "must_machine" (defArgs s_must_machine) (defBody s_must_machine) (defScope s_must_machine) .none kV_must_machine dc_must_machine pm_must_machine an_must_machine cd_must_machine ct_must_machine
  F_must_machine := fun_mk l_must_machine c_must_machine k_must_machine
  b_must_machine := (fun_mk (st := s_must_machine) l_must_machine c_must_machine k_must_machine).binds (ps := ["machine"]) fun _ _ _ _ _ _ us hl => match us, hl with | [_], _ => rfl
  m_must_machine := PySem.W.mg_of X G n_must_machine
  a_Walk_init := a_Walk_init
  fd_Walk_init := PySem.W.fnOf "__init__" "Walk.__init__" (defArgs s_Walk_init) (defBody s_Walk_init) (defScope s_Walk_init) .none kV_Walk_init dc_Walk_init pm_Walk_init an_Walk_init cd_Walk_init ct_Walk_init
  F_Walk_init := fun_mk l_Walk_init c_Walk_init k_Walk_init
  b_Walk_init := (fun_mk (st := s_Walk_init) l_Walk_init c_Walk_init k_Walk_init).binds (ps := ["self", "long"]) fun _ _ _ _ _ _ us hl => match us, hl with | [_, _], _ => rfl
  a_most_setups := a_most_setups
  fd_most_setups := PySem.W.fnOf "most_setups" "most_setups" (defArgs s_most_setups) (defBody s_most_setups) (defScope s_most_setups) .none kV_most_setups dc_most_setups pm_most_setups an_most_setups cd_most_setups ct_most_setups
  F_most_setups := fun_mk l_most_setups c_most_setups k_most_setups
  b_most_setups := (fun_mk (st := s_most_setups) l_most_setups c_most_setups k_most_setups).binds (ps := ["machine", "block"]) fun _ _ _ _ _ _ us hl => match us, hl with | [_, _], _ => rfl
  m_most_setups := PySem.W.mg_of X G n_most_setups
  a_through := a_through
  fd_through := PySem.W.fnOf "through" "through" (defArgs s_through) (defBody s_through) (defScope s_through) .none kV_through dc_through pm_through an_through cd_through ct_through
  F_through := fun_mk l_through c_through k_through
  b_through := (fun_mk (st := s_through) l_through c_through k_through).binds (ps := ["machine", "block", "row", "side"]) fun _ _ _ _ _ _ us hl => match us, hl with | [_, _, _, _], _ => rfl
  m_through := PySem.W.mg_of X G n_through
  a_Walk_out := a_Walk_out
  fd_Walk_out := PySem.W.fnOf "out" "Walk.out" (defArgs s_Walk_out) (defBody s_Walk_out) (defScope s_Walk_out) .none kV_Walk_out dc_Walk_out pm_Walk_out an_Walk_out cd_Walk_out ct_Walk_out
  F_Walk_out := fun_mk l_Walk_out c_Walk_out k_Walk_out
  b_Walk_out := (fun_mk (st := s_Walk_out) l_Walk_out c_Walk_out k_Walk_out).binds (ps := ["self", "found"]) fun _ _ _ _ _ _ us hl => match us, hl with | [_, _], _ => rfl
  a_Walk_place := a_Walk_place
  fd_Walk_place := PySem.W.fnOf "place" "Walk.place" (defArgs s_Walk_place) (defBody s_Walk_place) (defScope s_Walk_place) .none kV_Walk_place dc_Walk_place pm_Walk_place an_Walk_place cd_Walk_place ct_Walk_place
  F_Walk_place := fun_mk l_Walk_place c_Walk_place k_Walk_place
  b_Walk_place := (fun_mk (st := s_Walk_place) l_Walk_place c_Walk_place k_Walk_place).binds (ps := ["self"]) fun _ _ _ _ _ _ us hl => match us, hl with | [_], _ => rfl
  a_Walk_strip := a_Walk_strip
  fd_Walk_strip := PySem.W.fnOf "strip" "Walk.strip" (defArgs s_Walk_strip) (defBody s_Walk_strip) (defScope s_Walk_strip) .none kV_Walk_strip dc_Walk_strip pm_Walk_strip an_Walk_strip cd_Walk_strip ct_Walk_strip
  F_Walk_strip := fun_mk l_Walk_strip c_Walk_strip k_Walk_strip
  b_Walk_strip := (fun_mk (st := s_Walk_strip) l_Walk_strip c_Walk_strip k_Walk_strip).binds (ps := ["self"]) fun _ _ _ _ _ _ us hl => match us, hl with | [_], _ => rfl
  a_Walk_block := a_Walk_block
  fd_Walk_block := PySem.W.fnOf "block" "Walk.block" (defArgs s_Walk_block) (defBody s_Walk_block) (defScope s_Walk_block) .none kV_Walk_block dc_Walk_block pm_Walk_block an_Walk_block cd_Walk_block ct_Walk_block
  F_Walk_block := fun_mk l_Walk_block c_Walk_block k_Walk_block
  b_Walk_block := (fun_mk (st := s_Walk_block) l_Walk_block c_Walk_block k_Walk_block).binds (ps := ["self"]) fun _ _ _ _ _ _ us hl => match us, hl with | [_], _ => rfl
  a_by_blocks := a_by_blocks
  fd_by_blocks := PySem.W.fnOf "by_blocks" "by_blocks" (defArgs s_by_blocks) (defBody s_by_blocks) (defScope s_by_blocks) .none kV_by_blocks dc_by_blocks pm_by_blocks an_by_blocks cd_by_blocks ct_by_blocks
  F_by_blocks := fun_mk l_by_blocks c_by_blocks k_by_blocks
  b_by_blocks := (fun_mk (st := s_by_blocks) l_by_blocks c_by_blocks k_by_blocks).binds (ps := ["machine", "k", "many"]) fun _ _ _ _ _ _ us hl => match us, hl with | [_, _, _], _ => rfl
  m_by_blocks := PySem.W.mg_of X G n_by_blocks
  a_L_side := a_L_side
  fd_L_side := PySem.W.fnOf "_law_side" "_law_side" (defArgs s_L_side) (defBody s_L_side) (defScope s_L_side) .none kV_L_side dc_L_side pm_L_side an_L_side cd_L_side ct_L_side
  F_L_side := fun_mk l_L_side c_L_side k_L_side
  b_L_side := (fun_mk (st := s_L_side) l_L_side c_L_side k_L_side).binds (ps := ["_law_purse_here", "_law_signs", "_law_near_first"]) fun _ _ _ _ _ _ us hl => match us, hl with | [_, _, _], _ => rfl
  m_L_side := PySem.W.mg_of X G n_L_side
  a_L_runs := a_L_runs
  fd_L_runs := PySem.W.fnOf "_law_runs" "_law_runs" (defArgs s_L_runs) (defBody s_L_runs) (defScope s_L_runs) .none kV_L_runs dc_L_runs pm_L_runs an_L_runs cd_L_runs ct_L_runs
  F_L_runs := fun_mk l_L_runs c_L_runs k_L_runs
  b_L_runs := (fun_mk (st := s_L_runs) l_L_runs c_L_runs k_L_runs).binds (ps := ["_law_purse_here", "_law_signs"]) fun _ _ _ _ _ _ us hl => match us, hl with | [_, _], _ => rfl
  m_L_runs := PySem.W.mg_of X G n_L_runs
  a_Strip_init := a_Strip_init
  fd_Strip_init := PySem.W.fnOf "__init__" "Strip.__init__" (defArgs s_Strip_init) (defBody s_Strip_init) (defScope s_Strip_init) .none kV_Strip_init dc_Strip_init pm_Strip_init an_Strip_init cd_Strip_init ct_Strip_init
  F_Strip_init := fun_mk l_Strip_init c_Strip_init k_Strip_init
  b_Strip_init := (fun_mk (st := s_Strip_init) l_Strip_init c_Strip_init k_Strip_init).binds (ps := ["self", "row", "runs"]) fun _ _ _ _ _ _ us hl => match us, hl with | [_, _, _], _ => rfl
  a_Strip_told := a_Strip_told
  fd_Strip_told := PySem.W.fnOf "told" "Strip.told" (defArgs s_Strip_told) (defBody s_Strip_told) (defScope s_Strip_told) .none kV_Strip_told dc_Strip_told pm_Strip_told an_Strip_told cd_Strip_told ct_Strip_told
  F_Strip_told := fun_mk l_Strip_told c_Strip_told k_Strip_told
  b_Strip_told := (fun_mk (st := s_Strip_told) l_Strip_told c_Strip_told k_Strip_told).binds (ps := ["self"]) fun _ _ _ _ _ _ us hl => match us, hl with | [_], _ => rfl
  a_put_run := a_put_run
  fd_put_run := PySem.W.fnOf "put_run" "put_run" (defArgs s_put_run) (defBody s_put_run) (defScope s_put_run) .none kV_put_run dc_put_run pm_put_run an_put_run cd_put_run ct_put_run
  F_put_run := fun_mk l_put_run c_put_run k_put_run
  b_put_run := (fun_mk (st := s_put_run) l_put_run c_put_run k_put_run).binds (ps := ["runs", "sign", "many"]) fun _ _ _ _ _ _ us hl => match us, hl with | [_, _, _], _ => rfl
  m_put_run := PySem.W.mg_of X G n_put_run
  a_taken := a_taken
  fd_taken := PySem.W.fnOf "taken" "taken" (defArgs s_taken) (defBody s_taken) (defScope s_taken) .none kV_taken dc_taken pm_taken an_taken cd_taken ct_taken
  F_taken := fun_mk l_taken c_taken k_taken
  b_taken := (fun_mk (st := s_taken) l_taken c_taken k_taken).binds (ps := ["runs"]) fun _ _ _ _ _ _ us hl => match us, hl with | [_], _ => rfl
  m_taken := PySem.W.mg_of X G n_taken
  a_Strip_stride := a_Strip_stride
  fd_Strip_stride := PySem.W.fnOf "stride" "Strip.stride" (defArgs s_Strip_stride) (defBody s_Strip_stride) (defScope s_Strip_stride) .none kV_Strip_stride dc_Strip_stride pm_Strip_stride an_Strip_stride cd_Strip_stride ct_Strip_stride
  F_Strip_stride := fun_mk l_Strip_stride c_Strip_stride k_Strip_stride
  b_Strip_stride := (fun_mk (st := s_Strip_stride) l_Strip_stride c_Strip_stride k_Strip_stride).binds (ps := ["self", "put", "way"]) fun _ _ _ _ _ _ us hl => match us, hl with | [_, _, _], _ => rfl
  a_Strip_step := a_Strip_step
  fd_Strip_step := PySem.W.fnOf "step" "Strip.step" (defArgs s_Strip_step) (defBody s_Strip_step) (defScope s_Strip_step) .none kV_Strip_step dc_Strip_step pm_Strip_step an_Strip_step cd_Strip_step ct_Strip_step
  F_Strip_step := fun_mk l_Strip_step c_Strip_step k_Strip_step
  b_Strip_step := (fun_mk (st := s_Strip_step) l_Strip_step c_Strip_step k_Strip_step).binds (ps := ["self", "put", "way", "row"]) fun _ _ _ _ _ _ us hl => match us, hl with | [_, _, _, _], _ => rfl
  a_by_strides := a_by_strides
  fd_by_strides := PySem.W.fnOf "by_strides" "by_strides" (defArgs s_by_strides) (defBody s_by_strides) (defScope s_by_strides) .none kV_by_strides dc_by_strides pm_by_strides an_by_strides cd_by_strides ct_by_strides
  F_by_strides := fun_mk l_by_strides c_by_strides k_by_strides
  b_by_strides := (fun_mk (st := s_by_strides) l_by_strides c_by_strides k_by_strides).binds (ps := ["machine", "row", "runs", "many"]) fun _ _ _ _ _ _ us hl => match us, hl with | [_, _, _, _], _ => rfl
  m_by_strides := PySem.W.mg_of X G n_by_strides
  a_L_copied := a_L_copied
  fd_L_copied := PySem.W.fnOf "_law_copied" "_law_copied" (defArgs s_L_copied) (defBody s_L_copied) (defScope s_L_copied) .none kV_L_copied dc_L_copied pm_L_copied an_L_copied cd_L_copied ct_L_copied
  F_L_copied := fun_mk l_L_copied c_L_copied k_L_copied
  b_L_copied := (fun_mk (st := s_L_copied) l_L_copied c_L_copied k_L_copied).binds (ps := ["_law_runs_here"]) fun _ _ _ _ _ _ us hl => match us, hl with | [_], _ => rfl
  m_L_copied := PySem.W.mg_of X G n_L_copied
  a_L_runs_named := a_L_runs_named
  fd_L_runs_named := PySem.W.fnOf "_law_runs_named" "_law_runs_named" (defArgs s_L_runs_named) (defBody s_L_runs_named) (defScope s_L_runs_named) .none kV_L_runs_named dc_L_runs_named pm_L_runs_named an_L_runs_named cd_L_runs_named ct_L_runs_named
  F_L_runs_named := fun_mk l_L_runs_named c_L_runs_named k_L_runs_named
  b_L_runs_named := (fun_mk (st := s_L_runs_named) l_L_runs_named c_L_runs_named k_L_runs_named).binds (ps := ["_law_runs_here", "_law_signs", "_law_turned_here"]) fun _ _ _ _ _ _ us hl => match us, hl with | [_, _, _], _ => rfl
  m_L_runs_named := PySem.W.mg_of X G n_L_runs_named
  a_L_same_strides := a_L_same_strides
  fd_L_same_strides := PySem.W.fnOf "_law_same_strides" "_law_same_strides" (defArgs s_L_same_strides) (defBody s_L_same_strides) (defScope s_L_same_strides) .none kV_L_same_strides dc_L_same_strides pm_L_same_strides an_L_same_strides cd_L_same_strides ct_L_same_strides
  F_L_same_strides := fun_mk l_L_same_strides c_L_same_strides k_L_same_strides
  b_L_same_strides := (fun_mk (st := s_L_same_strides) l_L_same_strides c_L_same_strides k_L_same_strides).binds (ps := ["_law_one", "_law_other", "_law_rows", "_law_signs", "_law_turned_here"]) fun _ _ _ _ _ _ us hl => match us, hl with | [_, _, _, _, _], _ => rfl
  m_L_same_strides := PySem.W.mg_of X G n_L_same_strides
  a_law := a_law
  fd_law := PySem.W.fnOf "law" "law" (defArgs s_law) (defBody s_law) (defScope s_law) .none kV_law dc_law pm_law an_law cd_law ct_law
  F_law := fun_mk l_law c_law k_law
  b_law := (fun_mk (st := s_law) l_law c_law k_law).binds (ps := ["_law_script"]) fun _ _ _ _ _ _ us hl => match us, hl with | [_], _ => rfl
  m_law := PySem.W.mg_of X G n_law
  C_NoMachine := C_NoMachine
  m_NoMachine := PySem.W.mg_of X G n_NoMachine
  C_Walk := C_Walk
  m_Walk := PySem.W.mg_of X G n_Walk
  cl_Walk := ⟨pg_Walk, hd_Walk, po_Walk, sa_Walk⟩
  M_Walk := ⟨mk_Walk, n_Walk_init, i_Walk_init, kc_Walk⟩
  M_Walk_block := ⟨n_Walk_block, i_Walk_block, k_Walk_block⟩
  M_Walk_place := ⟨n_Walk_place, i_Walk_place, k_Walk_place⟩
  M_Walk_out := ⟨n_Walk_out, i_Walk_out, k_Walk_out⟩
  M_Walk_strip := ⟨n_Walk_strip, i_Walk_strip, k_Walk_strip⟩
  nA_Walk_long := f_Walk_long
  nA_Walk_blocks := f_Walk_blocks
  nA_Walk_at := f_Walk_at
  nA_Walk_row := f_Walk_row
  nA_Walk_side := f_Walk_side
  nA_Walk_steps := f_Walk_steps
  C_Strip := C_Strip
  m_Strip := PySem.W.mg_of X G n_Strip
  cl_Strip := ⟨pg_Strip, hd_Strip, po_Strip, sa_Strip⟩
  M_Strip := ⟨mk_Strip, n_Strip_init, i_Strip_init, kc_Strip⟩
  M_Strip_told := ⟨n_Strip_told, i_Strip_told, k_Strip_told⟩
  M_Strip_stride := ⟨n_Strip_stride, i_Strip_stride, k_Strip_stride⟩
  M_Strip_step := ⟨n_Strip_step, i_Strip_step, k_Strip_step⟩
  nA_Strip_sides := f_Strip_sides
  nA_Strip_sign := f_Strip_sign
  nA_Strip_row := f_Strip_row
  nA_Strip_steps := f_Strip_steps
  tk_MOST_ROWS := tk_MOST_ROWS
  m_MOST_ROWS := PySem.W.mg_of X G n_MOST_ROWS
  tk_MOST_SIGNS := tk_MOST_SIGNS
  m_MOST_SIGNS := PySem.W.mg_of X G n_MOST_SIGNS
  n_len := PySem.W.mg_none_of X G z_len
  n_max := PySem.W.mg_none_of X G z_max
  n_int := PySem.W.mg_none_of X G z_int
  n_range := PySem.W.mg_none_of X G z_range
  n_all := PySem.W.mg_none_of X G z_all
  n_list := PySem.W.mg_none_of X G z_list
  n_tuple := PySem.W.mg_none_of X G z_tuple
  n_sorted := PySem.W.mg_none_of X G z_sorted
  n_enumerate := PySem.W.mg_none_of X G z_enumerate
theorem all_mk {l : PySem.W.OpenLaw} {w : World} {K : PySem.W.Frag} {h : Heap} {mg : Str → Option Value} {fa : Addr} (X : K.In h) (G : h.Ns mainGlobals mg) (hfa : mg "law" = some (.ref fa)) (t : Tx K mg)
    (hb : ∃ (kV dc pm : Value) (an : Option Addr) (cd ct : Value), t.fd_law = PySem.W.fnOf "law" "law" (defArgs s_law) (defBody s_law) (defScope s_law) .none kV dc pm an cd ct) :
    ∃ fd : FuncData, (∀ (s : Shared) (v : Value), BindsTo s fd ⟨[v], []⟩ [("_law_script", v)]) ∧ ∀ base : Heap, K.In base → base.Ns mainGlobals mg → FnOk l.prog w K mg base CX0 6 fa fd ["_law_script"] (sp_law K) := by
  have e := hfa.symm.trans t.m_law
  cases e
  refine ⟨t.fd_law, fun s v => ?_, fun base _ _ => ok_law t⟩
  obtain ⟨kV, dc, pm, an, cd, ct, e⟩ := hb
  rw [e]
  exact .of_eq rfl
theorem walk {l : PySem.W.OpenLaw} {q : Program} {loose : List Str} {XP : (Str → Option Value) → Heap → Prop} {YP : World → Heap → Prop} {d : DefRec} {K : Params → PySem.W.Frag} (hn : l.most = some 63) (hdf : d.params.defaults = [])
    (hY : ∀ (w : World) (h : Heap), YP w h → (K w.params).In h)
    (F : ∀ (w : World) (mg : Str → Option Value) (fa : Addr) (h : Heap), (K w.params).In h → h.Ns mainGlobals mg → mg d.name = some (.ref fa) →
      ∃ fd : FuncData, (∀ (s : Shared) (u : Value), BindsTo s fd ⟨[u], []⟩ [("_law_script", u)]) ∧ ∀ base : Heap, (K w.params).In base → base.Ns mainGlobals mg → FnOk l.prog w (K w.params) mg base CX0 6 fa fd ["_law_script"] (sp_law (K w.params))) :
    PySem.W.WalkO q loose XP YP l.row.toRowW d [] (fun f vs => PySem.call f vs) :=
  L2.walk_of (n := 63) (k := 6) (x := "_law_script") (CX := fun _ => CX0) (sp := fun w => sp_law (K w.params)) hn (by decide) hdf ⟨rfl, by decide, by decide⟩ hY F (fun _ _ a ns hl _ hS => ⟨a, ns, rfl, hS, hl, fun _ => rfl⟩) fun _ _ _ _ _ z => z
theorem all_go {l : PySem.W.OpenLaw} {w : World} {K : PySem.W.Frag} {h : Heap} {mg : Str → Option Value} {fa : Addr} {a_L_at a_L_purse a_L_mixed a_L_draw a_L_entry a_L_machine a_L_order a_L_named a_L_turned a_L_mirrored a_is_entry a_is_machine a_must_machine a_Walk_init a_most_setups a_through a_Walk_out a_Walk_place a_Walk_strip a_Walk_block a_by_blocks a_L_side a_L_runs a_Strip_init a_Strip_told a_put_run a_taken a_Strip_stride a_Strip_step a_by_strides a_L_copied a_L_runs_named a_L_same_strides a_law C_NoMachine C_Walk C_Strip : Addr} {od_L_at an_L_at od_L_purse an_L_purse od_L_mixed an_L_mixed od_L_draw an_L_draw od_L_entry an_L_entry od_L_machine an_L_machine od_L_order an_L_order od_L_named an_L_named od_L_turned an_L_turned od_L_mirrored an_L_mirrored od_is_entry an_is_entry od_is_machine an_is_machine od_must_machine an_must_machine od_Walk_init an_Walk_init od_most_setups an_most_setups od_through an_through od_Walk_out an_Walk_out od_Walk_place an_Walk_place od_Walk_strip an_Walk_strip od_Walk_block an_Walk_block od_by_blocks an_by_blocks od_L_side an_L_side od_L_runs an_L_runs od_Strip_init an_Strip_init od_Strip_told an_Strip_told od_put_run an_put_run od_taken an_taken od_Strip_stride an_Strip_stride od_Strip_step an_Strip_step od_by_strides an_by_strides od_L_copied an_L_copied od_L_runs_named an_L_runs_named od_L_same_strides an_L_same_strides od_law an_law : Option Addr} {sl_L_at sl_L_purse sl_L_mixed sl_L_draw sl_L_entry sl_L_machine sl_L_order sl_L_named sl_L_turned sl_L_mirrored sl_is_entry sl_is_machine sl_must_machine sl_Walk_init sl_most_setups sl_through sl_Walk_out sl_Walk_place sl_Walk_strip sl_Walk_block sl_by_blocks sl_L_side sl_L_runs sl_Strip_init sl_Strip_told sl_put_run sl_taken sl_Strip_stride sl_Strip_step sl_by_strides sl_L_copied sl_L_runs_named sl_L_same_strides sl_law : Array (Option Value)} {oc_L_at kV_L_at dc_L_at pm_L_at cd_L_at ct_L_at oc_L_purse kV_L_purse dc_L_purse pm_L_purse cd_L_purse ct_L_purse oc_L_mixed kV_L_mixed dc_L_mixed pm_L_mixed cd_L_mixed ct_L_mixed oc_L_draw kV_L_draw dc_L_draw pm_L_draw cd_L_draw ct_L_draw oc_L_entry kV_L_entry dc_L_entry pm_L_entry cd_L_entry ct_L_entry oc_L_machine kV_L_machine dc_L_machine pm_L_machine cd_L_machine ct_L_machine oc_L_order kV_L_order dc_L_order pm_L_order cd_L_order ct_L_order oc_L_named kV_L_named dc_L_named pm_L_named cd_L_named ct_L_named oc_L_turned kV_L_turned dc_L_turned pm_L_turned cd_L_turned ct_L_turned oc_L_mirrored kV_L_mirrored dc_L_mirrored pm_L_mirrored cd_L_mirrored ct_L_mirrored oc_is_entry kV_is_entry dc_is_entry pm_is_entry cd_is_entry ct_is_entry oc_is_machine kV_is_machine dc_is_machine pm_is_machine cd_is_machine ct_is_machine oc_must_machine kV_must_machine dc_must_machine pm_must_machine cd_must_machine ct_must_machine oc_Walk_init kV_Walk_init dc_Walk_init pm_Walk_init cd_Walk_init ct_Walk_init oc_most_setups kV_most_setups dc_most_setups pm_most_setups cd_most_setups ct_most_setups oc_through kV_through dc_through pm_through cd_through ct_through oc_Walk_out kV_Walk_out dc_Walk_out pm_Walk_out cd_Walk_out ct_Walk_out oc_Walk_place kV_Walk_place dc_Walk_place pm_Walk_place cd_Walk_place ct_Walk_place oc_Walk_strip kV_Walk_strip dc_Walk_strip pm_Walk_strip cd_Walk_strip ct_Walk_strip oc_Walk_block kV_Walk_block dc_Walk_block pm_Walk_block cd_Walk_block ct_Walk_block oc_by_blocks kV_by_blocks dc_by_blocks pm_by_blocks cd_by_blocks ct_by_blocks oc_L_side kV_L_side dc_L_side pm_L_side cd_L_side ct_L_side oc_L_runs kV_L_runs dc_L_runs pm_L_runs cd_L_runs ct_L_runs oc_Strip_init kV_Strip_init dc_Strip_init pm_Strip_init cd_Strip_init ct_Strip_init oc_Strip_told kV_Strip_told dc_Strip_told pm_Strip_told cd_Strip_told ct_Strip_told oc_put_run kV_put_run dc_put_run pm_put_run cd_put_run ct_put_run oc_taken kV_taken dc_taken pm_taken cd_taken ct_taken oc_Strip_stride kV_Strip_stride dc_Strip_stride pm_Strip_stride cd_Strip_stride ct_Strip_stride oc_Strip_step kV_Strip_step dc_Strip_step pm_Strip_step cd_Strip_step ct_Strip_step oc_by_strides kV_by_strides dc_by_strides pm_by_strides cd_by_strides ct_by_strides oc_L_copied kV_L_copied dc_L_copied pm_L_copied cd_L_copied ct_L_copied oc_L_runs_named kV_L_runs_named dc_L_runs_named pm_L_runs_named cd_L_runs_named ct_L_runs_named oc_L_same_strides kV_L_same_strides dc_L_same_strides pm_L_same_strides cd_L_same_strides ct_L_same_strides oc_law kV_law dc_law pm_law cd_law ct_law : Value} {tk_MOST_ROWS tk_MOST_SIGNS : Tok} (X : K.In h) (G : h.Ns mainGlobals mg) (hfa : mg "law" = some (.ref fa))
    (n_NoMachine : PySem.W.nsIn K mainGlobals "NoMachine" = some (some (.ref C_NoMachine)))
    (n_Walk : PySem.W.nsIn K mainGlobals "Walk" = some (some (.ref C_Walk)))
    (n_Strip : PySem.W.nsIn K mainGlobals "Strip" = some (some (.ref C_Strip)))
    (n_L_at : PySem.W.nsIn K mainGlobals "_law_at" = some (some (.ref a_L_at)))
    (l_L_at : K.lookup a_L_at = some ⟨oc_L_at, od_L_at, .func (PySem.W.fnOf "_law_at" "_law_at" (defArgs s_L_at) (defBody s_L_at) (defScope s_L_at) .none kV_L_at dc_L_at pm_L_at an_L_at cd_L_at ct_L_at), sl_L_at⟩)
    (c_L_at : PySem.W.codeIn K cd_L_at "_law_at" = true)
    (k_L_at : PySem.W.keepIn K (.ref a_L_at) = true)
    (n_L_purse : PySem.W.nsIn K mainGlobals "_law_purse" = some (some (.ref a_L_purse)))
    (l_L_purse : K.lookup a_L_purse = some ⟨oc_L_purse, od_L_purse, .func (PySem.W.fnOf "_law_purse" "_law_purse" (defArgs s_L_purse) (defBody s_L_purse) (defScope s_L_purse) .none kV_L_purse dc_L_purse pm_L_purse an_L_purse cd_L_purse ct_L_purse), sl_L_purse⟩)
    (c_L_purse : PySem.W.codeIn K cd_L_purse "_law_purse" = true)
    (k_L_purse : PySem.W.keepIn K (.ref a_L_purse) = true)
    (n_L_mixed : PySem.W.nsIn K mainGlobals "_law_mixed" = some (some (.ref a_L_mixed)))
    (l_L_mixed : K.lookup a_L_mixed = some ⟨oc_L_mixed, od_L_mixed, .func (PySem.W.fnOf "_law_mixed" "_law_mixed" (defArgs s_L_mixed) (defBody s_L_mixed) (defScope s_L_mixed) .none kV_L_mixed dc_L_mixed pm_L_mixed an_L_mixed cd_L_mixed ct_L_mixed), sl_L_mixed⟩)
    (c_L_mixed : PySem.W.codeIn K cd_L_mixed "_law_mixed" = true)
    (k_L_mixed : PySem.W.keepIn K (.ref a_L_mixed) = true)
    (n_L_draw : PySem.W.nsIn K mainGlobals "_law_draw" = some (some (.ref a_L_draw)))
    (l_L_draw : K.lookup a_L_draw = some ⟨oc_L_draw, od_L_draw, .func (PySem.W.fnOf "_law_draw" "_law_draw" (defArgs s_L_draw) (defBody s_L_draw) (defScope s_L_draw) .none kV_L_draw dc_L_draw pm_L_draw an_L_draw cd_L_draw ct_L_draw), sl_L_draw⟩)
    (c_L_draw : PySem.W.codeIn K cd_L_draw "_law_draw" = true)
    (k_L_draw : PySem.W.keepIn K (.ref a_L_draw) = true)
    (n_L_entry : PySem.W.nsIn K mainGlobals "_law_entry" = some (some (.ref a_L_entry)))
    (l_L_entry : K.lookup a_L_entry = some ⟨oc_L_entry, od_L_entry, .func (PySem.W.fnOf "_law_entry" "_law_entry" (defArgs s_L_entry) (defBody s_L_entry) (defScope s_L_entry) .none kV_L_entry dc_L_entry pm_L_entry an_L_entry cd_L_entry ct_L_entry), sl_L_entry⟩)
    (c_L_entry : PySem.W.codeIn K cd_L_entry "_law_entry" = true)
    (k_L_entry : PySem.W.keepIn K (.ref a_L_entry) = true)
    (n_L_machine : PySem.W.nsIn K mainGlobals "_law_machine" = some (some (.ref a_L_machine)))
    (l_L_machine : K.lookup a_L_machine = some ⟨oc_L_machine, od_L_machine, .func (PySem.W.fnOf "_law_machine" "_law_machine" (defArgs s_L_machine) (defBody s_L_machine) (defScope s_L_machine) .none kV_L_machine dc_L_machine pm_L_machine an_L_machine cd_L_machine ct_L_machine), sl_L_machine⟩)
    (c_L_machine : PySem.W.codeIn K cd_L_machine "_law_machine" = true)
    (k_L_machine : PySem.W.keepIn K (.ref a_L_machine) = true)
    (n_L_order : PySem.W.nsIn K mainGlobals "_law_order" = some (some (.ref a_L_order)))
    (l_L_order : K.lookup a_L_order = some ⟨oc_L_order, od_L_order, .func (PySem.W.fnOf "_law_order" "_law_order" (defArgs s_L_order) (defBody s_L_order) (defScope s_L_order) .none kV_L_order dc_L_order pm_L_order an_L_order cd_L_order ct_L_order), sl_L_order⟩)
    (c_L_order : PySem.W.codeIn K cd_L_order "_law_order" = true)
    (k_L_order : PySem.W.keepIn K (.ref a_L_order) = true)
    (n_L_named : PySem.W.nsIn K mainGlobals "_law_named" = some (some (.ref a_L_named)))
    (l_L_named : K.lookup a_L_named = some ⟨oc_L_named, od_L_named, .func (PySem.W.fnOf "_law_named" "_law_named" (defArgs s_L_named) (defBody s_L_named) (defScope s_L_named) .none kV_L_named dc_L_named pm_L_named an_L_named cd_L_named ct_L_named), sl_L_named⟩)
    (c_L_named : PySem.W.codeIn K cd_L_named "_law_named" = true)
    (k_L_named : PySem.W.keepIn K (.ref a_L_named) = true)
    (n_L_turned : PySem.W.nsIn K mainGlobals "_law_turned" = some (some (.ref a_L_turned)))
    (l_L_turned : K.lookup a_L_turned = some ⟨oc_L_turned, od_L_turned, .func (PySem.W.fnOf "_law_turned" "_law_turned" (defArgs s_L_turned) (defBody s_L_turned) (defScope s_L_turned) .none kV_L_turned dc_L_turned pm_L_turned an_L_turned cd_L_turned ct_L_turned), sl_L_turned⟩)
    (c_L_turned : PySem.W.codeIn K cd_L_turned "_law_turned" = true)
    (k_L_turned : PySem.W.keepIn K (.ref a_L_turned) = true)
    (n_L_mirrored : PySem.W.nsIn K mainGlobals "_law_mirrored" = some (some (.ref a_L_mirrored)))
    (l_L_mirrored : K.lookup a_L_mirrored = some ⟨oc_L_mirrored, od_L_mirrored, .func (PySem.W.fnOf "_law_mirrored" "_law_mirrored" (defArgs s_L_mirrored) (defBody s_L_mirrored) (defScope s_L_mirrored) .none kV_L_mirrored dc_L_mirrored pm_L_mirrored an_L_mirrored cd_L_mirrored ct_L_mirrored), sl_L_mirrored⟩)
    (c_L_mirrored : PySem.W.codeIn K cd_L_mirrored "_law_mirrored" = true)
    (k_L_mirrored : PySem.W.keepIn K (.ref a_L_mirrored) = true)
    (n_is_entry : PySem.W.nsIn K mainGlobals "is_entry" = some (some (.ref a_is_entry)))
    (l_is_entry : K.lookup a_is_entry = some ⟨oc_is_entry, od_is_entry, .func (PySem.W.fnOf "is_entry" "is_entry" (defArgs s_is_entry) (defBody s_is_entry) (defScope s_is_entry) .none kV_is_entry dc_is_entry pm_is_entry an_is_entry cd_is_entry ct_is_entry), sl_is_entry⟩)
    (c_is_entry : PySem.W.codeIn K cd_is_entry "is_entry" = true)
    (k_is_entry : PySem.W.keepIn K (.ref a_is_entry) = true)
    (n_is_machine : PySem.W.nsIn K mainGlobals "is_machine" = some (some (.ref a_is_machine)))
    (l_is_machine : K.lookup a_is_machine = some ⟨oc_is_machine, od_is_machine, .func (PySem.W.fnOf "is_machine" "is_machine" (defArgs s_is_machine) (defBody s_is_machine) (defScope s_is_machine) .none kV_is_machine dc_is_machine pm_is_machine an_is_machine cd_is_machine ct_is_machine), sl_is_machine⟩)
    (c_is_machine : PySem.W.codeIn K cd_is_machine "is_machine" = true)
    (k_is_machine : PySem.W.keepIn K (.ref a_is_machine) = true)
    (n_must_machine : PySem.W.nsIn K mainGlobals "must_machine" = some (some (.ref a_must_machine)))
    (l_must_machine : K.lookup a_must_machine = some ⟨oc_must_machine, od_must_machine, .func (PySem.W.fnOf "must_machine" "must_machine" (defArgs s_must_machine) (defBody s_must_machine) (defScope s_must_machine) .none kV_must_machine dc_must_machine pm_must_machine an_must_machine cd_must_machine ct_must_machine), sl_must_machine⟩)
    (c_must_machine : PySem.W.codeIn K cd_must_machine "must_machine" = true)
    (k_must_machine : PySem.W.keepIn K (.ref a_must_machine) = true)
    (n_Walk_init : PySem.W.findIn K (.ref C_Walk) "__init__" = some (some (.ref a_Walk_init)))
    (i_Walk_init : PySem.W.isFn K (.ref a_Walk_init) = true)
    (l_Walk_init : K.lookup a_Walk_init = some ⟨oc_Walk_init, od_Walk_init, .func (PySem.W.fnOf "__init__" "Walk.__init__" (defArgs s_Walk_init) (defBody s_Walk_init) (defScope s_Walk_init) .none kV_Walk_init dc_Walk_init pm_Walk_init an_Walk_init cd_Walk_init ct_Walk_init), sl_Walk_init⟩)
    (c_Walk_init : PySem.W.codeIn K cd_Walk_init "Walk.__init__" = true)
    (k_Walk_init : PySem.W.keepIn K (.ref a_Walk_init) = true)
    (n_most_setups : PySem.W.nsIn K mainGlobals "most_setups" = some (some (.ref a_most_setups)))
    (l_most_setups : K.lookup a_most_setups = some ⟨oc_most_setups, od_most_setups, .func (PySem.W.fnOf "most_setups" "most_setups" (defArgs s_most_setups) (defBody s_most_setups) (defScope s_most_setups) .none kV_most_setups dc_most_setups pm_most_setups an_most_setups cd_most_setups ct_most_setups), sl_most_setups⟩)
    (c_most_setups : PySem.W.codeIn K cd_most_setups "most_setups" = true)
    (k_most_setups : PySem.W.keepIn K (.ref a_most_setups) = true)
    (n_through : PySem.W.nsIn K mainGlobals "through" = some (some (.ref a_through)))
    (l_through : K.lookup a_through = some ⟨oc_through, od_through, .func (PySem.W.fnOf "through" "through" (defArgs s_through) (defBody s_through) (defScope s_through) .none kV_through dc_through pm_through an_through cd_through ct_through), sl_through⟩)
    (c_through : PySem.W.codeIn K cd_through "through" = true)
    (k_through : PySem.W.keepIn K (.ref a_through) = true)
    (n_Walk_out : PySem.W.findIn K (.ref C_Walk) "out" = some (some (.ref a_Walk_out)))
    (i_Walk_out : PySem.W.isFn K (.ref a_Walk_out) = true)
    (l_Walk_out : K.lookup a_Walk_out = some ⟨oc_Walk_out, od_Walk_out, .func (PySem.W.fnOf "out" "Walk.out" (defArgs s_Walk_out) (defBody s_Walk_out) (defScope s_Walk_out) .none kV_Walk_out dc_Walk_out pm_Walk_out an_Walk_out cd_Walk_out ct_Walk_out), sl_Walk_out⟩)
    (c_Walk_out : PySem.W.codeIn K cd_Walk_out "Walk.out" = true)
    (k_Walk_out : PySem.W.keepIn K (.ref a_Walk_out) = true)
    (n_Walk_place : PySem.W.findIn K (.ref C_Walk) "place" = some (some (.ref a_Walk_place)))
    (i_Walk_place : PySem.W.isFn K (.ref a_Walk_place) = true)
    (l_Walk_place : K.lookup a_Walk_place = some ⟨oc_Walk_place, od_Walk_place, .func (PySem.W.fnOf "place" "Walk.place" (defArgs s_Walk_place) (defBody s_Walk_place) (defScope s_Walk_place) .none kV_Walk_place dc_Walk_place pm_Walk_place an_Walk_place cd_Walk_place ct_Walk_place), sl_Walk_place⟩)
    (c_Walk_place : PySem.W.codeIn K cd_Walk_place "Walk.place" = true)
    (k_Walk_place : PySem.W.keepIn K (.ref a_Walk_place) = true)
    (n_Walk_strip : PySem.W.findIn K (.ref C_Walk) "strip" = some (some (.ref a_Walk_strip)))
    (i_Walk_strip : PySem.W.isFn K (.ref a_Walk_strip) = true)
    (l_Walk_strip : K.lookup a_Walk_strip = some ⟨oc_Walk_strip, od_Walk_strip, .func (PySem.W.fnOf "strip" "Walk.strip" (defArgs s_Walk_strip) (defBody s_Walk_strip) (defScope s_Walk_strip) .none kV_Walk_strip dc_Walk_strip pm_Walk_strip an_Walk_strip cd_Walk_strip ct_Walk_strip), sl_Walk_strip⟩)
    (c_Walk_strip : PySem.W.codeIn K cd_Walk_strip "Walk.strip" = true)
    (k_Walk_strip : PySem.W.keepIn K (.ref a_Walk_strip) = true)
    (n_Walk_block : PySem.W.findIn K (.ref C_Walk) "block" = some (some (.ref a_Walk_block)))
    (i_Walk_block : PySem.W.isFn K (.ref a_Walk_block) = true)
    (l_Walk_block : K.lookup a_Walk_block = some ⟨oc_Walk_block, od_Walk_block, .func (PySem.W.fnOf "block" "Walk.block" (defArgs s_Walk_block) (defBody s_Walk_block) (defScope s_Walk_block) .none kV_Walk_block dc_Walk_block pm_Walk_block an_Walk_block cd_Walk_block ct_Walk_block), sl_Walk_block⟩)
    (c_Walk_block : PySem.W.codeIn K cd_Walk_block "Walk.block" = true)
    (k_Walk_block : PySem.W.keepIn K (.ref a_Walk_block) = true)
    (n_by_blocks : PySem.W.nsIn K mainGlobals "by_blocks" = some (some (.ref a_by_blocks)))
    (l_by_blocks : K.lookup a_by_blocks = some ⟨oc_by_blocks, od_by_blocks, .func (PySem.W.fnOf "by_blocks" "by_blocks" (defArgs s_by_blocks) (defBody s_by_blocks) (defScope s_by_blocks) .none kV_by_blocks dc_by_blocks pm_by_blocks an_by_blocks cd_by_blocks ct_by_blocks), sl_by_blocks⟩)
    (c_by_blocks : PySem.W.codeIn K cd_by_blocks "by_blocks" = true)
    (k_by_blocks : PySem.W.keepIn K (.ref a_by_blocks) = true)
    (n_L_side : PySem.W.nsIn K mainGlobals "_law_side" = some (some (.ref a_L_side)))
    (l_L_side : K.lookup a_L_side = some ⟨oc_L_side, od_L_side, .func (PySem.W.fnOf "_law_side" "_law_side" (defArgs s_L_side) (defBody s_L_side) (defScope s_L_side) .none kV_L_side dc_L_side pm_L_side an_L_side cd_L_side ct_L_side), sl_L_side⟩)
    (c_L_side : PySem.W.codeIn K cd_L_side "_law_side" = true)
    (k_L_side : PySem.W.keepIn K (.ref a_L_side) = true)
    (n_L_runs : PySem.W.nsIn K mainGlobals "_law_runs" = some (some (.ref a_L_runs)))
    (l_L_runs : K.lookup a_L_runs = some ⟨oc_L_runs, od_L_runs, .func (PySem.W.fnOf "_law_runs" "_law_runs" (defArgs s_L_runs) (defBody s_L_runs) (defScope s_L_runs) .none kV_L_runs dc_L_runs pm_L_runs an_L_runs cd_L_runs ct_L_runs), sl_L_runs⟩)
    (c_L_runs : PySem.W.codeIn K cd_L_runs "_law_runs" = true)
    (k_L_runs : PySem.W.keepIn K (.ref a_L_runs) = true)
    (n_Strip_init : PySem.W.findIn K (.ref C_Strip) "__init__" = some (some (.ref a_Strip_init)))
    (i_Strip_init : PySem.W.isFn K (.ref a_Strip_init) = true)
    (l_Strip_init : K.lookup a_Strip_init = some ⟨oc_Strip_init, od_Strip_init, .func (PySem.W.fnOf "__init__" "Strip.__init__" (defArgs s_Strip_init) (defBody s_Strip_init) (defScope s_Strip_init) .none kV_Strip_init dc_Strip_init pm_Strip_init an_Strip_init cd_Strip_init ct_Strip_init), sl_Strip_init⟩)
    (c_Strip_init : PySem.W.codeIn K cd_Strip_init "Strip.__init__" = true)
    (k_Strip_init : PySem.W.keepIn K (.ref a_Strip_init) = true)
    (n_Strip_told : PySem.W.findIn K (.ref C_Strip) "told" = some (some (.ref a_Strip_told)))
    (i_Strip_told : PySem.W.isFn K (.ref a_Strip_told) = true)
    (l_Strip_told : K.lookup a_Strip_told = some ⟨oc_Strip_told, od_Strip_told, .func (PySem.W.fnOf "told" "Strip.told" (defArgs s_Strip_told) (defBody s_Strip_told) (defScope s_Strip_told) .none kV_Strip_told dc_Strip_told pm_Strip_told an_Strip_told cd_Strip_told ct_Strip_told), sl_Strip_told⟩)
    (c_Strip_told : PySem.W.codeIn K cd_Strip_told "Strip.told" = true)
    (k_Strip_told : PySem.W.keepIn K (.ref a_Strip_told) = true)
    (n_put_run : PySem.W.nsIn K mainGlobals "put_run" = some (some (.ref a_put_run)))
    (l_put_run : K.lookup a_put_run = some ⟨oc_put_run, od_put_run, .func (PySem.W.fnOf "put_run" "put_run" (defArgs s_put_run) (defBody s_put_run) (defScope s_put_run) .none kV_put_run dc_put_run pm_put_run an_put_run cd_put_run ct_put_run), sl_put_run⟩)
    (c_put_run : PySem.W.codeIn K cd_put_run "put_run" = true)
    (k_put_run : PySem.W.keepIn K (.ref a_put_run) = true)
    (n_taken : PySem.W.nsIn K mainGlobals "taken" = some (some (.ref a_taken)))
    (l_taken : K.lookup a_taken = some ⟨oc_taken, od_taken, .func (PySem.W.fnOf "taken" "taken" (defArgs s_taken) (defBody s_taken) (defScope s_taken) .none kV_taken dc_taken pm_taken an_taken cd_taken ct_taken), sl_taken⟩)
    (c_taken : PySem.W.codeIn K cd_taken "taken" = true)
    (k_taken : PySem.W.keepIn K (.ref a_taken) = true)
    (n_Strip_stride : PySem.W.findIn K (.ref C_Strip) "stride" = some (some (.ref a_Strip_stride)))
    (i_Strip_stride : PySem.W.isFn K (.ref a_Strip_stride) = true)
    (l_Strip_stride : K.lookup a_Strip_stride = some ⟨oc_Strip_stride, od_Strip_stride, .func (PySem.W.fnOf "stride" "Strip.stride" (defArgs s_Strip_stride) (defBody s_Strip_stride) (defScope s_Strip_stride) .none kV_Strip_stride dc_Strip_stride pm_Strip_stride an_Strip_stride cd_Strip_stride ct_Strip_stride), sl_Strip_stride⟩)
    (c_Strip_stride : PySem.W.codeIn K cd_Strip_stride "Strip.stride" = true)
    (k_Strip_stride : PySem.W.keepIn K (.ref a_Strip_stride) = true)
    (n_Strip_step : PySem.W.findIn K (.ref C_Strip) "step" = some (some (.ref a_Strip_step)))
    (i_Strip_step : PySem.W.isFn K (.ref a_Strip_step) = true)
    (l_Strip_step : K.lookup a_Strip_step = some ⟨oc_Strip_step, od_Strip_step, .func (PySem.W.fnOf "step" "Strip.step" (defArgs s_Strip_step) (defBody s_Strip_step) (defScope s_Strip_step) .none kV_Strip_step dc_Strip_step pm_Strip_step an_Strip_step cd_Strip_step ct_Strip_step), sl_Strip_step⟩)
    (c_Strip_step : PySem.W.codeIn K cd_Strip_step "Strip.step" = true)
    (k_Strip_step : PySem.W.keepIn K (.ref a_Strip_step) = true)
    (n_by_strides : PySem.W.nsIn K mainGlobals "by_strides" = some (some (.ref a_by_strides)))
    (l_by_strides : K.lookup a_by_strides = some ⟨oc_by_strides, od_by_strides, .func (PySem.W.fnOf "by_strides" "by_strides" (defArgs s_by_strides) (defBody s_by_strides) (defScope s_by_strides) .none kV_by_strides dc_by_strides pm_by_strides an_by_strides cd_by_strides ct_by_strides), sl_by_strides⟩)
    (c_by_strides : PySem.W.codeIn K cd_by_strides "by_strides" = true)
    (k_by_strides : PySem.W.keepIn K (.ref a_by_strides) = true)
    (n_L_copied : PySem.W.nsIn K mainGlobals "_law_copied" = some (some (.ref a_L_copied)))
    (l_L_copied : K.lookup a_L_copied = some ⟨oc_L_copied, od_L_copied, .func (PySem.W.fnOf "_law_copied" "_law_copied" (defArgs s_L_copied) (defBody s_L_copied) (defScope s_L_copied) .none kV_L_copied dc_L_copied pm_L_copied an_L_copied cd_L_copied ct_L_copied), sl_L_copied⟩)
    (c_L_copied : PySem.W.codeIn K cd_L_copied "_law_copied" = true)
    (k_L_copied : PySem.W.keepIn K (.ref a_L_copied) = true)
    (n_L_runs_named : PySem.W.nsIn K mainGlobals "_law_runs_named" = some (some (.ref a_L_runs_named)))
    (l_L_runs_named : K.lookup a_L_runs_named = some ⟨oc_L_runs_named, od_L_runs_named, .func (PySem.W.fnOf "_law_runs_named" "_law_runs_named" (defArgs s_L_runs_named) (defBody s_L_runs_named) (defScope s_L_runs_named) .none kV_L_runs_named dc_L_runs_named pm_L_runs_named an_L_runs_named cd_L_runs_named ct_L_runs_named), sl_L_runs_named⟩)
    (c_L_runs_named : PySem.W.codeIn K cd_L_runs_named "_law_runs_named" = true)
    (k_L_runs_named : PySem.W.keepIn K (.ref a_L_runs_named) = true)
    (n_L_same_strides : PySem.W.nsIn K mainGlobals "_law_same_strides" = some (some (.ref a_L_same_strides)))
    (l_L_same_strides : K.lookup a_L_same_strides = some ⟨oc_L_same_strides, od_L_same_strides, .func (PySem.W.fnOf "_law_same_strides" "_law_same_strides" (defArgs s_L_same_strides) (defBody s_L_same_strides) (defScope s_L_same_strides) .none kV_L_same_strides dc_L_same_strides pm_L_same_strides an_L_same_strides cd_L_same_strides ct_L_same_strides), sl_L_same_strides⟩)
    (c_L_same_strides : PySem.W.codeIn K cd_L_same_strides "_law_same_strides" = true)
    (k_L_same_strides : PySem.W.keepIn K (.ref a_L_same_strides) = true)
    (n_law : PySem.W.nsIn K mainGlobals "law" = some (some (.ref a_law)))
    (l_law : K.lookup a_law = some ⟨oc_law, od_law, .func (PySem.W.fnOf "law" "law" (defArgs s_law) (defBody s_law) (defScope s_law) .none kV_law dc_law pm_law an_law cd_law ct_law), sl_law⟩)
    (c_law : PySem.W.codeIn K cd_law "law" = true)
    (k_law : PySem.W.keepIn K (.ref a_law) = true)
    (pg_Walk : PySem.W.plainGet K C_Walk Str.empty = true)
    (hd_Walk : PySem.W.hasDictIn K C_Walk = true)
    (po_Walk : PySem.W.plainOver K C_Walk = true)
    (sa_Walk : PySem.W.findIn K (.ref C_Walk) "__setattr__" = some (some (.builtin "object.__setattr__")))
    (mk_Walk : PySem.W.makesIn K C_Walk = true)
    (kc_Walk : PySem.W.keepIn K (.ref C_Walk) = true)
    (f_Walk_long : PySem.W.findIn K (.ref C_Walk) "long" = some none)
    (f_Walk_blocks : PySem.W.findIn K (.ref C_Walk) "blocks" = some none)
    (f_Walk_at : PySem.W.findIn K (.ref C_Walk) "at" = some none)
    (f_Walk_row : PySem.W.findIn K (.ref C_Walk) "row" = some none)
    (f_Walk_side : PySem.W.findIn K (.ref C_Walk) "side" = some none)
    (f_Walk_steps : PySem.W.findIn K (.ref C_Walk) "steps" = some none)
    (pg_Strip : PySem.W.plainGet K C_Strip Str.empty = true)
    (hd_Strip : PySem.W.hasDictIn K C_Strip = true)
    (po_Strip : PySem.W.plainOver K C_Strip = true)
    (sa_Strip : PySem.W.findIn K (.ref C_Strip) "__setattr__" = some (some (.builtin "object.__setattr__")))
    (mk_Strip : PySem.W.makesIn K C_Strip = true)
    (kc_Strip : PySem.W.keepIn K (.ref C_Strip) = true)
    (f_Strip_sides : PySem.W.findIn K (.ref C_Strip) "sides" = some none)
    (f_Strip_sign : PySem.W.findIn K (.ref C_Strip) "sign" = some none)
    (f_Strip_row : PySem.W.findIn K (.ref C_Strip) "row" = some none)
    (f_Strip_steps : PySem.W.findIn K (.ref C_Strip) "steps" = some none)
    (n_MOST_ROWS : PySem.W.nsIn K mainGlobals "MOST_ROWS" = some (some (.int 4 tk_MOST_ROWS)))
    (n_MOST_SIGNS : PySem.W.nsIn K mainGlobals "MOST_SIGNS" = some (some (.int 4 tk_MOST_SIGNS)))
    (z_len : PySem.W.nsIn K mainGlobals "len" = some none)
    (z_max : PySem.W.nsIn K mainGlobals "max" = some none)
    (z_int : PySem.W.nsIn K mainGlobals "int" = some none)
    (z_range : PySem.W.nsIn K mainGlobals "range" = some none)
    (z_all : PySem.W.nsIn K mainGlobals "all" = some none)
    (z_list : PySem.W.nsIn K mainGlobals "list" = some none)
    (z_tuple : PySem.W.nsIn K mainGlobals "tuple" = some none)
    (z_sorted : PySem.W.nsIn K mainGlobals "sorted" = some none)
    (z_enumerate : PySem.W.nsIn K mainGlobals "enumerate" = some none) :
    ∃ fd : FuncData, (∀ (s : Shared) (v : Value), BindsTo s fd ⟨[v], []⟩ [("_law_script", v)]) ∧ ∀ base : Heap, K.In base → base.Ns mainGlobals mg → FnOk l.prog w K mg base CX0 6 fa fd ["_law_script"] (sp_law K) :=
  all_mk X G hfa (all_tx X G n_NoMachine n_Walk n_Strip n_L_at l_L_at c_L_at k_L_at n_L_purse l_L_purse c_L_purse k_L_purse n_L_mixed l_L_mixed c_L_mixed k_L_mixed n_L_draw l_L_draw c_L_draw k_L_draw n_L_entry l_L_entry c_L_entry k_L_entry n_L_machine l_L_machine c_L_machine k_L_machine n_L_order l_L_order c_L_order k_L_order n_L_named l_L_named c_L_named k_L_named n_L_turned l_L_turned c_L_turned k_L_turned n_L_mirrored l_L_mirrored c_L_mirrored k_L_mirrored n_is_entry l_is_entry c_is_entry k_is_entry n_is_machine l_is_machine c_is_machine k_is_machine n_must_machine l_must_machine c_must_machine k_must_machine n_Walk_init i_Walk_init l_Walk_init c_Walk_init k_Walk_init n_most_setups l_most_setups c_most_setups k_most_setups n_through l_through c_through k_through n_Walk_out i_Walk_out l_Walk_out c_Walk_out k_Walk_out n_Walk_place i_Walk_place l_Walk_place c_Walk_place k_Walk_place n_Walk_strip i_Walk_strip l_Walk_strip c_Walk_strip k_Walk_strip n_Walk_block i_Walk_block l_Walk_block c_Walk_block k_Walk_block n_by_blocks l_by_blocks c_by_blocks k_by_blocks n_L_side l_L_side c_L_side k_L_side n_L_runs l_L_runs c_L_runs k_L_runs n_Strip_init i_Strip_init l_Strip_init c_Strip_init k_Strip_init n_Strip_told i_Strip_told l_Strip_told c_Strip_told k_Strip_told n_put_run l_put_run c_put_run k_put_run n_taken l_taken c_taken k_taken n_Strip_stride i_Strip_stride l_Strip_stride c_Strip_stride k_Strip_stride n_Strip_step i_Strip_step l_Strip_step c_Strip_step k_Strip_step n_by_strides l_by_strides c_by_strides k_by_strides n_L_copied l_L_copied c_L_copied k_L_copied n_L_runs_named l_L_runs_named c_L_runs_named k_L_runs_named n_L_same_strides l_L_same_strides c_L_same_strides k_L_same_strides n_law l_law c_law k_law pg_Walk hd_Walk po_Walk sa_Walk mk_Walk kc_Walk f_Walk_long f_Walk_blocks f_Walk_at f_Walk_row f_Walk_side f_Walk_steps pg_Strip hd_Strip po_Strip sa_Strip mk_Strip kc_Strip f_Strip_sides f_Strip_sign f_Strip_row f_Strip_steps n_MOST_ROWS n_MOST_SIGNS z_len z_max z_int z_range z_all z_list z_tuple z_sorted z_enumerate) ⟨_, _, _, _, _, _, rfl⟩
end E
open PySem PySem.W PyProof.Rows
set_option maxRecDepth 100000 in
set_option maxHeartbeats 0 in
theorem PySem.Challenge.cw_endnever_k78_whole_long_strides_holds : PySem.Challenge.rw_endnever_k78_whole_long_strides.Holds := by
  w_on; o_law; k_head; (case hw => w_witness2)
  k_fill
  refine E.walk (l := PySem.Challenge.rw_endnever_k78_whole_long_strides) rfl rfl (fun w h Y => PySem.W.kIn_of Y) ?F
  case F =>
    intro w mg fa h KX G hmg
    refine' E.all_go KX G hmg ?n_NoMachine ?n_Walk ?n_Strip ?n_L_at ?l_L_at ?c_L_at ?k_L_at ?n_L_purse ?l_L_purse ?c_L_purse ?k_L_purse ?n_L_mixed ?l_L_mixed ?c_L_mixed ?k_L_mixed ?n_L_draw ?l_L_draw ?c_L_draw ?k_L_draw ?n_L_entry ?l_L_entry ?c_L_entry ?k_L_entry ?n_L_machine ?l_L_machine ?c_L_machine ?k_L_machine ?n_L_order ?l_L_order ?c_L_order ?k_L_order ?n_L_named ?l_L_named ?c_L_named ?k_L_named ?n_L_turned ?l_L_turned ?c_L_turned ?k_L_turned ?n_L_mirrored ?l_L_mirrored ?c_L_mirrored ?k_L_mirrored ?n_is_entry ?l_is_entry ?c_is_entry ?k_is_entry ?n_is_machine ?l_is_machine ?c_is_machine ?k_is_machine ?n_must_machine ?l_must_machine ?c_must_machine ?k_must_machine ?n_Walk_init ?i_Walk_init ?l_Walk_init ?c_Walk_init ?k_Walk_init ?n_most_setups ?l_most_setups ?c_most_setups ?k_most_setups ?n_through ?l_through ?c_through ?k_through ?n_Walk_out ?i_Walk_out ?l_Walk_out ?c_Walk_out ?k_Walk_out ?n_Walk_place ?i_Walk_place ?l_Walk_place ?c_Walk_place ?k_Walk_place ?n_Walk_strip ?i_Walk_strip ?l_Walk_strip ?c_Walk_strip ?k_Walk_strip ?n_Walk_block ?i_Walk_block ?l_Walk_block ?c_Walk_block ?k_Walk_block ?n_by_blocks ?l_by_blocks ?c_by_blocks ?k_by_blocks ?n_L_side ?l_L_side ?c_L_side ?k_L_side ?n_L_runs ?l_L_runs ?c_L_runs ?k_L_runs ?n_Strip_init ?i_Strip_init ?l_Strip_init ?c_Strip_init ?k_Strip_init ?n_Strip_told ?i_Strip_told ?l_Strip_told ?c_Strip_told ?k_Strip_told ?n_put_run ?l_put_run ?c_put_run ?k_put_run ?n_taken ?l_taken ?c_taken ?k_taken ?n_Strip_stride ?i_Strip_stride ?l_Strip_stride ?c_Strip_stride ?k_Strip_stride ?n_Strip_step ?i_Strip_step ?l_Strip_step ?c_Strip_step ?k_Strip_step ?n_by_strides ?l_by_strides ?c_by_strides ?k_by_strides ?n_L_copied ?l_L_copied ?c_L_copied ?k_L_copied ?n_L_runs_named ?l_L_runs_named ?c_L_runs_named ?k_L_runs_named ?n_L_same_strides ?l_L_same_strides ?c_L_same_strides ?k_L_same_strides ?n_law ?l_law ?c_law ?k_law ?pg_Walk ?hd_Walk ?po_Walk ?sa_Walk ?mk_Walk ?kc_Walk ?f_Walk_long ?f_Walk_blocks ?f_Walk_at ?f_Walk_row ?f_Walk_side ?f_Walk_steps ?pg_Strip ?hd_Strip ?po_Strip ?sa_Strip ?mk_Strip ?kc_Strip ?f_Strip_sides ?f_Strip_sign ?f_Strip_row ?f_Strip_steps ?n_MOST_ROWS ?n_MOST_SIGNS ?z_len ?z_max ?z_int ?z_range ?z_all ?z_list ?z_tuple ?z_sorted ?z_enumerate
    (case n_NoMachine => k_is); (case n_Walk => k_is); (case n_Strip => k_is); (case n_L_at => k_is); (case l_L_at => k_is); (case c_L_at => k_is); (case k_L_at => k_is); (case n_L_purse => k_is)
    (case l_L_purse => k_is); (case c_L_purse => k_is); (case k_L_purse => k_is); (case n_L_mixed => k_is); (case l_L_mixed => k_is); (case c_L_mixed => k_is); (case k_L_mixed => k_is); (case n_L_draw => k_is)
    (case l_L_draw => k_is); (case c_L_draw => k_is); (case k_L_draw => k_is); (case n_L_entry => k_is); (case l_L_entry => k_is); (case c_L_entry => k_is); (case k_L_entry => k_is); (case n_L_machine => k_is)
    (case l_L_machine => k_is); (case c_L_machine => k_is); (case k_L_machine => k_is); (case n_L_order => k_is); (case l_L_order => k_is); (case c_L_order => k_is); (case k_L_order => k_is); (case n_L_named => k_is)
    (case l_L_named => k_is); (case c_L_named => k_is); (case k_L_named => k_is); (case n_L_turned => k_is); (case l_L_turned => k_is); (case c_L_turned => k_is); (case k_L_turned => k_is); (case n_L_mirrored => k_is)
    (case l_L_mirrored => k_is); (case c_L_mirrored => k_is); (case k_L_mirrored => k_is); (case n_is_entry => k_is); (case l_is_entry => k_is); (case c_is_entry => k_is); (case k_is_entry => k_is); (case n_is_machine => k_is)
    (case l_is_machine => k_is); (case c_is_machine => k_is); (case k_is_machine => k_is); (case n_must_machine => k_is); (case l_must_machine => k_is); (case c_must_machine => k_is); (case k_must_machine => k_is); (case n_Walk_init => k_is)
    (case i_Walk_init => k_is); (case l_Walk_init => k_is); (case c_Walk_init => k_is); (case k_Walk_init => k_is); (case n_most_setups => k_is); (case l_most_setups => k_is); (case c_most_setups => k_is); (case k_most_setups => k_is)
    (case n_through => k_is); (case l_through => k_is); (case c_through => k_is); (case k_through => k_is); (case n_Walk_out => k_is); (case i_Walk_out => k_is); (case l_Walk_out => k_is); (case c_Walk_out => k_is)
    (case k_Walk_out => k_is); (case n_Walk_place => k_is); (case i_Walk_place => k_is); (case l_Walk_place => k_is); (case c_Walk_place => k_is); (case k_Walk_place => k_is); (case n_Walk_strip => k_is); (case i_Walk_strip => k_is)
    (case l_Walk_strip => k_is); (case c_Walk_strip => k_is); (case k_Walk_strip => k_is); (case n_Walk_block => k_is); (case i_Walk_block => k_is); (case l_Walk_block => k_is); (case c_Walk_block => k_is); (case k_Walk_block => k_is)
    (case n_by_blocks => k_is); (case l_by_blocks => k_is); (case c_by_blocks => k_is); (case k_by_blocks => k_is); (case n_L_side => k_is); (case l_L_side => k_is); (case c_L_side => k_is); (case k_L_side => k_is)
    (case n_L_runs => k_is); (case l_L_runs => k_is); (case c_L_runs => k_is); (case k_L_runs => k_is); (case n_Strip_init => k_is); (case i_Strip_init => k_is); (case l_Strip_init => k_is); (case c_Strip_init => k_is)
    (case k_Strip_init => k_is); (case n_Strip_told => k_is); (case i_Strip_told => k_is); (case l_Strip_told => k_is); (case c_Strip_told => k_is); (case k_Strip_told => k_is); (case n_put_run => k_is); (case l_put_run => k_is)
    (case c_put_run => k_is); (case k_put_run => k_is); (case n_taken => k_is); (case l_taken => k_is); (case c_taken => k_is); (case k_taken => k_is); (case n_Strip_stride => k_is); (case i_Strip_stride => k_is)
    (case l_Strip_stride => k_is); (case c_Strip_stride => k_is); (case k_Strip_stride => k_is); (case n_Strip_step => k_is); (case i_Strip_step => k_is); (case l_Strip_step => k_is); (case c_Strip_step => k_is); (case k_Strip_step => k_is)
    (case n_by_strides => k_is); (case l_by_strides => k_is); (case c_by_strides => k_is); (case k_by_strides => k_is); (case n_L_copied => k_is); (case l_L_copied => k_is); (case c_L_copied => k_is); (case k_L_copied => k_is)
    (case n_L_runs_named => k_is); (case l_L_runs_named => k_is); (case c_L_runs_named => k_is); (case k_L_runs_named => k_is); (case n_L_same_strides => k_is); (case l_L_same_strides => k_is); (case c_L_same_strides => k_is); (case k_L_same_strides => k_is)
    (case n_law => k_is); (case l_law => k_is); (case c_law => k_is); (case k_law => k_is); (case pg_Walk => k_is); (case hd_Walk => k_is); (case po_Walk => k_is); (case sa_Walk => k_is)
    (case mk_Walk => k_is); (case kc_Walk => k_is); (case f_Walk_long => k_is); (case f_Walk_blocks => k_is); (case f_Walk_at => k_is); (case f_Walk_row => k_is); (case f_Walk_side => k_is); (case f_Walk_steps => k_is)
    (case pg_Strip => k_is); (case hd_Strip => k_is); (case po_Strip => k_is); (case sa_Strip => k_is); (case mk_Strip => k_is); (case kc_Strip => k_is); (case f_Strip_sides => k_is); (case f_Strip_sign => k_is)
    (case f_Strip_row => k_is); (case f_Strip_steps => k_is); (case n_MOST_ROWS => k_is); (case n_MOST_SIGNS => k_is); (case z_len => k_is); (case z_max => k_is); (case z_int => k_is); (case z_range => k_is)
    (case z_all => k_is); (case z_list => k_is); (case z_tuple => k_is); (case z_sorted => k_is); (case z_enumerate => k_is)
#print axioms PySem.Challenge.cw_endnever_k78_whole_long_strides_holds
