import PyProof.Rows.All
import Wide.All
import OpenK.AllK
import Wide.FinOn
import HandS.ForMost
import HandS.SortRule
import HandS.IsInst
import HandS.TupAny
import HandS.TupMul
import HandS.Walk
import HandS.More
import HandS.ListItems
import HandS.Wide
import KE.KTupSum
import HandS.Style
import HandS.Deep
import HandS.SortInts
import KE.GoesMore
import KE.KDictKeyed
import KE.KeyNested
import PySem.Challenge.RW_endnever_k71_walks_by_blocks
set_option Elab.async false
set_option maxRecDepth 100000
set_option maxHeartbeats 4000000
namespace E
open PySem L2
/-! ### small words of our own -/
theorem inr_int {x : V} {ns : List Int} {i : Nat} (h : (ns.map V.int)[i]? = some x) : ∃ z, x = V.int z ∧ ns[i]? = some z := by
  rw [List.getElem?_map] at h
  cases e : ns[i]? with
  | none => rw [e] at h; cases h
  | some z => rw [e] at h; exact ⟨z, (Option.some.inj h).symm, rfl⟩
/-- F stands in H, whatever comes to it -/
theorem sm_new {F H : Hp} {p : Addr} {o : HO} (s : Same F H) (n : H p = Option.none) : Same F (upd H p o) := fun b u e => by
  rw [upd_ne (ne_of_none (s b u e) n)]
  exact s b u e
theorem sm_set {F H : Hp} {p : Addr} {o : HO} (s : Same F H) (n : F p = Option.none) : Same F (upd H p o) := fun b u e => by
  rw [upd_ne (ne_of_none e n)]
  exact s b u e
theorem sm_up {H : Hp} {p : Addr} {o : HO} (n : H p = none) : Same H (upd H p o) := sm_new (Same.refl H) n
theorem cut_63 {ns : List Int} (h : ns.length ≤ 63) : cutV (ns.map V.int) none (some 63) = ns.map V.int := by
  unfold cutV
  have e1 : HT.sIx (ns.map V.int).length 0 none = 0 := rfl
  have e2 : HT.sIx (ns.map V.int).length (ns.map V.int).length (some 63) = (ns.map V.int).length := by
    simp only [HT.sIx, List.length_map]
    rw [if_neg (by decide), show (63 : Int).toNat = 63 from rfl]
    omega
  rw [e1, e2, List.drop_zero, Nat.sub_zero, List.take_length]
theorem ifT {c : Bool} {A B : Prop} (h : c = true) (a : A) : if c = true then A else B := by
  rw [if_pos h]; exact a
theorem ifF {c : Bool} {A B : Prop} (h : c = false) (b : B) : if c = true then A else B := by
  rw [h, if_neg Bool.false_ne_true]; exact b
theorem one_le : 1 ≤ sizeLine := by decide
theorem two_le : 2 ≤ sizeLine := by decide
theorem three_le : 3 ≤ sizeLine := by decide
theorem five_le : 5 ≤ sizeLine := by decide
theorem nil_le : 0 ≤ sizeLine := by decide
theorem lt_size {n : Nat} (h : n ≤ 1000000) : n < sizeLine := Nat.lt_of_le_of_lt h (by decide)
theorem le_size {n : Nat} (h : n ≤ 1000000) : n ≤ sizeLine := Nat.le_of_lt (lt_size h)
theorem pi_listK {X : Cx} {K : PySem.W.Frag} {tg l : Expr} {tl : TE} (e : X.K = K) (h : PE X l tl) : PI X tg l (iList K tl) := by
  subst e; exact pi_list h
theorem pi_tupK {X : Cx} {K : PySem.W.Frag} {tg l : Expr} {tl : TE} (e : X.K = K) (h : PE X l tl) : PI X tg l (iTup K tl) := by
  subst e; exact pi_tup h
theorem crK {X : Cx} {K : PySem.W.Frag} {f : Value} {r : PySem.W.Frag → List V → Hp → VK → Prop} (e : X.K = K) (h : CallR X f (r X.K)) : CallR X f (r K) := by
  subst e; exact h
theorem orK {X : Cx} {K : PySem.W.Frag} {f : Value → Value → Sem Value} {r : PySem.W.Frag → R2} (e : X.K = K) (h : OpR X f (r X.K)) : OpR X f (r K) := by
  subst e; exact h
theorem ixK {X : Cx} {K : PySem.W.Frag} {r : PySem.W.Frag → R2} (e : X.K = K) (h : IxR X (r X.K)) : IxR X (r K) := by
  subst e; exact h
theorem slK {X : Cx} {K : PySem.W.Frag} {r : PySem.W.Frag → V → Option Int → Option Int → Hp → VK → Prop} (e : X.K = K) (h : SlR X (r X.K)) : SlR X (r K) := by
  subst e; exact h
def rLenQ (K : PySem.W.Frag) : List V → Hp → VK → Prop := fun xs H Q => ∃ p ys, xs = [.ref p] ∧ (SqL K H p ys ∨ SqT K H p ys) ∧ Q (.int ys.length) H
def rListQ (K : PySem.W.Frag) : List V → Hp → VK → Prop := fun xs H Q => ∃ p ys, xs = [.ref p] ∧ (SqL K H p ys ∨ SqT K H p ys) ∧ ∀ l, H l = none → Q (.ref l) (upd H l (.lst ys))
def rTupQ (K : PySem.W.Frag) : List V → Hp → VK → Prop := fun xs H Q => ∃ p ys, xs = [.ref p] ∧ ((SqL K H p ys ∧ ∀ l, H l = none → Q (.ref l) (upd H l (.tup ys))) ∨ (SqT K H p ys ∧ Q (.ref p) H))
theorem ne_of_none' {F H : Hp} {q : Addr} (s : Same F H) (n : H q = none) : F q = none := s.free n
/-- a comprehension without a test: its item comes in -/
theorem yes {σ : St} {H : Hp} {A : Hp → Prop} {B : Hp → Prop} (a : A H) : tYes σ H (fun b H3 => if b = true then A H3 else B H3) := by
  show if true = true then A H else B H
  rw [if_pos rfl]; exact a
theorem call_lenQ {X : Cx} : CallR X (.builtin "len") (rLenQ X.K) := call_len_seq
theorem call_listQ {X : Cx} : CallR X (.type "list") (rListQ X.K) := call_list_of
theorem call_tupQ {X : Cx} : CallR X (.type "tuple") (rTupQ X.K) := call_tuple_of
@[irreducible] def rDictP (K : PySem.W.Frag) : List V → Hp → VK → Prop := fun xs H Q => ∃ (a : Addr) (ps : List Addr) (kvs : List (Key × V)), xs = [.ref a] ∧ SqL K H a (ps.map V.ref) ∧ Paired (fun p kv => SqT K H p [kV kv.1, kv.2]) ps kvs ∧ ∀ p, H p = none → Q (.ref p) (upd H p (.dK (mergeK [] kvs)))
theorem call_dictQ {X : Cx} (hc : X.calm = true) : CallR X (.type "dict") (rDictP X.K) := by
  unfold rDictP
  exact call_dictP hc
@[irreducible] def rSortQ (K : PySem.W.Frag) : List V → Hp → VK → Prop := rSortedPO K
theorem call_sortQ {X : Cx} : CallR X (.builtin "sorted") (rSortQ X.K) := by
  unfold rSortQ
  exact cr_sortedPO
theorem pg_tupK {X : Cx} {K : PySem.W.Frag} {es : List Expr} {k n : Nat} {t : TGs} {pos : Pos} (e : X.K = K) (hc : X.calm = true) (h : PGs X es t) (hn : (assignEach es X.env).length = n := by rfl) (hst : (assignEach es X.env).findIdx? (·.1) = none := by rfl) : PG X (.Tuple es k pos) (gTup K n t) := by
  subst e; exact pg_tup hc h hn hst
theorem pe_fldK {X : Cx} {K : PySem.W.Frag} {e : Expr} {f : Str} {pos : Pos} {ta : TE} (ek : X.K = K) (he : PE X e ta) (hb : attributeBase e f X.env (eval e X.env) = eval e X.env) : PE X (.Attribute e f pos) (tFld K ta f) := by
  subst ek; exact pe_fld he hb
/-! ### what stands, what is new: F the frozen part (nobody changes it), H the heap; from F, H to F', H' with changes at mu alone -/
structure Gr (mu : Addr → Prop) (F H F' H' : Hp) : Prop where
  ff : Same F F'
  fh : Same F' H'
  nw : ∀ c o, F' c = some o → F c = some o ∨ H c = none
  fr : ∀ c o, H c = some o → ¬ mu c → H' c = some o
  th : ∀ c, H' c = none → H c = none
/-- nothing but new things -/
abbrev mu0 : Addr → Prop := fun _ => False
/-- the purse alone -/
abbrev muP (p : Addr) : Addr → Prop := fun c => c = p
section
variable {mu : Addr → Prop} {F H F1 H1 F2 H2 : Hp} {q : Addr} {o u : HO}
theorem Gr.refl (s : Same F H) : Gr mu F H F H := ⟨fun _ _ h => h, s, fun _ _ h => .inl h, fun _ _ h _ => h, fun _ h => h⟩
theorem Gr.trans (a : Gr mu F H F1 H1) (b : Gr mu F1 H1 F2 H2) : Gr mu F H F2 H2 where
  ff := fun c o h => b.ff c o (a.ff c o h)
  fh := b.fh
  nw := fun c o h => by
    rcases b.nw c o h with h | h
    · exact a.nw c o h
    · exact .inr (a.th c h)
  fr := fun c o h m => b.fr c o (a.fr c o h m) m
  th := fun c h => a.th c (b.th c h)
/-- a part that changes what is ours, or what mu has -/
theorem Gr.thn {mu' : Addr → Prop} (a : Gr mu F H F1 H1) (b : Gr mu' F1 H1 F2 H2) (k : ∀ c, mu' c → mu c ∨ H c = none) : Gr mu F H F2 H2 where
  ff := fun c o h => b.ff c o (a.ff c o h)
  fh := b.fh
  nw := fun c o h => by
    rcases b.nw c o h with h | h
    · exact a.nw c o h
    · exact .inr (a.th c h)
  fr := fun c o h m => b.fr c o (a.fr c o h m) fun z => (k c z).elim m fun n => by rw [n] at h; cases h
  th := fun c h => a.th c (b.th c h)
theorem Gr.weak {mu' : Addr → Prop} (a : Gr mu F H F1 H1) (m : ∀ c, mu c → mu' c) : Gr mu' F H F1 H1 :=
  ⟨a.ff, a.fh, a.nw, fun c o h n => a.fr c o h fun z => n (m c z), a.th⟩
theorem Gr.of0 (a : Gr mu0 F H F1 H1) : Gr mu F H F1 H1 := a.weak fun _ z => z.elim
/-- a new thing that nobody will change -/
theorem Gr.new (a : Gr mu F H F1 H1) (n : H1 q = none) : Gr mu F H (upd F1 q o) (upd H1 q o) where
  ff := fun c o h => by
    rw [upd_ne (ne_of_none (a.fh c o (a.ff c o h)) n)]
    exact a.ff c o h
  fh := fun c u h => by
    by_cases e : c = q
    · subst e; rw [upd_same] at h ⊢; exact h
    · rw [upd_ne e] at h ⊢; exact a.fh c u h
  nw := fun c u h => by
    by_cases e : c = q
    · subst e; exact .inr (a.th _ n)
    · rw [upd_ne e] at h; exact a.nw c u h
  fr := fun c u h m => by
    rw [upd_ne (ne_of_none (a.fr c u h m) n)]
    exact a.fr c u h m
  th := fun c h => by
    by_cases e : c = q
    · subst e; rw [upd_same] at h; cases h
    · rw [upd_ne e] at h; exact a.th c h
/-- a new thing that may be changed yet -/
theorem Gr.own (a : Gr mu F H F1 H1) (n : H1 q = none) : Gr mu F H F1 (upd H1 q o) where
  ff := a.ff
  fh := fun c u h => by
    rw [upd_ne (ne_of_none (a.fh c u h) n)]
    exact a.fh c u h
  nw := a.nw
  fr := fun c u h m => by
    rw [upd_ne (ne_of_none (a.fr c u h m) n)]
    exact a.fr c u h m
  th := fun c h => by
    by_cases e : c = q
    · subst e; rw [upd_same] at h; cases h
    · rw [upd_ne e] at h; exact a.th c h
/-- a change of what is ours, and not frozen -/
theorem Gr.set (a : Gr mu F H F1 H1) (f : F1 q = none) (m : H q = none ∨ mu q) : Gr mu F H F1 (upd H1 q o) where
  ff := a.ff
  fh := fun c u h => by
    rw [upd_ne (ne_of_none h f)]
    exact a.fh c u h
  nw := a.nw
  fr := fun c u h k => by
    have e : c ≠ q := by
      rintro rfl
      rcases m with m | m
      · rw [m] at h; cases h
      · exact k m
    rw [upd_ne e]
    exact a.fr c u h k
  th := fun c h => by
    by_cases e : c = q
    · subst e; rw [upd_same] at h; cases h
    · rw [upd_ne e] at h; exact a.th c h
/-- what was ours is changed no more -/
theorem Gr.frz (a : Gr mu F H F1 H1) (h : H1 q = some o) (n : H q = none) (f : F1 q = none) : Gr mu F H (upd F1 q o) H1 where
  ff := fun c u e => by
    rw [upd_ne (ne_of_none (a.ff c u e) f)]
    exact a.ff c u e
  fh := fun c u e => by
    by_cases k : c = q
    · subst k; rw [upd_same] at e; cases e; exact h
    · rw [upd_ne k] at e; exact a.fh c u e
  nw := fun c u e => by
    by_cases k : c = q
    · subst k; exact .inr n
    · rw [upd_ne k] at e; exact a.nw c u e
  fr := a.fr
  th := a.th
theorem Gr.free (a : Gr mu F H F1 H1) (n : H1 q = none) : F1 q = none := a.fh.free n
end
/-- an owned thing: new since H, not frozen, it is o now -/
structure Ow (H F H1 : Hp) (q : Addr) (o : HO) : Prop where
  n : H q = none
  f : F q = none
  h : H1 q = some o
section
variable {mu mu' : Addr → Prop} {H0 F H F1 H1 : Hp} {q r : Addr} {o u : HO}
theorem Ow.call (w : Ow H0 F H q o) (a : Gr mu F H F1 H1) (m : ¬ mu q) : Ow H0 F1 H1 q o :=
  ⟨w.n, (by
    cases e : F1 q with
    | none => rfl
    | some z =>
      rcases a.nw q z e with k | k
      · rw [w.f] at k; cases k
      · rw [w.h] at k; cases k), a.fr q o w.h m⟩
theorem Ow.ne (w : Ow H0 F H q o) (n : H r = none) : q ≠ r := ne_of_none w.h n
theorem Ow.new (w : Ow H0 F H q o) (n : H r = none) : Ow H0 (upd F r u) (upd H r u) q o :=
  ⟨w.n, by rw [upd_ne (w.ne n)]; exact w.f, by rw [upd_ne (w.ne n)]; exact w.h⟩
theorem Ow.own (w : Ow H0 F H q o) (n : H r = none) : Ow H0 F (upd H r u) q o :=
  ⟨w.n, w.f, by rw [upd_ne (w.ne n)]; exact w.h⟩
theorem Ow.mk1 (a : Gr mu H0' H0 F H) (n : H q = none) : Ow H0 F (upd H q o) q o := ⟨a.th q n, a.free n, upd_same⟩
theorem Ow.set (w : Ow H0 F H q o) : Ow H0 F (upd H q u) q u := ⟨w.n, w.f, upd_same⟩
theorem Ow.other (w : Ow H0 F H q o) (e : q ≠ r) : Ow H0 F (upd H r u) q o := ⟨w.n, w.f, by rw [upd_ne e]; exact w.h⟩
end
/-! ### what stands for a datum -/
def All2 {α β : Type} (r : α → β → Prop) (xs : List α) (ys : List β) : Prop := xs.length = ys.length ∧ ∀ (i : Nat) (x : α) (y : β), xs[i]? = some x → ys[i]? = some y → r x y
section
variable {α β : Type} {r s : α → β → Prop} {xs xs' : List α} {ys ys' : List β}
theorem All2.nil : All2 r [] [] := ⟨rfl, fun i x y h => by simp at h⟩
theorem All2.get (a : All2 r xs ys) {i : Nat} {y : β} (h : ys[i]? = some y) : ∃ x, xs[i]? = some x ∧ r x y := by
  have l := (List.getElem?_eq_some_iff.mp h).1
  have l' : i < xs.length := by rw [a.1]; exact l
  exact ⟨xs[i], List.getElem?_eq_getElem l', a.2 i _ y (List.getElem?_eq_getElem l') h⟩
theorem All2.get' (a : All2 r xs ys) {i : Nat} {x : α} (h : xs[i]? = some x) : ∃ y, ys[i]? = some y ∧ r x y := by
  have l := (List.getElem?_eq_some_iff.mp h).1
  have l' : i < ys.length := by rw [← a.1]; exact l
  exact ⟨ys[i], List.getElem?_eq_getElem l', a.2 i x _ h (List.getElem?_eq_getElem l')⟩
theorem All2.imp (a : All2 r xs ys) (f : ∀ x y, r x y → s x y) : All2 s xs ys := ⟨a.1, fun i x y h k => f x y (a.2 i x y h k)⟩
theorem All2.app (a : All2 r xs ys) (b : All2 r xs' ys') : All2 r (xs ++ xs') (ys ++ ys') := by
  refine ⟨by rw [List.length_append, List.length_append, a.1, b.1], fun i x y h k => ?_⟩
  by_cases l : i < xs.length
  · rw [List.getElem?_append_left l] at h
    rw [List.getElem?_append_left (by rw [← a.1]; exact l)] at k
    exact a.2 i x y h k
  · rw [List.getElem?_append_right (by omega)] at h
    rw [List.getElem?_append_right (by rw [← a.1]; omega), ← a.1] at k
    exact b.2 _ x y h k
theorem All2.one {x : α} {y : β} (h : r x y) : All2 r [x] [y] := ⟨rfl, fun i a b p q => by
  cases i with
  | zero => simp at p q; subst p; subst q; exact h
  | succ n => simp at p⟩
theorem All2.cons {x : α} {y : β} (h : r x y) (a : All2 r xs ys) : All2 r (x :: xs) (y :: ys) := (All2.one h).app a
theorem All2.set (a : All2 r xs ys) {x : α} {y : β} (h : r x y) (j : Nat) : All2 r (xs.set j x) (ys.set j y) := by
  refine ⟨by rw [List.length_set, List.length_set]; exact a.1, fun i u v p q => ?_⟩
  by_cases e : j = i
  · subst e
    rw [List.getElem?_set_self'] at p q
    cases e1 : xs[j]? with
    | none => rw [e1] at p; cases p
    | some z =>
      cases e2 : ys[j]? with
      | none => rw [e2] at q; cases q
      | some z2 =>
        rw [e1] at p; rw [e2] at q
        cases p; cases q
        exact h
  · rw [List.getElem?_set_ne e] at p q
    exact a.2 i u v p q
theorem All2.take (a : All2 r xs ys) (n : Nat) : All2 r (xs.take n) (ys.take n) := by
  refine ⟨by rw [List.length_take, List.length_take, a.1], fun i u v p q => ?_⟩
  rw [List.getElem?_take] at p q
  split at p
  · rw [if_pos (by assumption)] at q; exact a.2 i u v p q
  · cases p
theorem All2.drop (a : All2 r xs ys) (n : Nat) : All2 r (xs.drop n) (ys.drop n) := by
  refine ⟨by rw [List.length_drop, List.length_drop, a.1], fun i u v p q => ?_⟩
  rw [List.getElem?_drop] at p q
  exact a.2 _ u v p q
end
class Dat (α : Type) where
  rep : Hp → V → α → Prop
  mono : ∀ {H H' : Hp} {v : V} {d : α}, Same H H' → rep H v d → rep H' v d
  py : α → PyData
  dp : ∀ {K : PySem.W.Frag} {H : Hp} {v : V} {d : α}, rep H v d → Dp K H v (py d)
  can : ∀ d, (py d).canLay0 = true
  dep : Nat
  depth : ∀ d, (py d).depth ≤ dep
  eqv : ∀ a b, PyData.eqv (py a) (py b) = true ↔ a = b
section
variable {α β γ : Type}
/-- v stands for d in H -/
abbrev Is [Dat α] (H : Hp) (v : V) (d : α) : Prop := Dat.rep H v d
theorem Is.up [Dat α] {H H' : Hp} {v : V} {d : α} (h : Is H v d) (s : Same H H') : Is H' v d := Dat.mono s h
abbrev IsAll [Dat α] (H : Hp) (xs : List V) (ds : List α) : Prop := All2 (fun v d => Is H v d) xs ds
theorem IsAll.up [Dat α] {H H' : Hp} {xs : List V} {ds : List α} (h : IsAll H xs ds) (s : Same H H') : IsAll H' xs ds := h.imp fun _ _ z => Is.up z s
theorem dp_all [Dat α] {K : PySem.W.Frag} {H : Hp} : ∀ {xs : List V} {ds : List α}, IsAll H xs ds → DpAll K H xs (ds.map Dat.py)
  | [], [], _ => .nil
  | [], d :: ds, h => by have := h.1; simp at this
  | x :: xs, [], h => by have := h.1; simp at this
  | x :: xs, d :: ds, h => .cons (Dat.dp (h.2 0 x d rfl rfl)) (dp_all ⟨by have := h.1; simpa using this, fun i a b p q => h.2 (i + 1) a b (by simpa using p) (by simpa using q)⟩)
theorem can_all [Dat α] : ∀ ds : List α, PyData.canLayAll0 (ds.map Dat.py) = true
  | [] => rfl
  | d :: ds => by
    show (PyData.canLay0 (Dat.py d) && PyData.canLayAll0 (ds.map Dat.py)) = true
    rw [Dat.can, can_all ds]; rfl
theorem depth_all [Dat α] : ∀ ds : List α, PyData.depthAll (ds.map Dat.py) ≤ Dat.dep α
  | [] => Nat.zero_le _
  | d :: ds => by
    show max (PyData.depth (Dat.py d)) (PyData.depthAll (ds.map Dat.py)) ≤ _
    exact Nat.max_le.mpr ⟨Dat.depth d, depth_all ds⟩
theorem eqv_all [Dat α] : ∀ a b : List α, PyData.eqvAll (a.map Dat.py) (b.map Dat.py) = true ↔ a = b
  | [], [] => by simp [PyData.eqvAll]
  | [], _ :: _ => by simp [PyData.eqvAll]
  | _ :: _, [] => by simp [PyData.eqvAll]
  | x :: xs, y :: ys => by
    rw [List.map_cons, List.map_cons, PyData.eqvAll, Bool.and_eq_true, Dat.eqv, eqv_all xs ys, List.cons.injEq]
instance : Dat Int where
  rep := fun _ v i => v = .int i
  mono := fun _ h => h
  py := .int
  dp := fun h => h ▸ .int _
  can := fun _ => rfl
  dep := 0
  depth := fun _ => Nat.le_refl _
  eqv := fun a b => by simp [PyData.eqv]
instance : Dat Bool where
  rep := fun _ v i => v = .bl i
  mono := fun _ h => h
  py := .bool
  dp := fun h => h ▸ .bl _
  can := fun _ => rfl
  dep := 0
  depth := fun _ => Nat.le_refl _
  eqv := fun a b => by simp [PyData.eqv]
/-- a list of data -/
instance [Dat α] : Dat (List α) where
  rep := fun H v l => ∃ a xs, v = .ref a ∧ H a = some (.lst xs) ∧ IsAll H xs l
  mono := fun s h => by
    obtain ⟨a, xs, e, h, i⟩ := h
    exact ⟨a, xs, e, s _ _ h, IsAll.up i s⟩
  py := fun l => .list (l.map Dat.py)
  dp := fun h => by
    obtain ⟨a, xs, rfl, h, i⟩ := h
    exact .lst (SqL.of h) (dp_all i)
  can := fun d => can_all d
  dep := Dat.dep α + 1
  depth := fun d => Nat.succ_le_succ (depth_all d)
  eqv := fun a b => by rw [PyData.eqv]; exact eqv_all a b
/-- a tuple of data of one kind -/
structure Tup (α : Type) where
  l : List α
  deriving DecidableEq
instance [Dat α] : Dat (Tup α) where
  rep := fun H v l => ∃ a xs, v = .ref a ∧ H a = some (.tup xs) ∧ IsAll H xs l.l
  mono := fun s h => by
    obtain ⟨a, xs, e, h, i⟩ := h
    exact ⟨a, xs, e, s _ _ h, IsAll.up i s⟩
  py := fun l => .tuple (l.l.map Dat.py)
  dp := fun h => by
    obtain ⟨a, xs, rfl, h, i⟩ := h
    exact .tup (SqT.of h) (dp_all i)
  can := fun d => can_all d.l
  dep := Dat.dep α + 1
  depth := fun d => Nat.succ_le_succ (depth_all d.l)
  eqv := fun a b => by
    rw [PyData.eqv, eqv_all]
    obtain ⟨a⟩ := a; obtain ⟨b⟩ := b
    simp
/-- a pair; a triple -/
structure T2 (α β : Type) where
  a : α
  b : β
  deriving DecidableEq
structure T3 (α β γ : Type) where
  a : α
  b : β
  c : γ
  deriving DecidableEq
instance [Dat α] [Dat β] : Dat (T2 α β) where
  rep := fun H v d => ∃ p x y, v = .ref p ∧ H p = some (.tup [x, y]) ∧ Is H x d.a ∧ Is H y d.b
  mono := fun s h => by
    obtain ⟨p, x, y, e, h, i, j⟩ := h
    exact ⟨p, x, y, e, s _ _ h, Is.up i s, Is.up j s⟩
  py := fun d => .tuple [Dat.py d.a, Dat.py d.b]
  dp := fun h => by
    obtain ⟨p, x, y, rfl, h, i, j⟩ := h
    exact .tup (SqT.of h) (.cons (Dat.dp i) (.cons (Dat.dp j) .nil))
  can := fun d => by
    show (PyData.canLay0 (Dat.py d.a) && (PyData.canLay0 (Dat.py d.b) && true)) = true
    rw [Dat.can, Dat.can]; rfl
  dep := max (Dat.dep α) (Dat.dep β) + 1
  depth := fun d => by
    have h1 := Dat.depth d.a
    have h2 := Dat.depth d.b
    show max (PyData.depth (Dat.py d.a)) (max (PyData.depth (Dat.py d.b)) 0) + 1 ≤ _
    omega
  eqv := fun a b => by
    obtain ⟨a, a'⟩ := a; obtain ⟨b, b'⟩ := b
    simp [PyData.eqv, PyData.eqvAll, Dat.eqv]
instance [Dat α] [Dat β] [Dat γ] : Dat (T3 α β γ) where
  rep := fun H v d => ∃ p x y z, v = .ref p ∧ H p = some (.tup [x, y, z]) ∧ Is H x d.a ∧ Is H y d.b ∧ Is H z d.c
  mono := fun s h => by
    obtain ⟨p, x, y, z, e, h, i, j, k⟩ := h
    exact ⟨p, x, y, z, e, s _ _ h, Is.up i s, Is.up j s, Is.up k s⟩
  py := fun d => .tuple [Dat.py d.a, Dat.py d.b, Dat.py d.c]
  dp := fun h => by
    obtain ⟨p, x, y, z, rfl, h, i, j, k⟩ := h
    exact .tup (SqT.of h) (.cons (Dat.dp i) (.cons (Dat.dp j) (.cons (Dat.dp k) .nil)))
  can := fun d => by
    show (PyData.canLay0 (Dat.py d.a) && (PyData.canLay0 (Dat.py d.b) && (PyData.canLay0 (Dat.py d.c) && true))) = true
    rw [Dat.can, Dat.can, Dat.can]; rfl
  dep := max (Dat.dep α) (max (Dat.dep β) (Dat.dep γ)) + 1
  depth := fun d => by
    have h1 := Dat.depth d.a
    have h2 := Dat.depth d.b
    have h3 := Dat.depth d.c
    show max (PyData.depth (Dat.py d.a)) (max (PyData.depth (Dat.py d.b)) (max (PyData.depth (Dat.py d.c)) 0)) + 1 ≤ _
    omega
  eqv := fun a b => by
    obtain ⟨a, a', a''⟩ := a; obtain ⟨b, b', b''⟩ := b
    simp [PyData.eqv, PyData.eqvAll, Dat.eqv]
/-- None, or a datum that is a tuple or a list -/
class Big (α : Type) [Dat α] : Prop where
  big : ∀ d : α, (∃ l, Dat.py d = .tuple l) ∨ ∃ l, Dat.py d = .list l
instance [Dat α] : Big (List α) := ⟨fun d => .inr ⟨_, rfl⟩⟩
instance [Dat α] : Big (Tup α) := ⟨fun d => .inl ⟨_, rfl⟩⟩
instance [Dat α] [Dat β] : Big (T2 α β) := ⟨fun d => .inl ⟨_, rfl⟩⟩
instance [Dat α] [Dat β] [Dat γ] : Big (T3 α β γ) := ⟨fun d => .inl ⟨_, rfl⟩⟩
instance [Dat α] [Big α] : Dat (Option α) where
  rep := fun H v d => match d with
    | none => v = .non
    | some d => Is H v d
  mono := fun {H H' v d} s h => by
    cases d with
    | none => exact h
    | some d => exact Is.up (show Is H v d from h) s
  py := fun d => match d with
    | none => .none
    | some d => Dat.py d
  dp := fun {K H v d} h => by
    cases d with
    | none => cases h; exact .non
    | some d => exact Dat.dp (show Is H v d from h)
  can := fun d => by
    cases d with
    | none => rfl
    | some d => exact Dat.can d
  dep := Dat.dep α
  depth := fun d => by
    cases d with
    | none => exact Nat.zero_le _
    | some d => exact Dat.depth d
  eqv := fun a b => by
    cases a with
    | none =>
      cases b with
      | none => exact ⟨fun _ => rfl, fun _ => rfl⟩
      | some b =>
        refine ⟨fun h => ?_, fun h => nomatch h⟩
        have h : PyData.eqv .none (Dat.py b) = true := h
        rcases Big.big b with ⟨l, e⟩ | ⟨l, e⟩ <;> (rw [e] at h; simp only [PyData.eqv] at h; cases h)
    | some a =>
      cases b with
      | none =>
        refine ⟨fun h => ?_, fun h => nomatch h⟩
        have h : PyData.eqv (Dat.py a) .none = true := h
        rcases Big.big a with ⟨l, e⟩ | ⟨l, e⟩ <;> (rw [e] at h; simp only [PyData.eqv] at h; cases h)
      | some b =>
        show PyData.eqv (Dat.py a) (Dat.py b) = true ↔ _
        rw [Dat.eqv, Option.some.injEq]
end
/-- == and != of data -/
theorem eq_dat0 {α : Type} [Dat α] [DecidableEq α] {a b : α} (hd : Dat.dep α ≤ 64) : SeqAt.shaped (Dat.py a) = true ∧ SeqAt.shaped (Dat.py b) = true ∧ PyData.eqv (Dat.py a) (Dat.py b) = decide (a = b) := by
  refine ⟨?_, ?_, ?_⟩
  · show (PyData.canLay0 _ && decide _) = true
    rw [Dat.can, decide_eq_true (Nat.le_trans (Dat.depth a) hd)]; rfl
  · show (PyData.canLay0 _ && decide _) = true
    rw [Dat.can, decide_eq_true (Nat.le_trans (Dat.depth b) hd)]; rfl
  · rw [Bool.eq_iff_iff, Dat.eqv, decide_eq_true_iff]
theorem eq_dat {α : Type} [Dat α] [DecidableEq α] {K : PySem.W.Frag} {H : Hp} {x y : V} {a b : α} {Q : VK} (ha : Is H x a) (hb : Is H y b) (q : Q (.bl (decide (a = b))) H) (hd : Dat.dep α ≤ 64 := by decide) : rEqD K x y H Q := by
  obtain ⟨h1, h2, h3⟩ := eq_dat0 (a := a) (b := b) hd
  exact ⟨Dat.py a, Dat.py b, Dat.dp ha, Dat.dp hb, h1, h2, by rw [h3]; exact q⟩
theorem ne_dat {α : Type} [Dat α] [DecidableEq α] {K : PySem.W.Frag} {H : Hp} {x y : V} {a b : α} {Q : VK} (ha : Is H x a) (hb : Is H y b) (q : Q (.bl (!decide (a = b))) H) (hd : Dat.dep α ≤ 64 := by decide) : rNeD K x y H Q := by
  obtain ⟨h1, h2, h3⟩ := eq_dat0 (a := a) (b := b) hd
  exact ⟨Dat.py a, Dat.py b, Dat.dp ha, Dat.dp hb, h1, h2, by rw [h3]; exact q⟩
/-! ### machines -/
/-- an entry -/
inductive Ent where
  | emp
  | go (put way row : Int)
  deriving DecidableEq
def entO : Ent → HO
  | .emp => .tup []
  | .go p w r => .tup [.int p, .int w, .int r]
def entP : Ent → PyData
  | .emp => .tuple []
  | .go p w r => .tuple [.int p, .int w, .int r]
instance : Dat Ent where
  rep := fun H v e => ∃ a, v = .ref a ∧ H a = some (entO e)
  mono := fun s h => by obtain ⟨a, e, h⟩ := h; exact ⟨a, e, s _ _ h⟩
  py := entP
  dp := fun {K H v d} h => by
    obtain ⟨a, rfl, h⟩ := h
    cases d with
    | emp => exact .tup (SqT.of h) .nil
    | go p w r => exact .tup (SqT.of h) (.cons (.int _) (.cons (.int _) (.cons (.int _) .nil)))
  can := fun d => by cases d <;> rfl
  dep := 1
  depth := fun d => by cases d <;> simp [entP, PyData.depth, PyData.depthAll]
  eqv := fun a b => by cases a <;> cases b <;> simp [entP, PyData.eqv, PyData.eqvAll]
instance : Big Ent := ⟨fun d => by cases d <;> exact .inl ⟨_, rfl⟩⟩
abbrev Mach := List (List Ent)
/-! ### pairs of ints: a dict's items, sorted ones -/
abbrev PI := T2 Int Int
def dI (l : List PI) : List (Key × V) := l.map fun p => (Sum.inl p.a, V.int p.b)
def look (l : List PI) (x : Int) : Option Int := (l.find? fun p => decide (p.a = x)).map (·.b)
def put (l : List PI) (x v : Int) : List PI := if (l.any fun p => decide (p.a = x)) = true then l.map (fun p => if p.a = x then ⟨p.a, v⟩ else p) else l ++ [⟨x, v⟩]
def merge (l m : List PI) : List PI := m.foldl (fun acc p => put acc p.a p.b) l
theorem key_inl (a b : Int) : ((Sum.inl a : Key) = Sum.inl b) = (a = b) := propext ⟨Sum.inl.inj, fun h => by rw [h]⟩
theorem dI_val (x : Int) : ∀ l : List PI, valV (dI l) (Sum.inl x) = (look l x).map V.int
  | [] => rfl
  | p :: l => by
    have ih := dI_val x l
    show valV ((Sum.inl p.a, V.int p.b) :: dI l) (Sum.inl x) = _
    by_cases e : p.a = x
    · rw [valV_pos (by rw [key_inl]; exact e)]
      simp [look, e]
    · rw [valV_neg (by rw [key_inl]; exact e), ih]
      simp [look, e]
theorem dI_put (l : List PI) (x v : Int) : putK (dI l) (Sum.inl x) (.int v) = dI (put l x v) := by
  have e : ((dI l).any fun kv => decide (kv.1 = Sum.inl x)) = (l.any fun p => decide (p.a = x)) := by
    unfold dI
    rw [List.any_map]
    congr 1
    funext p
    simp only [Function.comp, key_inl]
  unfold putK put
  rw [e]
  by_cases a : (l.any fun p => decide (p.a = x)) = true
  · rw [if_pos a, if_pos a]
    unfold dI
    rw [List.map_map, List.map_map]
    congr 1
    funext p
    simp only [Function.comp, key_inl]
    by_cases h : p.a = x
    · rw [if_pos h, if_pos h]
    · rw [if_neg h, if_neg h]
  · rw [if_neg a, if_neg a]
    unfold dI
    rw [List.map_append]
    rfl
theorem dI_merge (m : List PI) : ∀ l : List PI, mergeK (dI l) (dI m) = dI (merge l m) := by
  induction m with
  | nil => intro l; rfl
  | cons p m ih =>
    intro l
    show mergeK (putK (dI l) (Sum.inl p.a) (.int p.b)) (dI m) = dI (merge (put l p.a p.b) m)
    rw [dI_put]
    exact ih _
theorem look_nil (x : Int) : look [] x = none := rfl
theorem look_cons (p : PI) (l : List PI) (x : Int) : look (p :: l) x = if p.a = x then some p.b else look l x := by
  unfold look
  rw [List.find?_cons]
  by_cases e : p.a = x
  · simp [e]
  · simp [e]
theorem look_any (x : Int) : ∀ l : List PI, (l.any fun p => decide (p.a = x)) = (look l x).isSome
  | [] => rfl
  | p :: l => by
    rw [List.any_cons, look_any x l, look_cons]
    by_cases e : p.a = x
    · simp [e]
    · simp [e]
theorem look_map (x y v : Int) : ∀ l : List PI, look (l.map fun p => if p.a = x then ⟨p.a, v⟩ else p) y = (look l y).map fun z => if y = x then v else z
  | [] => rfl
  | p :: l => by
    rw [List.map_cons, look_cons, look_cons, look_map x y v l]
    by_cases e : p.a = x
    · rw [if_pos e]
      by_cases f : p.a = y
      · rw [if_pos f, if_pos f]
        rw [← f, Option.map_some, if_pos e]
      · rw [if_neg f, if_neg f]
    · rw [if_neg e]
      by_cases f : p.a = y
      · rw [if_pos f, if_pos f, Option.map_some, if_neg (by rw [← f]; exact e)]
      · rw [if_neg f, if_neg f]
theorem look_app (l m : List PI) (x : Int) : look (l ++ m) x = (look l x).or (look m x) := by
  induction l with
  | nil => rfl
  | cons p l ih =>
    rw [List.cons_append, look_cons, look_cons, ih]
    by_cases e : p.a = x
    · rw [if_pos e, if_pos e]; rfl
    · rw [if_neg e, if_neg e]
theorem look_put (l : List PI) (x v y : Int) : look (put l x v) y = if y = x then some v else look l y := by
  unfold put
  by_cases a : (l.any fun p => decide (p.a = x)) = true
  · rw [if_pos a, look_map]
    by_cases e : y = x
    · rw [if_pos e, e]
      rw [look_any] at a
      obtain ⟨z, hz⟩ := Option.isSome_iff_exists.mp a
      rw [hz, Option.map_some, if_pos rfl]
    · rw [if_neg e]
      cases look l y with
      | none => rfl
      | some z => rw [Option.map_some, if_neg e]
  · rw [if_neg a, look_app]
    rw [look_any] at a
    by_cases e : y = x
    · rw [if_pos e, e]
      cases h : look l x with
      | none => rw [look_cons, if_pos rfl]; rfl
      | some z => rw [h] at a; exact absurd rfl a
    · rw [if_neg e, look_cons, if_neg (fun z => e z.symm), look_nil]
      cases look l y <;> rfl
/-- no place twice -/
def Nd (l : List PI) : Prop := (l.map (·.a)).Nodup
theorem look_none {l : List PI} {x : Int} : look l x = none ↔ x ∉ l.map (·.a) := by
  induction l with
  | nil => simp [look_nil]
  | cons p l ih =>
    rw [look_cons, List.map_cons, List.mem_cons]
    by_cases e : p.a = x
    · rw [if_pos e]; simp [e]
    · rw [if_neg e, ih]
      constructor
      · intro h z
        rcases z with z | z
        · exact e z.symm
        · exact h z
      · intro h z
        exact h (.inr z)
theorem look_mem {l : List PI} (h : Nd l) {p : PI} (m : p ∈ l) : look l p.a = some p.b := by
  induction l with
  | nil => cases m
  | cons q l ih =>
    have h' := List.nodup_cons.mp h
    rw [look_cons]
    rcases List.mem_cons.mp m with rfl | m
    · rw [if_pos rfl]
    · rw [if_neg (fun e => h'.1 (by show q.a ∈ _; rw [e]; exact List.mem_map.mpr ⟨p, m, rfl⟩))]
      exact ih h'.2 m
theorem mem_look {l : List PI} {x v : Int} (h : look l x = some v) : (⟨x, v⟩ : PI) ∈ l := by
  induction l with
  | nil => cases h
  | cons q l ih =>
    rw [look_cons] at h
    by_cases e : q.a = x
    · rw [if_pos e] at h
      cases h
      subst e
      exact List.mem_cons_self
    · rw [if_neg e] at h
      exact List.mem_cons_of_mem _ (ih h)
theorem nd_put {l : List PI} (h : Nd l) (x v : Int) : Nd (put l x v) := by
  unfold put
  by_cases a : (l.any fun p => decide (p.a = x)) = true
  · rw [if_pos a]
    unfold Nd
    rw [List.map_map]
    have e : ((fun p : PI => p.a) ∘ fun p : PI => if p.a = x then (⟨p.a, v⟩ : PI) else p) = fun p : PI => p.a := by
      funext p
      simp only [Function.comp]
      split <;> rfl
    rw [e]; exact h
  · rw [if_neg a]
    unfold Nd
    rw [List.map_append]
    refine nd_snoc h ?_
    rw [look_any] at a
    refine look_none.mp ?_
    cases q : look l x with
    | none => rfl
    | some z => rw [q] at a; exact absurd rfl a
theorem put_new {l : List PI} {x : Int} (v : Int) (h : look l x = none) : put l x v = l ++ [⟨x, v⟩] := by
  unfold put
  rw [look_any, h]
  rfl
theorem merge_nd {m : List PI} : ∀ {l : List PI}, Nd (l ++ m) → merge l m = l ++ m := by
  induction m with
  | nil => intro l _; simp [merge]
  | cons p m ih =>
    intro l h
    have e : l ++ p :: m = (l ++ [p]) ++ m := by simp
    have hn : look l p.a = none := by
      refine look_none.mpr fun z => ?_
      unfold Nd at h
      rw [List.map_append] at h
      exact (List.nodup_append.mp h).2.2 _ z _ (by rw [List.map_cons]; exact List.mem_cons_self) rfl
    show merge (put l p.a p.b) m = _
    rw [put_new _ hn, e]
    exact ih (by rw [← e]; exact h)
theorem nd_nil : Nd [] := List.nodup_nil
theorem put_len (l : List PI) (x v : Int) : (put l x v).length ≤ l.length + 1 := by
  unfold put
  split
  · rw [List.length_map]; omega
  · rw [List.length_append]; exact Nat.le_refl _
/-- Python's order of pairs -/
def leP (p q : PI) : Bool := decide (p.a < q.a) || (decide (p.a = q.a) && decide (p.b ≤ q.b))
theorem leP_iff {p q : PI} : leP p q = true ↔ p.a < q.a ∨ (p.a = q.a ∧ p.b ≤ q.b) := by simp [leP]
def ins (p : PI) : List PI → List PI
  | [] => [p]
  | q :: l => if leP p q = true then p :: q :: l else q :: ins p l
def srt (l : List PI) : List PI := l.foldr ins []
theorem ins_perm (p : PI) : ∀ l : List PI, (ins p l).Perm (p :: l)
  | [] => List.Perm.refl _
  | q :: l => by
    unfold ins
    split
    · exact List.Perm.refl _
    · exact (List.Perm.cons q (ins_perm p l)).trans (List.Perm.swap p q l)
theorem srt_perm : ∀ l : List PI, (srt l).Perm l
  | [] => List.Perm.refl _
  | p :: l => (ins_perm p (srt l)).trans ((srt_perm l).cons p)
abbrev LeP (p q : PI) : Prop := leP p q = true
theorem leP_trans {p q r : PI} (h1 : LeP p q) (h2 : LeP q r) : LeP p r := by
  have a := leP_iff.mp h1
  have b := leP_iff.mp h2
  exact leP_iff.mpr (by omega)
theorem leP_total (p q : PI) : LeP p q ∨ LeP q p := by
  show leP p q = true ∨ leP q p = true
  rw [leP_iff, leP_iff]
  omega
theorem ins_srt (p : PI) : ∀ {l : List PI}, l.Pairwise LeP → (ins p l).Pairwise LeP
  | [], _ => List.pairwise_singleton _ _
  | q :: l, h => by
    have h' := List.pairwise_cons.mp h
    unfold ins
    split
    · rename_i e
      refine List.pairwise_cons.mpr ⟨fun x m => ?_, h⟩
      rcases List.mem_cons.mp m with rfl | m
      · exact e
      · exact leP_trans e (h'.1 x m)
    · rename_i e
      refine List.pairwise_cons.mpr ⟨fun x m => ?_, ins_srt p h'.2⟩
      rcases List.mem_cons.mp ((ins_perm p l).mem_iff.mp m) with rfl | m
      · rcases leP_total q x with z | z
        · exact z
        · exact absurd z e
      · exact h'.1 x m
theorem srt_srt : ∀ l : List PI, (srt l).Pairwise LeP
  | [] => List.Pairwise.nil
  | p :: l => ins_srt p (srt_srt l)
theorem leP_anti {p q : PI} (h1 : LeP p q) (h2 : LeP q p) : p = q := by
  have a := leP_iff.mp h1
  have b := leP_iff.mp h2
  obtain ⟨x, y⟩ := p
  obtain ⟨x', y'⟩ := q
  have e1 : x = x' := by show x = x'; simp only at a b; omega
  have e2 : y = y' := by simp only at a b; omega
  rw [e1, e2]
/-- there is one sorted list of them -/
theorem srt_uniq : ∀ {l m : List PI}, l.Pairwise LeP → m.Pairwise LeP → l.Perm m → l = m
  | [], m, _, _, h => (List.Perm.eq_nil h.symm).symm
  | x :: l, [], _, _, h => absurd h.length_eq (by simp)
  | x :: l, y :: m, hl, hm, h => by
    have l' := List.pairwise_cons.mp hl
    have m' := List.pairwise_cons.mp hm
    have h1 : LeP y x := by
      rcases List.mem_cons.mp (h.mem_iff.mp (List.mem_cons_self (a := x) (l := l))) with e | z
      · rw [e]; rcases leP_total y y with z | z <;> exact z
      · exact m'.1 x z
    have h2 : LeP x y := by
      rcases List.mem_cons.mp (h.mem_iff.mpr (List.mem_cons_self (a := y) (l := m))) with e | z
      · rw [e]; rcases leP_total x x with z | z <;> exact z
      · exact l'.1 y z
    have e := leP_anti h2 h1
    subst e
    rw [srt_uniq l'.2 m'.2 h.cons_inv]
theorem srt_of {l m : List PI} (h : m.Pairwise LeP) (p : m.Perm l) : m = srt l := srt_uniq h (srt_srt l) (p.trans (srt_perm l).symm)
/-- what a value says as a pair, read off the heap -/
def pOf (H : Hp) : V → Int × Int
  | .ref t => match H t with
    | some (.tup [.int i, .int j]) => (i, j)
    | _ => (0, 0)
  | _ => (0, 0)
theorem pOf_is {H : Hp} {v : V} {d : PI} (h : Is H v d) : ∃ t, v = .ref t ∧ H t = some (.tup [.int (pOf H v).1, .int (pOf H v).2]) ∧ d = ⟨(pOf H v).1, (pOf H v).2⟩ := by
  obtain ⟨t, x, y, rfl, h1, h2, h3⟩ := h
  have h2 : x = .int d.a := h2
  have h3 : y = .int d.b := h3
  subst h2
  subst h3
  have e : pOf H (.ref t) = (d.a, d.b) := by simp only [pOf, h1]
  exact ⟨t, rfl, by rw [e]; exact h1, by rw [e]⟩
theorem all_of {H : Hp} : ∀ {xs : List V} {l : List PI}, IsAll H xs l → l = xs.map fun v => (⟨(pOf H v).1, (pOf H v).2⟩ : PI) := fun {xs l} h => by
  refine List.ext_getElem? fun i => ?_
  rw [List.getElem?_map]
  cases e : xs[i]? with
  | none =>
    have := List.getElem?_eq_none_iff.mp e
    exact List.getElem?_eq_none_iff.mpr (by rw [← h.1]; exact this)
  | some x =>
    obtain ⟨d, hd, hx⟩ := h.get' e
    obtain ⟨t, _, _, q⟩ := pOf_is hx
    rw [hd, q]
    rfl
/-- sorted of a list of pairs -/
theorem sort_pairs {K : PySem.W.Frag} {F H : Hp} {a : Addr} {xs : List V} {l : List PI} {Q : VK} (sF : Same F H) (hx : IsAll F xs l) (ha : SqL K H a xs) (q : ∀ ys p, H p = none → IsAll F ys (srt l) → Q (.ref p) (upd H p (.lst ys))) : rSortQ K [.ref a] H Q := by
  unfold rSortQ
  refine ⟨a, xs, pOf F, rfl, ha, fun x m => ?_, fun ys p hs hb np => q ys p np ?_⟩
  · obtain ⟨i, hi⟩ := List.getElem?_of_mem m
    obtain ⟨d, _, hd⟩ := hx.get' hi
    obtain ⟨t, e, h, _⟩ := pOf_is hd
    exact ⟨t, e, sF _ _ h⟩
  · have el := all_of hx
    have hys : IsAll F ys (ys.map fun v => (⟨(pOf F v).1, (pOf F v).2⟩ : PI)) := by
      refine ⟨by rw [List.length_map], fun i x y h1 h2 => ?_⟩
      rw [List.getElem?_map, h1] at h2
      cases h2
      have m : x ∈ xs := hb.perm.mem_iff.mp (List.mem_of_getElem? h1)
      obtain ⟨j, hj⟩ := List.getElem?_of_mem m
      obtain ⟨d, _, hd⟩ := hx.get' hj
      obtain ⟨t, e, h, e2⟩ := pOf_is hd
      exact ⟨t, _, _, e, h, rfl, rfl⟩
    have es : (ys.map fun v => (⟨(pOf F v).1, (pOf F v).2⟩ : PI)) = srt l := by
      refine srt_of ?_ ?_
      · refine List.pairwise_map.mpr (List.Pairwise.imp (fun {x y} h => ?_) hs)
        have h := SrtO.lexB_no.mp h
        exact leP_iff.mpr (by simp only; omega)
      · rw [el]
        exact hb.perm.map _
    rw [es] at hys
    exact hys
theorem pairs_of {K : PySem.W.Frag} {H : Hp} : ∀ {xs : List V} {l : List PI}, IsAll H xs l → ∃ ps : List Addr, xs = ps.map V.ref ∧ Paired (fun p kv => SqT K H p [kV kv.1, kv.2]) ps (dI l)
  | [], [], _ => ⟨[], rfl, .nil⟩
  | [], d :: l, h => by have := h.1; simp at this
  | x :: xs, [], h => by have := h.1; simp at this
  | x :: xs, d :: l, h => by
    obtain ⟨t, x1, x2, e, h1, h2, h3⟩ := h.2 0 x d rfl rfl
    have h2 : x1 = .int d.a := h2
    have h3 : x2 = .int d.b := h3
    subst h2
    subst h3
    obtain ⟨ps, e2, p⟩ := pairs_of (K := K) (xs := xs) (l := l) ⟨by have := h.1; simpa using this, fun i a b p q => h.2 (i + 1) a b (by simpa using p) (by simpa using q)⟩
    exact ⟨t :: ps, by rw [e, e2]; rfl, .cons (SqT.of h1) p⟩
/-- dict(pairs) -/
theorem dict_pairs {K : PySem.W.Frag} {H : Hp} {a : Addr} {xs : List V} {l : List PI} {Q : VK} (hx : IsAll H xs l) (ha : SqL K H a xs) (q : ∀ p, H p = none → Q (.ref p) (upd H p (.dK (dI (merge [] l))))) : rDictP K [.ref a] H Q := by
  unfold rDictP
  obtain ⟨ps, e, p⟩ := pairs_of (K := K) hx
  refine ⟨a, ps, dI l, rfl, by rw [← e]; exact ha, p, fun d nd => ?_⟩
  have e2 : mergeK [] (dI l) = dI (merge [] l) := dI_merge l []
  rw [e2]
  exact q d nd
/-! ### a dict under its lock -/
theorem lock_in {F H : Hp} {d : Addr} {o : HO} (s : Same F H) : Same (fun c => if c = d then none else F c) (upd H d o) := fun c u h => by
  by_cases e : c = d
  · simp only [e, if_true] at h; cases h
  · simp only [e, if_false] at h
    rw [upd_ne e]; exact s c u h
theorem lock_out {F H F2 H2 : Hp} {d : Addr} {o u : HO} (s : Same F H) (h : H d = some u) (g : Gr mu0 (fun c => if c = d then none else F c) (upd H d o) F2 H2) :
    H2 d = some o ∧ Same F2 (fun c => if c = d then F d else F2 c) ∧ Gr mu0 F H (fun c => if c = d then F d else F2 c) (upd H2 d u) := by
  have n2 : F2 d = none := by
    cases e : F2 d with
    | none => rfl
    | some z =>
      rcases g.nw d z e with k | k
      · simp only [if_true] at k; cases k
      · rw [upd_same] at k; cases k
  refine ⟨g.fr d o upd_same (fun z => z), fun c z e => ?_, ⟨fun c z e => ?_, fun c z e => ?_, fun c z e => ?_, fun c z e m => ?_, fun c e => ?_⟩⟩
  · by_cases k : c = d
    · rw [k, n2] at e; cases e
    · simp only [k, if_false]; exact e
  · by_cases k : c = d
    · simp only [k, if_true]; rw [← k]; exact e
    · simp only [k, if_false]
      exact g.ff c z (by simp only [k, if_false]; exact e)
  · by_cases k : c = d
    · simp only [k, if_true] at e
      rw [k, upd_same, ← h]
      exact s d z e
    · simp only [k, if_false] at e
      rw [upd_ne k]; exact g.fh c z e
  · by_cases k : c = d
    · simp only [k, if_true] at e
      exact .inl (by rw [k]; exact e)
    · simp only [k, if_false] at e
      rcases g.nw c z e with q | q
      · simp only [k, if_false] at q; exact .inl q
      · rw [upd_ne k] at q; exact .inr q
  · by_cases k : c = d
    · rw [k, upd_same]; rw [k, h] at e; exact e
    · rw [upd_ne k]
      exact g.fr c z (by rw [upd_ne k]; exact e) (fun z => z)
  · by_cases k : c = d
    · rw [k, upd_same] at e; cases e
    · rw [upd_ne k] at e
      have q := g.th c e
      rw [upd_ne k] at q; exact q
/-- the signs that aren't 0, in order -/
def nz (p : PI) : Bool := decide (p.b ≠ 0)
def told (l : List PI) : List PI := srt (l.filter nz)
theorem dI_get {l : List PI} {i : Nat} (h : i < l.length) : (dI l)[i]? = some (Sum.inl l[i].a, V.int l[i].b) := by
  unfold dI
  rw [List.getElem?_map, List.getElem?_eq_getElem h]
  rfl
theorem filter_take_succ {l : List PI} {f : PI → Bool} {i : Nat} (h : i < l.length) : (l.take (i + 1)).filter f = (l.take i).filter f ++ (if f l[i] = true then [l[i]] else []) := by
  rw [List.take_add_one, List.getElem?_eq_getElem h, List.filter_append]
  show _ ++ List.filter f [l[i]] = _
  rw [List.filter_cons]
  split <;> rfl
theorem nd_srt {l : List PI} (h : Nd l) : Nd (srt l) := ((srt_perm l).map (fun p : PI => p.a)).nodup_iff.mpr h
theorem mem_srt {l : List PI} {q : PI} : q ∈ srt l ↔ q ∈ l := (srt_perm l).mem_iff
theorem mem_put {l : List PI} {x v : Int} {q : PI} (m : q ∈ put l x v) : q ∈ l ∨ q = ⟨x, v⟩ := by
  unfold put at m
  split at m
  · obtain ⟨z, hz, e⟩ := List.mem_map.mp m
    split at e
    · rename_i h1 h2
      exact .inr (by rw [← e, h2])
    · exact .inl (by rw [← e]; exact hz)
  · rcases List.mem_append.mp m with m | m
    · exact .inl m
    · exact .inr (List.mem_singleton.mp m)
/-! ### sorted(d.items()), d a dict of ints to ints -/
section
open PySem.Spec PyProof.Rows
variable {X : Cx}
/-- many new things are tracked at once -/
theorem inv_many {pins : List (Addr × Obj)} {σ : L2.St} {H H' : Hp} {s : Shared} {h' : Heap} {tk : Nat} {as : List Addr} (I : Inv X pins σ H s) (k : ∀ b o, s.heap.get? b = some o → h'.get? b = some o) (hp : ∀ a ∈ as, s.heap.objs.size ≤ a)
    (p1 : ∀ b, b ∉ as → H' b = H b) (p2 : ∀ b ∈ as, ∀ o, H' b = some o → ObjOk X.prog X.w H' h' b o) : Inv X pins σ H' { s with heap := h', toks := tk } := by
  have old : ∀ b o, s.heap.get? b = some o → b ∉ as := fun b o e z => Nat.lt_irrefl _ (Nat.lt_of_lt_of_le (Heap.lt_size e) (hp b z))
  have trc : ∀ b o, H b = some o → b ∉ as := fun b o e z => by
    have := I.hok.lt e
    exact Nat.lt_irrefl _ (Nat.lt_of_lt_of_le this (hp b z))
  have kp : ∀ b o, H b = some o → H' b = some o := fun b o e => by rw [p1 b (trc b o e)]; exact e
  refine I.un ⟨fun b o q _ _ _ => k b o q, fun b o q _ _ _ => ⟨o.slots, k b o q⟩, fun b o q n _ => by rw [p1 b (old b o q)]; exact n, fun b o q _ => ⟨o, k b o q⟩, fun b xs e => kp b _ e, fun b o u e => kp b _ e, fun b ps e => ⟨#[], by rw [kp b _ e]; simp⟩⟩ fun b o e => ?_
  by_cases m : b ∈ as
  · exact p2 b m o e
  · rw [p1 b m] at e
    exact (I.hok b o e).stay (fun c u _ q => k c u q) (fun c q => kp c _ q) fun c xs q => kp c _ q
/-- the pair that stands at a -/
def pzAt (zs : List (Addr × PI)) (a : Addr) : Option PI := (zs.find? fun z => decide (z.1 = a)).map (·.2)
theorem pzAt_ix : ∀ {zs : List (Addr × PI)}, (zs.map (·.1)).Nodup → ∀ {j : Nat} {z : Addr × PI}, zs[j]? = some z → pzAt zs z.1 = some z.2
  | [], _, j, z, h => by cases h
  | y :: ys, nd, 0, z, h => by
    have e := Option.some.inj h
    subst e
    simp [pzAt]
  | y :: ys, nd, j + 1, z, h => by
    have nd' := List.nodup_cons.mp nd
    have m : z.1 ∈ ys.map (·.1) := List.mem_map.mpr ⟨z, List.mem_of_getElem? (show ys[j]? = some z from h), rfl⟩
    have ih := pzAt_ix nd'.2 (show ys[j]? = some z from h)
    have ne : ¬ y.1 = z.1 := fun e => nd'.1 (by show y.1 ∈ _; rw [e]; exact m)
    unfold pzAt at ih ⊢
    rw [List.find?_cons, decide_eq_false ne]
    exact ih
theorem pzAt_no {zs : List (Addr × PI)} {a : Addr} (h : a ∉ zs.map (·.1)) : pzAt zs a = none := by
  unfold pzAt
  rw [List.find?_eq_none.mpr fun z m e => h (List.mem_map.mpr ⟨z, m, of_decide_eq_true e⟩)]
  rfl
def trk (H : Hp) (B : Addr) (L : HO) (zs : List (Addr × PI)) : Hp := fun b => if b = B then some L else match pzAt zs b with
  | some q => some (.tup [.int q.a, .int q.b])
  | none => H b
def adOf : Value → Addr
  | .ref a => a
  | _ => 0
@[irreducible] def rSortIt : V → Hp → VK → Prop := fun x H Q => ∃ (d : Addr) (l : List PI), x = .ref d ∧ H d = some (.dK (dI l)) ∧
  ∀ (H' : Hp) (p : Addr) (ys : List Addr), Same H H' → H p = none → (∀ t ∈ ys, H t = none) → p ∉ ys → (∀ b, b ≠ p → b ∉ ys → H' b = H b) → H' p = some (.lst (ys.map V.ref)) → All2 (fun t (q : PI) => H' t = some (.tup [.int q.a, .int q.b])) ys (srt l) → Q (.ref p) H'
def tSortIt (te : TE) : TE := fun σ H Q => te σ H fun x H1 => rSortIt x H1 Q
theorem pe_sortedItems {e : Expr} {te : TE} {p apos cpos pos : Pos} (hc : X.calm = true) (he : PE X e te) (hg : Gl X "sorted") (hm : X.mg "sorted" = none) (hv : bootBuiltins "sorted" = some (.builtin "sorted")) (hbase : attributeBase e "items" X.env (eval e X.env) = eval e X.env := by rfl) (hline : (apos.endLine == cpos.line) = true := by rfl)
    (hs : starEach [.Call (.Attribute e "items" apos) [] [] cpos] X.env = (false, eval (.Call (.Attribute e "items" apos) [] [] cpos) X.env) :: starEach [] X.env := by rfl) :
    PE X (.Call (.Name "sorted" p) [.Call (.Attribute e "items" apos) [] [] cpos] [] pos) (tSortIt te) := by
  refine ⟨fun pins s σ H Q I hq => ?_⟩
  refine wpAny_Call_Name_kw (ld_blt I hg hm hv ?_)
  refine PyProof.Rows.callWith_builtin1 ?_ hs rfl
  rw [hs]
  show wpAny _ _ (spliced ((false, eval (.Call (.Attribute e "items" apos) [] [] cpos) X.env) :: backTo pos (starEach [] X.env))) _ _ s
  refine Calls.spliced_cons ?_
  refine wpAny_Call_method (T := "dict") (id := "dict.items") hbase rfl hline F.plainAttrs_dict F.slot_dict_items F.type_dict_items (thn (he.run pins s σ H _ I hq) fun u s1 ⟨x, H1, I1, rx, q⟩ => ?_)
  unfold rSortIt at q
  obtain ⟨d, l, rfl, hd, q⟩ := q
  obtain rfl : u = Value.ref d := rx
  obtain ⟨hz, hs0, vs, kv, hdo⟩ := I1.hok d _ hd
  obtain ⟨ep, hat⟩ := hdo.dictAt
  have lk : (dI l).length = vs.length := Paired.length kv
  have ll : (dI l).length = l.length := by unfold dI; rw [List.length_map]
  refine ⟨hdo.typeIs, hdo.mapOf.noDict, ?_⟩
  show wpAny _ _ (callWith cpos (.builtin "dict.items") [.ref d] [] []) _ X.xe s1
  refine method_meetsIn F.slot_dict_items F.entry_dict_items rfl (PySem.evalArgs_none ⟨rfl, hdo.typeIs, F.args_dict_items_1 _, _, meets_dict_items (mixKind X.prog X.w) d hs0, ⟨vs, hdo⟩, ?_⟩)
  refine Calls.spliced_nil ?_
  have I2 : Inv X pins σ H1 { s1 with heap := s1.heap.push { cls := .type "dict_items", data := .fields #[.ref d] } } := I1.kept (t' := s1.toks) fun b ob q => Heap.get?_push_of_some _ q
  have hB : ((H1 d).isSome) = true := by rw [hd]; rfl
  refine Calls.call_function_entry kind_sorted plain_sorted entry_sorted (args_sorted1 _) (by
    unfold Builtin.«sorted»
    refine wpAny_bind (m := checkCount "sorted" 1 1 _) (wpAny_pure (wpAny_bind (PySem.W.kdx_collect (knd := mixKind X.prog X.w) (kvs := vs) (ep := ep) (I1.ok.hd hc) ⟨_, Heap.get?_push_size _ rfl, rfl, rfl⟩ (hat.push _) (by omega) fun h1 tk as hk hl hG => ?_)))
    refine wpAny_bind (wpAny_newList ?_ (by rw [List.length_map, hl]; omega))
    -- the pairs' tuples: at as
    have nd : as.Nodup := hG.rise.imp fun {a b} h => Nat.ne_of_lt h
    have lz : (as.zip l).map (·.1) = as := List.map_fst_zip (by omega)
    have zx : ∀ (j : Nat) (a : Addr), as[j]? = some a → ∃ (q : PI) (t u : Tok), l[j]? = some q ∧ pzAt (as.zip l) a = some q ∧ h1.get? a = some { cls := .type "tuple", data := .seq #[.int q.a t, .int q.b u] } := fun j a h => by
      obtain ⟨key, k, x, e1, e2, e3⟩ := hG.pairs j a h
      have jl : j < l.length := by have := (List.getElem?_eq_some_iff.mp h).1; omega
      have lj : l[j]? = some l[j] := List.getElem?_eq_getElem jl
      obtain ⟨y, e4, e5, e6⟩ := LiI.paired_get kv (dI_get jl)
      rw [e1] at e4
      have e4 := Option.some.inj e4
      subst e4
      obtain ⟨i, tk1, e7, rfl⟩ | ⟨z, tk1, e7, _⟩ := keyIs_shape (show keyIs k key = true from e2)
      · have e5 : Sum.inl l[j].a = k := e5
        rw [e7] at e5
        have e5 := Sum.inl.inj e5
        subst e5
        obtain ⟨tk2, e6⟩ := (show RelV (.int l[j].b) x from e6)
        subst e6
        exact ⟨l[j], tk1, tk2, lj, pzAt_ix (zs := as.zip l) (by rw [lz]; exact nd) (j := j) (z := (a, l[j])) (List.getElem?_zip_eq_some.mpr ⟨h, lj⟩), e3⟩
      · have e5 : Sum.inl l[j].a = k := e5
        rw [e7] at e5
        cases e5
    have zm : ∀ a ∈ as, ∃ (q : PI) (t u : Tok), pzAt (as.zip l) a = some q ∧ h1.get? a = some { cls := .type "tuple", data := .seq #[.int q.a t, .int q.b u] } := fun a m => by
      obtain ⟨j, hj⟩ := List.getElem?_of_mem m
      obtain ⟨q, t, u, _, h2, h3⟩ := zx j a hj
      exact ⟨q, t, u, h2, h3⟩
    have lm : as.map (fun a => (pzAt (as.zip l) a).getD ⟨0, 0⟩) = l := by
      refine List.ext_getElem? fun j => ?_
      rw [List.getElem?_map]
      cases hj : as[j]? with
      | none =>
        have := List.getElem?_eq_none_iff.mp hj
        exact (List.getElem?_eq_none_iff.mpr (by omega)).symm
      | some a =>
        obtain ⟨q, t, u, h1, h2, _⟩ := zx j a hj
        rw [h1, Option.map_some, h2]; rfl
    generalize ezs : as.zip l = zs at zx zm lm lz
    have s12 : (s1.heap.push { cls := .type "dict_items", data := .fields #[.ref d] }).objs.size ≤ h1.objs.size := by
      have := Heap.lt_size (hk _ _ (Heap.get?_push_size s1.heap rfl))
      rw [Heap.size_push]; exact this
    have Bn : h1.objs.size ∉ as := fun z => Nat.lt_irrefl _ (hG.there z)
    let kk : Value → Int × Int := fun v => (((pzAt zs (adOf v)).getD ⟨0, 0⟩).a, ((pzAt zs (adOf v)).getD ⟨0, 0⟩).b)
    have ho : (h1.push { cls := .type "list", data := .seq (as.map Value.ref).toArray }).get? h1.objs.size = some (seqObj "list" (as.map Value.ref).toArray 0) := Heap.get?_push_size _ rfl
    refine wpAny_bind (wpAny_holding (wpAny_call_entry slot_list_sort ⟨_, ho, rfl⟩ entry_list_sort (SrtO.list_sort_ord (ltv := fun v u => SrtO.lexB (kk v) (kk u)) (SrtO.swo_lex kk) ho (by rw [List.length_map, hl]; omega) (fun h2 => ?_) fun out hso hbo => ⟨_, rfl, wpAny_pure ⟨_, rfl, ?_⟩⟩) (args_list_sort _)))
    · refine SrtO.pairs_sortableO (k := kk) (by omega) (fun v m => ?_) fun o e => ?_
      · obtain ⟨a, ma, rfl⟩ := List.mem_map.mp m
        obtain ⟨q, t, u, h1', h2'⟩ := zm a ma
        refine ⟨a, _, t, u, 0, rfl, Heap.get?_push_of_some _ h2', rfl, ?_⟩
        show _ = Data.seq #[.int ((pzAt zs a).getD ⟨0, 0⟩).a t, .int ((pzAt zs a).getD ⟨0, 0⟩).b u] 0
        rw [h1']
        rfl
      · rw [ho] at e
        cases e
        intro c
        exact absurd (Value.type.inj c) (by decide)
    · have outp : out.Perm (as.map Value.ref) := hbo.perm
      have oe : out = (out.map adOf).map Value.ref := by
        rw [List.map_map]
        refine (List.map_id out).symm.trans (List.map_congr_left fun v m => ?_)
        obtain ⟨a, _, rfl⟩ := List.mem_map.mp (outp.mem_iff.mp m)
        rfl
      have yp : (out.map adOf).Perm as := by
        have := outp.map adOf
        rw [List.map_map] at this
        have e : as.map (adOf ∘ Value.ref) = as := (List.map_congr_left fun a _ => rfl).trans (List.map_id as)
        rw [e] at this; exact this
      generalize out.map adOf = ys at oe yp
      have lo : out.length ≤ sizeLine := by rw [oe, List.length_map, yp.length_eq, hl]; omega
      obtain ⟨ep3, h3B⟩ := sortedHeap_at (vs := as.map Value.ref) (out := out.toArray) ho
      have h3o : ∀ b o, h1.get? b = some o → (sortedHeap (h1.push { cls := .type "list", data := .seq (as.map Value.ref).toArray }) h1.objs.size (as.map Value.ref) out.toArray).get? b = some o := fun b o e => by
        have bl := Heap.lt_size e
        rw [sortedHeap_old (Nat.ne_of_lt bl) (by rw [Heap.size_push]; exact Nat.lt_succ_of_lt bl)]
        exact Heap.get?_push_of_some _ e
      have tB : trk H1 h1.objs.size (.lst (ys.map V.ref)) zs h1.objs.size = some (.lst (ys.map V.ref)) := by unfold trk; rw [if_pos rfl]
      have tT : ∀ a ∈ as, ∀ q, pzAt zs a = some q → trk H1 h1.objs.size (.lst (ys.map V.ref)) zs a = some (.tup [.int q.a, .int q.b]) := fun a m q e => by
        unfold trk
        rw [if_neg (fun z => Bn (by rw [← z]; exact m)), e]
      have tO : ∀ b, b ≠ h1.objs.size → b ∉ as → trk H1 h1.objs.size (.lst (ys.map V.ref)) zs b = H1 b := fun b n m => by
        unfold trk
        rw [if_neg n, pzAt_no (by rw [lz]; exact m)]
      have big : ∀ a ∈ h1.objs.size :: as, (s1.heap.push { cls := .type "dict_items", data := .fields #[.ref d] }).objs.size ≤ a := fun a m => by
        rcases List.mem_cons.mp m with rfl | m
        · exact s12
        · exact Nat.le_of_lt (hG.above a m)
      have J := inv_many (tk := tk) (H' := trk H1 h1.objs.size (.lst (ys.map V.ref)) zs) (h' := sortedHeap (h1.push { cls := .type "list", data := .seq (as.map Value.ref).toArray }) h1.objs.size (as.map Value.ref) out.toArray) (as := h1.objs.size :: as) I2 (fun b o e => h3o b o (hk b o e)) big
          (fun b m => tO b (fun z => m (by rw [z]; exact List.mem_cons_self)) (fun z => m (List.mem_cons_of_mem _ z))) (fun b m o e => by
        by_cases hb : b = h1.objs.size
        · subst hb
          rw [tB] at e
          cases e
          refine ⟨by rw [List.length_map, yp.length_eq, hl]; omega, out, ep3, ?_, h3B⟩
          rw [oe]
          exact LiI.vals_refs ys
        · have m := (List.mem_cons.mp m).resolve_left hb
          obtain ⟨q, t, u, e1, e2⟩ := zm b m
          rw [tT b m q e1] at e
          cases e
          exact ⟨two_le, [.int q.a t, .int q.b u], .cons ⟨_, rfl⟩ (.cons ⟨_, rfl⟩ .nil), ⟨_, h3o b _ e2, rfl, _, rfl⟩⟩)
      have fr1 : ∀ a ∈ h1.objs.size :: as, H1 a = none := fun a m => I2.hok.fresh (big a m)
      have ym : ∀ a, a ∈ ys ↔ a ∈ as := fun a => yp.mem_iff
      refine ⟨.ref h1.objs.size, _, J, rfl, q _ _ ys (fun b o e => ?_) (fr1 _ List.mem_cons_self) (fun t m => fr1 t (List.mem_cons_of_mem _ ((ym t).mp m))) (fun z => Bn ((ym _).mp z)) (fun b n m => tO b n fun z => m ((ym b).mpr z)) tB ?_⟩
      · rw [tO b (fun z => by rw [z, fr1 _ List.mem_cons_self] at e; cases e) (fun z => by rw [fr1 b (List.mem_cons_of_mem _ z)] at e; cases e)]
        exact e
      · have es : ys.map (fun a => (pzAt zs a).getD ⟨0, 0⟩) = srt l := by
          refine srt_of ?_ (by rw [← lm]; exact yp.map _)
          rw [oe] at hso
          have hso := List.pairwise_map.mp hso
          refine List.pairwise_map.mpr (hso.imp fun {x y} h => ?_)
          have h := SrtO.lexB_no.mp h
          exact leP_iff.mpr (by simp only [kk, adOf] at h; omega)
        rw [← es]
        refine ⟨by rw [List.length_map], fun i x y h1 h2 => ?_⟩
        rw [List.getElem?_map, h1] at h2
        cases h2
        have m := (ym x).mp (List.mem_of_getElem? h1)
        obtain ⟨q, t, u, e1, e2⟩ := zm x m
        rw [tT x m q e1]
        show _ = some (HO.tup [V.int ((pzAt zs x).getD ⟨0, 0⟩).a, V.int ((pzAt zs x).getD ⟨0, 0⟩).b])
        rw [e1]
        rfl)
theorem sitems {F H : Hp} {d : Addr} {l : List PI} {Q : VK} (sF : Same F H) (hd : H d = some (.dK (dI l))) (q : ∀ (F' H' : Hp) (p : Addr) (xs : List V), Gr mu0 F H F' H' → Ow H F' H' p (.lst xs) → IsAll F' xs (srt l) → Q (.ref p) H') : rSortIt (.ref d) H Q := by
  unfold rSortIt
  refine ⟨d, l, rfl, hd, fun H' p ys s n nt pn off hp al => ?_⟩
  have fy : ∀ b ∈ ys, F b = none := fun b m => sF.free (nt b m)
  have s' : Same F (fun b => if b ∈ ys then H' b else F b) := fun b o e => by
    by_cases m : b ∈ ys
    · rw [fy b m] at e; cases e
    · simp only [m, if_false]; exact e
  have e2 : ∀ b, b ∈ ys → (if b ∈ ys then H' b else F b) = H' b := fun b m => if_pos m
  refine q (fun b => if b ∈ ys then H' b else F b) H' p (ys.map V.ref) ⟨s', fun b o e => ?_, fun b o e => ?_, fun b o e _ => s b o e, fun b e => s.free e⟩ ⟨n, ?_, hp⟩ ⟨by rw [List.length_map]; exact al.1, fun i x y h1 h2 => ?_⟩
  · by_cases m : b ∈ ys
    · simp only [m, if_true] at e; exact e
    · simp only [m, if_false] at e; exact s b o (sF b o e)
  · by_cases m : b ∈ ys
    · exact .inr (nt b m)
    · simp only [m, if_false] at e; exact .inl e
  · show (if p ∈ ys then H' p else F p) = none
    rw [if_neg pn]; exact sF.free n
  · rw [List.getElem?_map] at h1
    cases e : ys[i]? with
    | none => rw [e] at h1; cases h1
    | some t =>
      rw [e] at h1
      cases h1
      refine ⟨t, _, _, rfl, ?_, rfl, rfl⟩
      show (if t ∈ ys then H' t else F t) = _
      rw [if_pos (List.mem_of_getElem? e)]
      exact al.2 i t y e h2
end
/-! ### sum of a tuple; a tuple not at all or once -/
section
open PySem.Spec PyProof.Rows
variable {X : Cx}
def rSumT (K : PySem.W.Frag) : List V → Hp → VK → Prop := fun vs H Q => ∃ (a : Addr) (ns : List Int), vs = [V.ref a] ∧ SqT K H a (ns.map V.int) ∧ Q (.int ns.sum) H
theorem cr_sumT (hc : X.calm = true) : CallR X (.builtin "sum") (rSumT X.K) := by
  intro pins s σ H vs us Q I r h
  obtain ⟨a, ns, rfl, ht, q⟩ := h
  obtain ⟨its, rv, ⟨o, ho, hcl, n, hd⟩, _⟩ := I.tuple ht
  have hi := rv.ints
  obtain ⟨xs, e⟩ := hi.allInts.items
  have hn : numsOf (intItems xs).toList = ns := by rw [← e]; exact hi.numsOf
  rw [nums_intItems] at hn
  rw [e] at hd
  rw [Vals.ref1 r]
  refine PySem.W.ktm_sumG (I.ok.hd hc) ⟨o, ho, hcl, n, hd⟩ fun h' tk t' hk => ?_
  rw [preSum_eq, List.take_of_length_le (by simp), hn]
  exact ⟨.int _, H, I.kept hk, ⟨_, rfl⟩, q⟩
theorem tup_mul1 (l : Addr) (items : Array Value) (n : Nat) (dd : Option Addr) (sl : Array (Option Value)) (u : Tok) (hne : items.isEmpty = false) :
    Meets (Builtin.«tuple.__mul__» ⟨[.ref l, .int 1 u], []⟩) (fun _ R s => s.heap.get? l = some { cls := .type "tuple", dict := dd, data := .seq items n, slots := sl } ∧ R (.ok (.ret (Value.ref l))) s) :=
  .of_wp fun prog w A R s h => by
    obtain ⟨hp, g, d, tk, os⟩ := s
    obtain ⟨hl, h⟩ := h
    have f1 := AutoSeq1.idx_int
    wp_walk using wpAny_loadPart' hl
    exact ⟨_, rfl, h⟩
theorem tup_mul0 (l : Addr) (items : Array Value) (n : Nat) (dd : Option Addr) (sl : Array (Option Value)) (u : Tok) (hne : items.isEmpty = false) :
    Meets (Builtin.«tuple.__mul__» ⟨[.ref l, .int 0 u], []⟩) (fun _ R s => s.heap.get? l = some { cls := .type "tuple", dict := dd, data := .seq items n, slots := sl } ∧
      R (.ok (.ret (Value.ref s.heap.objs.size))) { s with heap := s.heap.push { cls := Value.type "tuple", data := Data.seq #[] }, toks := s.toks }) :=
  .of_wp fun prog w A R s h => by
    obtain ⟨hp, g, d, tk, os⟩ := s
    obtain ⟨hl, h⟩ := h
    have f1 := AutoSeq1.idx_int
    wp_walk using wpAny_loadPart' hl
    exact ⟨_, rfl, h⟩
def rRep01 (K : PySem.W.Frag) : R2 := fun x y H Q => ∃ l k xs, x = .ref l ∧ y = .int k ∧ SqT K H l xs ∧ xs ≠ [] ∧ ((k = 1 ∧ Q (.ref l) H) ∨ (k = 0 ∧ ∀ p, H p = none → Q (.ref p) (upd H p (.tup []))))
theorem op_rep01 : OpR X (binaryOp .Mult) (rRep01 X.K) := by
  intro pins s σ H x y v u Q I rx ry h
  obtain ⟨l, k, xs, rfl, rfl, hT, hne, h⟩ := h
  cases rx
  obtain ⟨tk, rfl⟩ := ry
  obtain ⟨its, r, ⟨⟨cls, dd, data, sl⟩, ho, hc, n, hd⟩, hs⟩ := I.tuple hT
  simp only at hc hd
  subst hc hd
  have hi : its.toArray.isEmpty = false := by
    cases its with
    | nil => have := r.length; exact absurd (List.eq_nil_of_length_eq_zero this) hne
    | cons a b => rfl
  rcases h with ⟨rfl, q⟩ | ⟨rfl, q⟩
  · refine wpAny_binaryOp_repeat_ref (T := "tuple") (U := "int") (by decide) ⟨_, ho, rfl⟩ (fun s' => typeIs_int s' 1 tk) noFill_tuple_mul F.fills_int_mul F.slot_int_rmul repeat_tuple F.slot_int_index.lookup
      (call_meets F.slot_int_rmul (typeIs_int s 1 tk) F.entry_int_rmul (F.args_int_rmul_2 _ _) (int_rmul_tuple 1 tk l its.toArray n dd sl)
        ⟨ho, rfl, ⟨_, ho, rfl⟩, call_meets F.slot_tuple_mul ⟨_, ho, rfl⟩ F.entry_tuple_mul (F.args_tuple_mul_2 _ _) (tup_mul1 l its.toArray n dd sl tk hi) ⟨ho, ?_⟩⟩)
    exact ⟨.ref l, H, I, rfl, q⟩
  · refine wpAny_binaryOp_repeat_ref (T := "tuple") (U := "int") (by decide) ⟨_, ho, rfl⟩ (fun s' => typeIs_int s' 0 tk) noFill_tuple_mul F.fills_int_mul F.slot_int_rmul repeat_tuple F.slot_int_index.lookup
      (call_meets F.slot_int_rmul (typeIs_int s 0 tk) F.entry_int_rmul (F.args_int_rmul_2 _ _) (int_rmul_tuple 0 tk l its.toArray n dd sl)
        ⟨ho, rfl, ⟨_, ho, rfl⟩, call_meets F.slot_tuple_mul ⟨_, ho, rfl⟩ F.entry_tuple_mul (F.args_tuple_mul_2 _ _) (tup_mul0 l its.toArray n dd sl tk hi) ⟨ho, ?_⟩⟩)
    refine ⟨.ref s.heap.objs.size, _, I.laid (t' := s.toks) (o := .tup []) (fun b ob q => Heap.get?_push_of_some _ q) (Nat.le_refl _) ?_, rfl, q _ (I.hok.fresh (Nat.le_refl _))⟩
    exact ⟨nil_le, _, .nil, IsTup.new _ _⟩
end
/-! slices of tuples, +: the ways -/
@[irreducible] def rSlQ (K : PySem.W.Frag) : V → Option Int → Option Int → Hp → VK → Prop := rSlA K
theorem sl_tupQ {X : Cx} : SlR X (rSlQ X.K) := by
  unfold rSlQ
  exact sl_tupA
@[irreducible] def rCatQ (K : PySem.W.Frag) : R2 := rCatA K
theorem op_catQ {X : Cx} : OpR X (binaryOp .Add) (rCatQ X.K) := by
  unfold rCatQ
  exact op_catA
theorem slA_all {K : PySem.W.Frag} {H : Hp} {a : Addr} {xs : List V} {lo hi : Option Int} {Q : VK} (h : SqT K H a xs) (w : HT.sIx xs.length 0 lo = 0 ∧ HT.sIx xs.length xs.length hi = xs.length) (q : Q (.ref a) H) : rSlQ K (.ref a) lo hi H Q := by
  unfold rSlQ
  exact ⟨a, xs, rfl, h, fun _ => q, fun n => absurd w n⟩
theorem slA_cut {K : PySem.W.Frag} {H : Hp} {a : Addr} {xs : List V} {lo hi : Option Int} {Q : VK} (h : SqT K H a xs) (w : ¬ (HT.sIx xs.length 0 lo = 0 ∧ HT.sIx xs.length xs.length hi = xs.length)) (q : ∀ p, H p = none → Q (.ref p) (upd H p (.tup (cutV xs lo hi)))) : rSlQ K (.ref a) lo hi H Q := by
  unfold rSlQ
  exact ⟨a, xs, rfl, h, fun n => absurd n w, fun _ => q⟩
theorem catA_nil {K : PySem.W.Frag} {H : Hp} {a b : Addr} {ys : List V} {Q : VK} (h : SqT K H a []) (h2 : SqT K H b ys) (l : ys.length ≤ sizeLine) (q : Q (.ref b) H) : rCatQ K (.ref a) (.ref b) H Q := by
  unfold rCatQ
  exact ⟨a, b, [], ys, rfl, rfl, h, h2, by simpa using l, fun _ => q, fun n => absurd rfl n, fun n => absurd rfl n⟩
theorem catA_new {K : PySem.W.Frag} {H : Hp} {a b : Addr} {xs ys : List V} {Q : VK} (h : SqT K H a xs) (h2 : SqT K H b ys) (l : xs.length + ys.length ≤ sizeLine) (n1 : xs ≠ []) (n2 : ys ≠ []) (q : ∀ p, H p = none → Q (.ref p) (upd H p (.tup (xs ++ ys)))) : rCatQ K (.ref a) (.ref b) H Q := by
  unfold rCatQ
  exact ⟨a, b, xs, ys, rfl, rfl, h, h2, l, fun e => absurd e n1, fun _ e => absurd e n2, fun _ _ => q⟩
/-! ### enumerate(tuple); sorted(dict) of int keys, of any length -/
section
open PySem.Spec PyProof.Rows
set_option maxHeartbeats 8000000 in
theorem enT_new (t : Addr) (zs : Array Value) : Meets (Builtin.«enumerate.__new__» ⟨[.type "enumerate", .ref t], []⟩) (fun _ R s => s.heap.IsTuple t zs ∧
    R (.ok (.ret (.ref (s.heap.push { cls := .type "tuple_iterator", data := .fields #[.ref t, .int 0 0] }).objs.size)))
      { s with heap := (s.heap.push { cls := .type "tuple_iterator", data := .fields #[.ref t, .int 0 0] }).push { cls := .type "enumerate", data := .fields #[.none, .bool false, .ref s.heap.objs.size, rawInt 0, .none, .none] } }) :=
  .of_wp fun prog w A R s z => by
    obtain ⟨hp, gs, dr, tk, os⟩ := s
    obtain ⟨hz, z⟩ := z
    have sub := sub_enumerate
    have step : ∀ {A' : Around} {E : Value → Shared → Prop} {Q : Value → Shared → Prop}, Q (.ref hp.objs.size) ⟨hp.push { cls := .type "tuple_iterator", data := .fields #[.ref t, .int 0 0] }, gs, dr, tk, os⟩ → wpAny (model prog w) A' (pyIter (.ref t)) Q E ⟨hp, gs, dr, tk, os⟩ :=
      fun q => (begins_tuple t zs).iter prog w _ _ ⟨hp, gs, dr, tk, os⟩ _ hz q
    wp_walk using step
    refine wpAny_stack_any fun st => wpAny_pure ?_
    split
    · rename_i c _ _ _ _ _
      cases (c == Value.type "enumerate")
      · wp_walk using step
        exact ⟨_, rfl, z⟩
      · wp_walk using step
        exact ⟨_, rfl, z⟩
    · wp_walk using step
      exact ⟨_, rfl, z⟩
section
variable {prog : Program} {w : World} {A : Around} {E : Value → Shared → Prop} {s : Shared}
theorem enT_call {t : Addr} {zs : Array Value} {Q : Value → Shared → Prop} (ht : s.heap.IsTuple t zs)
    (k : ∀ h', IsEnum h' (s.heap.objs.size + 1) s.heap.objs.size 0 .none → h'.IsTupleIter s.heap.objs.size t 0 → h'.objs.size = s.heap.objs.size + 2 →
      (∀ b o, s.heap.get? b = some o → h'.get? b = some o) → Q (.ref (s.heap.objs.size + 1)) { s with heap := h' }) :
    wpAny (model prog w) A (call (.type "enumerate") [.ref t]) Q E s := by
  refine callType_new F.called_enumerate (by decide) (F.typeCall_enumerate_1 _) (F.newCall_enumerate_1 _) (fun obj => F.args_object_init_2 obj _) F.entry_enumerate_new (enT_new t zs) ⟨ht, ?_⟩
  have ez : (s.heap.push { cls := .type "tuple_iterator", data := .fields #[.ref t, .int 0 0] }).objs.size = s.heap.objs.size + 1 := Heap.size_push ..
  show _ ∧ _
  rw [ez]
  have en : IsEnum ((s.heap.push { cls := .type "tuple_iterator", data := .fields #[.ref t, .int 0 0] }).push { cls := .type "enumerate", data := .fields #[.none, .bool false, .ref s.heap.objs.size, rawInt 0, .none, .none] })
      (s.heap.objs.size + 1) s.heap.objs.size 0 .none := by
    have y := Heap.get?_push_size (s.heap.push { cls := .type "tuple_iterator", data := .fields #[.ref t, .int 0 0] }) (o := { cls := .type "enumerate", data := .fields #[.none, .bool false, .ref s.heap.objs.size, rawInt 0, .none, .none] }) rfl
    rw [ez] at y; exact y
  exact ⟨⟨_, en, rfl⟩, k _ en ⟨_, Heap.get?_push_of_some _ (Heap.get?_push_size _ rfl), rfl, rfl⟩ (by rw [Heap.size_push, ez]) fun b o x => Heap.get?_push_of_some _ (Heap.get?_push_of_some _ x)⟩
theorem enT_end {e it t : Addr} {i : Nat} {zs : Array Value} {old : Value} {Q : Option Value → Shared → Prop} (hh : A.handled = none) (he : IsEnum s.heap e it i old) (hit : s.heap.IsTupleIter it t i) (ht : s.heap.IsTuple t zs) (hx : zs.size ≤ i)
    (k : ∀ h', Heap.ExtBut it s.heap h' → Q none { s with heap := h' }) : wpAny (model prog w) A (pyNext (.ref e)) Q E s := by
  have hT : s.TypeIs (.ref e) "enumerate" := ⟨_, he, rfl⟩
  unfold pyNext
  refine wpAny_bind (wpAny_attempt (wpAny_callSpecial?_slot (name := Str.ofString "__next__") hT F.slot_enumerate_next (wpAny_call_entry F.slot_enumerate_next hT F.entry_enumerate_next ?_ (F.args_enumerate_next_1 _))))
  show wpAny _ _ (field (.ref e) 2 >>= _) _ _ _
  refine wpAny_bind (wpAny_field he rfl (x := .ref it) rfl (wpAny_bind (wpAny_nextOf_tuple_end (show A.in1.handled = none from hh) hit ht (Array.getElem?_eq_none hx) fun h' x eb hx' => ?_)))
  obtain ⟨o, ho, hc⟩ := hx'
  exact wpAny_bind (wpAny_isInstance (T := "StopIteration") (b := true) ⟨o, ho, hc⟩ isSubtype_stop (wpAny_pure (k _ eb)))
end
/-- the tuple at a, each item in a new pair with its place -/
def Iet (K : PySem.W.Frag) (a : Addr) : It :=
  ⟨fun i H => ∃ (xs : List V) (x : V), SqT K H a xs ∧ xs[i]? = some x, fun i H v H' => ∃ T x, v = .ref T ∧ H T = none ∧ H' = upd H T (.tup [.int (i : Nat), x]) ∧ ∀ xs, SqT K H a xs → xs[i]? = some x, fun i H => ∃ xs : List V, SqT K H a xs ∧ xs.length ≤ i⟩
theorem turn_enT {P : Program} {w : World} {K : PySem.W.Frag} {elts : List PySem.Expr} {kk : Nat} {tpos : Pos} (a e it : Addr) (ae : a ≠ e) (ai : a ≠ it) :
    Turn P w K (.Tuple elts kk tpos) (Iet K a) [e, it] e (fun i h => (∃ old, IsEnum h e it ((i : Nat) : Int) old) ∧ h.IsTupleIter it a i ∧ e ≠ it) where
  mem := List.mem_cons_self ..
  obj := fun i h st b hb => by
    obtain ⟨⟨old, he⟩, ⟨o, ho, hc, hd⟩, _⟩ := st
    rcases List.mem_cons.mp hb with z | z
    · rw [z]; exact ⟨_, he, fun v q => nomatch q⟩
    · rw [List.mem_singleton.mp z]; exact ⟨o, ho, fun v q => by rw [hd] at q; cases q⟩
  keep := fun i h h' st k => by
    obtain ⟨⟨old, he⟩, hi, hne⟩ := st
    exact ⟨⟨old, k e (List.mem_cons_self ..) _ he⟩, hi.at fun o q => k it (List.mem_cons_of_mem _ (List.mem_singleton.mpr rfl)) o q, hne⟩
  item := by
    intro X hP hw hK hc i pins s σ H E I hf st hg
    subst hP hw hK
    obtain ⟨⟨old, he⟩, hit, hne⟩ := st
    obtain ⟨xs, x, hq, hx⟩ := hg
    obtain ⟨its, rv, p, hz⟩ := I.tuple hq
    obtain ⟨u, hu, ru⟩ := rv.get hx
    have il : i < its.toArray.size := by
      have := (List.getElem?_eq_some_iff.mp hu).1
      rw [List.size_toArray]; exact this
    have hel : e < s.heap.objs.size := Heap.lt_size he
    have hil : it < s.heap.objs.size := by obtain ⟨_, q, _⟩ := hit; exact Heap.lt_size q
    have D := Draws.tuple (prog := X.prog) (w := X.w) (A := X.A.in1) (show X.A.in1.handled = none from I.ok.hd hc) it a ai its.toArray
    refine wpAny_pyNext_enum_itemD D he ⟨hit, p⟩ il hne (fun m => by
      rcases List.mem_cons.mp m with m | m
      · exact hne m
      · exact ae (List.mem_singleton.mp m).symm) fun x' h' tk px ho hst' hT hsz hk => ?_
    have eu : x' = u := by
      have y : its.toArray[i]? = some u := by rw [List.getElem?_toArray]; exact hu
      rw [px] at y
      exact Option.some.inj y
    subst eu
    refine ⟨_, rfl, wpAny_letOwnedTupleGo_enum (s := { s with heap := h', toks := tk + 1 }) ho fun h'' he' sb => ?_⟩
    have hT2 : h''.get? s.heap.objs.size = some { cls := .type "tuple", data := .seq #[.int i tk, x'] } := (sb.2 _ (Nat.ne_of_gt hel)).trans hT
    have new : ObjOk X.prog X.w (upd H s.heap.objs.size (.tup [.int (i : Nat), x])) h'' s.heap.objs.size (.tup [.int (i : Nat), x]) :=
      ⟨two_le, [.int i tk, x'], .cons ⟨_, rfl⟩ (.cons ru .nil), ⟨_, hT2, rfl, _, rfl⟩⟩
    have J : Inv X pins σ (upd H s.heap.objs.size (.tup [.int (i : Nat), x])) { s with heap := h'', toks := tk + 1 } :=
      I.turnedNew (ch := [e, it]) (fun b ob hb q => (sb.2 b (fun z => hb (z ▸ List.mem_cons_self ..))).trans (hk b ob (fun z => hb (z ▸ List.mem_cons_self ..)) (fun z => hb (z ▸ List.mem_cons_of_mem _ (List.mem_singleton.mpr rfl))) q)) hf (Nat.le_refl _) new
    refine ⟨.ref s.heap.objs.size, _, J, rfl, ⟨_, x, rfl, I.hok.fresh (Nat.le_refl _), rfl, fun ys hy => by rw [I.tuple_inj hy hq]; exact hx⟩, ⟨⟨x', ?_⟩, hst'.1.at fun o q => (sb.2 it (Ne.symm hne)).trans q, hne⟩, fun b hb => ?_⟩
    · rw [show ((i + 1 : Nat) : Int) = (i : Int) + 1 by omega]; exact he'
    · have lb : b < s.heap.objs.size := by
        rcases List.mem_cons.mp hb with z | z
        · rw [z]; exact hel
        · rw [List.mem_singleton.mp z]; exact hil
      rw [upd_ne (Nat.ne_of_lt lb)]
      exact (hf b hb).1
  done := by
    intro X hP hw hK hc i pins s σ H E I hf st hg
    subst hP hw hK
    obtain ⟨⟨old, he⟩, hit, hne⟩ := st
    obtain ⟨xs, hq, hx⟩ := hg
    obtain ⟨its, rv, p, hz⟩ := I.tuple hq
    obtain ⟨f0, f1, f2, f3, f4, f5⟩ := hf it (List.mem_cons_of_mem _ (List.mem_singleton.mpr rfl))
    have hl := rv.length
    exact enT_end (I.ok.hd hc) he hit p (by rw [List.size_toArray]; omega) fun h' eb => ⟨rfl, I.turned (t' := s.toks) (fun b o hb q => eb b o hb q) f0 f1 f3 f4 f5⟩
  self := fun A i s Q E st h => by
    obtain ⟨⟨_, he⟩, _⟩ := st
    exact wpAny_pyIter_enum he h
def iEnT (K : PySem.W.Frag) (ta : TA) : TI := fun σ H R => ta σ H fun vs H1 => ∃ a xs, vs = [.ref a] ∧ SqT K H1 a xs ∧ R (Iet K a) H1
theorem pi_enT {X : Cx} {e : PySem.Expr} {ta : TA} {p pos tpos : Pos} {elts : List PySem.Expr} {kk : Nat} (hg : Gl X "enumerate") (hm : X.mg "enumerate" = none) (ha : PA X [e] ta) (hs : starEach [e] X.env = [(false, eval e X.env)] := by rfl) :
    L2.PI X (.Tuple elts kk tpos) (.Call (.Name "enumerate" p) [e] [] pos) (iEnT X.K ta) := by
  refine ⟨fun pins s σ H R I h => Call_ (ld_blt I hg hm boot_enumerate (PyProof.Rows.callWith_type1 (thn (ha.run pos pins s σ H _ I h) fun us s1 ⟨vs, H1, J, r1, q1⟩ => ?_) hs rfl))⟩
  obtain ⟨a, xs, ex, hq, q⟩ := q1
  subst ex
  cases r1 with
  | cons r rr =>
    cases rr
    cases r
    obtain ⟨its, rv, p', hz⟩ := J.tuple hq
    have la : a < s1.heap.objs.size := p'.lt
    refine enT_call p' fun h' he hit hsz hk => wpAny_pyIter_enum he ?_
    have J2 : Inv X pins σ H1 { s1 with heap := h' } := J.kept (t' := s1.toks) hk
    refine ⟨s1.heap.objs.size + 1, [s1.heap.objs.size + 1, s1.heap.objs.size], _, _, H1, rfl, J2, turn_enT a (s1.heap.objs.size + 1) s1.heap.objs.size (Nat.ne_of_lt (Nat.lt_succ_of_lt la)) (Nat.ne_of_lt la), ⟨⟨.none, he⟩, hit, Nat.succ_ne_self _⟩, fun b hb => ?_, q⟩
    have lb : s1.heap.objs.size ≤ b := by
      rcases List.mem_cons.mp hb with z | z
      · rw [z]; exact Nat.le_add_right _ _
      · rw [List.mem_singleton.mp z]; exact Nat.le_refl _
    exact J.fpOk lb (J.hok.fresh lb)
theorem walk_enT {K : PySem.W.Frag} {a : Addr} {xs : List V} : Walk (Iet K a) xs.length (fun H => SqT K H a xs) (YPair (fun i => some (.int (i : Nat))) (fun i => xs[i]?)) := by
  refine ⟨fun i _ hi q => ⟨xs, xs[i], q, List.getElem?_eq_getElem hi⟩, fun _ q => ⟨xs, q, Nat.le_refl _⟩, fun i H v H' _ q y => ?_⟩
  obtain ⟨T, x, h1, h2, h3, h4⟩ := y
  exact ⟨T, .int (i : Nat), x, h1, h2, h3, rfl, h4 xs q⟩
/-- sorted(d) of a dict whose keys are ints -/
@[irreducible] def rSortDI : List V → Hp → VK → Prop := fun xs H Q => ∃ (a : Addr) (kvs : List (Key × V)) (ks : List Int), xs = [.ref a] ∧ Rd H a (.dK kvs) ∧ kvs.map (·.1) = ks.map Sum.inl ∧
  ∀ (ys : List Int) (p : Addr), ys.Perm ks → ys.Pairwise (· ≤ ·) → H p = none → Q (.ref p) (upd H p (.lst (ys.map V.int)))
theorem ints_at : ∀ {vs : List Value} {ns : List Int}, vs.length = ns.length → (∀ (j : Nat) (v : Value), vs[j]? = some v → ∃ i t, ns[j]? = some i ∧ v = Value.int i t) → IntsAre vs ns
  | [], [], _, _ => .nil
  | v :: vs, n :: ns, l, h => by
    obtain ⟨i, t, e, rfl⟩ := h 0 v rfl
    cases (show some n = some i from e)
    exact .cons n t (ints_at (by simpa using l) fun j u z => h (j + 1) u z)
  | [], _ :: _, l, _ => by simp at l
  | _ :: _, [], l, _ => by simp at l
theorem call_sortDI {X : Cx} (hc : X.calm = true) : CallR X (.builtin "sorted") rSortDI := by
  intro pins s σ H xs us Q I r q
  unfold rSortDI at q
  obtain ⟨a, kvs, ks, rfl, hd, hks, q⟩ := q
  rw [Vals.ref1 r]
  obtain ⟨z, lo, vs, rel, dd⟩ := dk_rd I.hok hd
  obtain ⟨ep, hat⟩ := dd.dictAt
  have hkeys : vs.map (·.1) = ks.map Sum.inl := rel.keys.symm.trans hks
  have hl : vs.length = ks.length := by
    have e := congrArg List.length hkeys
    rw [List.length_map, List.length_map] at e; exact e
  have hz : vs.length ≤ sizeLine := by rw [← rel.length]; exact z
  refine Calls.call_function_entry PyProof.Rows.kind_sorted PyProof.Rows.plain_sorted PyProof.Rows.entry_sorted (PyProof.Rows.args_sorted1 _) ?_
  unfold Builtin.«sorted»
  refine wpAny_bind (m := checkCount "sorted" 1 1 _) (wpAny_pure (wpAny_bind (PySem.W.kdu_collect (A := X.A.in1) (PySem.W.kdl_dict (knd := mixKind X.prog X.w) (kvs := vs) (ep := ep) lo) (I.ok.hd hc) hat hz fun h' tk acc hk hacc => ?_)))
  have hal : acc.toList.length = ks.length := by rw [Array.length_toList, hacc.1, hl]
  have hS : IntsAre acc.toList ks := ints_at hal fun j v e => by
    obtain ⟨k, x, e1, e2⟩ := hacc.2 j v (by rw [← Array.getElem?_toList]; exact e)
    have e3 : (vs.map (·.1))[j]? = some k := by rw [List.getElem?_map, e1]; rfl
    rw [hkeys, List.getElem?_map] at e3
    cases e4 : ks[j]? with
    | none => rw [e4] at e3; cases e3
    | some y =>
      rw [e4] at e3
      have e5 : Sum.inl y = k := Option.some.inj e3
      subst e5
      rcases keyIs_shape (show keyIs (Sum.inl y) v = true from e2) with ⟨i, t, ek, ev⟩ | ⟨w', t, ek, ev⟩
      · cases ek; exact ⟨y, t, rfl, ev⟩
      · cases ek
  have J : Inv X pins σ H { s with heap := h', toks := tk } := I.kept hk
  refine wpAny_bind (wpAny_newList ?_ (by rw [hal, ← hl]; exact hz))
  have hoL : (h'.push (seqObj "list" acc.toList.toArray 0)).get? h'.objs.size = some (seqObj "list" acc.toList.toArray 0) := Heap.get?_push_size _ rfl
  show wpAny _ _ _ _ _ { s with heap := h'.push (seqObj "list" acc.toList.toArray 0), toks := tk }
  refine wpAny_bind (wpAny_holding (wpAny_call_entry PyProof.Rows.slot_list_sort ⟨_, hoL, rfl⟩ PyProof.Rows.entry_list_sort
    (SrtO.list_sort_ord (s := { s with heap := h'.push (seqObj "list" acc.toList.toArray 0), toks := tk }) SrtO.swo_int hoL (by rw [hal, ← hl]; exact hz) (fun h2 => SrtO.ints_sortable hS h2) fun out k1 k2 => ⟨_, rfl, ?_⟩) (PyProof.Rows.args_list_sort _)))
  obtain ⟨g1, g2, g3⟩ := SrtO.ints_out hS k1 k2
  obtain ⟨e', he'⟩ := PyProof.Rows.sortedHeap_at (vs := acc.toList) (out := out.toArray) hoL
  have hlen : ((out.map SrtO.iv).map V.int).length ≤ sizeLine := by rw [List.length_map, g2.length_eq, ← hl]; exact hz
  refine wpAny_pure ⟨_, rfl, .ref h'.objs.size, upd H h'.objs.size (.lst ((out.map SrtO.iv).map V.int)), J.laid (t' := tk) (fun b u e => ?_) (Nat.le_refl _)
    (show ObjOk X.prog X.w _ _ _ (.lst ((out.map SrtO.iv).map V.int)) from ⟨hlen, out, e', vals_of_ints g1, he'⟩), rfl, q _ _ g2 g3 (J.hok.fresh (Nat.le_refl _))⟩
  have hb : b < h'.objs.size := Heap.lt_size e
  rw [PyProof.Rows.sortedHeap_old (Nat.ne_of_lt hb) (by rw [Heap.size_push]; exact Nat.lt_succ_of_lt hb)]
  exact Heap.get?_push_of_some _ e
end
/-! ### dicts keyed by data: tuples in tuples -/
section
open PySem.Spec PyProof.Rows
mutual
def keyD : PyData → NestedKey
  | .int i => .num i
  | .str x => .text x
  | .tuple xs => .tup (keyDs xs)
  | _ => .none
def keyDs : List PyData → List NestedKey
  | [] => []
  | d :: ds => keyD d :: keyDs ds
end
mutual
def kable : PyData → Bool
  | .none => true
  | .int _ => true
  | .str _ => true
  | .tuple xs => kables xs
  | _ => false
def kables : List PyData → Bool
  | [] => true
  | d :: ds => kable d && kables ds
end
mutual
theorem keyD_eqv : ∀ a b : PyData, kable a = true → kable b = true → (keyD a = keyD b ↔ PyData.eqv a b = true)
  | .none, b, _, hb => by cases b <;> simp_all [keyD, PyData.eqv, kable]
  | .int i, b, _, hb => by cases b <;> simp_all [keyD, PyData.eqv, kable]
  | .str x, b, _, hb => by cases b <;> simp_all [keyD, PyData.eqv, kable]
  | .tuple xs, .tuple ys, ha, hb => by
    rw [keyD, keyD, PyData.eqv, NestedKey.tup.injEq]
    exact keyDs_eqv xs ys (by rw [kable] at ha; exact ha) (by rw [kable] at hb; exact hb)
  | .tuple xs, .none, _, _ => by simp [keyD, PyData.eqv]
  | .tuple xs, .int _, _, _ => by simp [keyD, PyData.eqv]
  | .tuple xs, .str _, _, _ => by simp [keyD, PyData.eqv]
  | .tuple xs, .bool _, _, hb => by simp [kable] at hb
  | .tuple xs, .list _, _, hb => by simp [kable] at hb
  | .tuple xs, .dict _, _, hb => by simp [kable] at hb
  | .bool _, _, ha, _ => by simp [kable] at ha
  | .list _, _, ha, _ => by simp [kable] at ha
  | .dict _, _, ha, _ => by simp [kable] at ha
theorem keyDs_eqv : ∀ a b : List PyData, kables a = true → kables b = true → (keyDs a = keyDs b ↔ PyData.eqvAll a b = true)
  | [], [], _, _ => by simp [keyDs, PyData.eqvAll]
  | [], _ :: _, _, _ => by simp [keyDs, PyData.eqvAll]
  | _ :: _, [], _, _ => by simp [keyDs, PyData.eqvAll]
  | a :: as, b :: bs, ha, hb => by
    rw [kables, Bool.and_eq_true] at ha hb
    rw [keyDs, keyDs, PyData.eqvAll, Bool.and_eq_true, List.cons.injEq, keyD_eqv a b ha.1 hb.1, keyDs_eqv as bs ha.2 hb.2]
end
mutual
theorem keyD_depth : ∀ d : PyData, (keyD d).depth ≤ d.depth
  | .none => by simp [keyD, NestedKey.depth]
  | .int _ => by simp [keyD, NestedKey.depth]
  | .str _ => by simp [keyD, NestedKey.depth]
  | .bool _ => by simp [keyD, NestedKey.depth]
  | .list _ => by simp [keyD, NestedKey.depth]
  | .dict _ => by simp [keyD, NestedKey.depth]
  | .tuple xs => by
    rw [keyD, NestedKey.depth, PyData.depth]
    exact Nat.succ_le_succ (keyDs_depth xs)
theorem keyDs_depth : ∀ ds : List PyData, NestedKey.depthAll (keyDs ds) ≤ PyData.depthAll ds
  | [] => by simp [keyDs, NestedKey.depthAll]
  | d :: ds => by
    have h1 := keyD_depth d
    have h2 := keyDs_depth ds
    rw [keyDs, NestedKey.depthAll, PyData.depthAll]
    omega
end
section
variable {X : Cx} {pins : List (Addr × Obj)} {σ : L2.St} {H : Hp} {s : Shared}
mutual
theorem key_at (I : Inv X pins σ H s) : ∀ (d : PyData) (v : V) (u : Value), kable d = true → Dp X.K H v d → RelV v u → NestedIs s.heap (keyD d) u
  | .none, _, _, _, hd, r => by cases hd; cases r; exact .none
  | .int i, _, _, _, hd, r => by cases hd; obtain ⟨t, rfl⟩ := r; exact .int _ _
  | .str x, _, _, _, hd, r => by cases hd; obtain ⟨t, rfl⟩ := r; exact .text _ _
  | .tuple ds, _, _, hk, hd, r => by
    cases hd with
    | tup hs ha =>
      cases r
      obtain ⟨its, rv, ⟨o, ho, hc, n, hdt⟩, _⟩ := I.tuple hs
      exact .tup ho hc hdt (by simpa using keys_at I ds _ its (by rw [kable] at hk; exact hk) ha rv)
  | .bool _, _, _, hk, _, _ => by simp [kable] at hk
  | .list _, _, _, hk, _, _ => by simp [kable] at hk
  | .dict _, _, _, hk, _, _ => by simp [kable] at hk
theorem keys_at (I : Inv X pins σ H s) : ∀ (ds : List PyData) (vs : List V) (us : List Value), kables ds = true → DpAll X.K H vs ds → Vals vs us → NestedAll s.heap (keyDs ds) us
  | [], _, _, _, hd, r => by cases hd; cases r; exact .nil
  | d :: ds, _, _, hk, hd, r => by
    rw [kables, Bool.and_eq_true] at hk
    cases hd with
    | cons h1 h2 =>
      cases r with
      | cons r1 r2 => exact .cons (key_at I d _ _ hk.1 h1 r1) (keys_at I ds _ _ hk.2 h2 r2)
end
end
/-- a key, the place of its tuple, the value -/
abbrev Ne := NestedKey × Addr × V
def RelN : List Ne → List (NestedKey × Addr × Value) → Prop := Paired fun p q => p.1 = q.1 ∧ p.2.1 = q.2.1 ∧ RelV p.2.2 q.2.2
def NOk (P : Program) (w : World) (a : Addr) (xs : List Ne) (h : Heap) : Prop := xs.length ≤ sizeLine ∧ (a == sysModules) = false ∧ ∃ ys, RelN xs ys ∧
  ∃ o es ep, h.get? a = some o ∧ o.ExactDict ∧ o.data = .dict es ep ∧ es.toList = ys.map (entryOfKey (nestedKind P w)) ∧ (ys.map (·.1)).Nodup
/-- a dict of such keys -/
def DictN (P : Program) (w : World) (a : Addr) (xs : List Ne) : HO := .ext (NOk P w a xs)
theorem NOk.obj {P : Program} {w : World} {a : Addr} {xs : List Ne} {h : Heap} {H : Hp} (x : NOk P w a xs h) : ObjOk P w H h a (DictN P w a xs) := by
  refine ⟨x, ?_, fun h1 h2 y k => ?_⟩
  · obtain ⟨_, _, _, _, o, _, _, e, _⟩ := x
    exact ⟨o, e⟩
  · obtain ⟨z1, z2, ys, r, o, es, ep, e, c⟩ := y
    exact ⟨z1, z2, ys, r, o, es, ep, k _ e, c⟩
def valN (xs : List Ne) (k : NestedKey) : Option V := (xs.find? fun x => decide (x.1 = k)).map (·.2.2)
def putN (xs : List Ne) (k : NestedKey) (b : Addr) (v : V) : List Ne := if (valN xs k).isSome then xs.map (fun x => if x.1 = k then (x.1, x.2.1, v) else x) else xs ++ [(k, b, v)]
theorem RelN.val {xs : List Ne} {ys : List (NestedKey × Addr × Value)} (r : RelN xs ys) (k : NestedKey) : RelO (valN xs k) ((atKey ys k).map (·.2)) := by
  induction r with
  | nil => exact True.intro
  | @cons p q ps qs h t ih =>
    obtain ⟨h1, h2, h3⟩ := h
    unfold valN atKey at ih ⊢
    rw [List.find?_cons, List.find?_cons]
    by_cases e : p.1 = k
    · rw [decide_eq_true e, decide_eq_true (h1 ▸ e)]
      exact h3
    · rw [decide_eq_false e, decide_eq_false (h1 ▸ e)]
      exact ih
theorem RelN.put {xs : List Ne} {ys : List (NestedKey × Addr × Value)} (r : RelN xs ys) (k : NestedKey) (b : Addr) {v : V} {u : Value} (rv : RelV v u) : RelN (putN xs k b v) (storedH ys k b u) := by
  have e : (valN xs k).isSome = (atKey ys k).isSome := by
    rw [(r.val k).isSome_eq, Option.isSome_map]
  unfold putN storedH
  rw [e]
  by_cases h : (atKey ys k).isSome = true
  · rw [if_pos h, if_pos h]
    clear e h
    induction r with
    | nil => exact .nil
    | @cons p q ps qs hpq t ih =>
      obtain ⟨h1, h2, h3⟩ := hpq
      refine .cons ?_ ih
      unfold putAt
      dsimp only
      by_cases e : p.1 = k
      · rw [if_pos e, if_pos (h1 ▸ e)]; exact ⟨h1, h2, rv⟩
      · rw [if_neg e, if_neg (h1 ▸ e)]; exact ⟨h1, h2, h3⟩
  · rw [if_neg h, if_neg h]
    clear e h
    induction r with
    | nil => exact .cons ⟨rfl, rfl, rv⟩ .nil
    | cons hpq t ih => exact .cons hpq ih
/-- the keys stand yet -/
def KeysN (K : PySem.W.Frag) (H : Hp) (xs : List Ne) : Prop := ∀ t ∈ xs, ∃ d, keyD d = t.1 ∧ kable d = true ∧ d.depth ≤ 8 ∧ Dp K H (.ref t.2.1) d
section
variable {X : Cx} {pins : List (Addr × Obj)} {σ : L2.St} {H : Hp} {s : Shared} {a : Addr} {xs : List Ne}
theorem n_of (I : Inv X pins σ H s) (e : H a = some (DictN X.prog X.w a xs)) (hk : KeysN X.K H xs) : xs.length ≤ sizeLine ∧ (a == sysModules) = false ∧ ∃ ys, RelN xs ys ∧ s.heap.DictOfH (nestedKind X.prog X.w) a ys := by
  obtain ⟨⟨z1, z2, ys, r, o, es, ep, e1, e2, e3, e4, e5⟩, _⟩ := (show ObjOk X.prog X.w H s.heap a (DictN X.prog X.w a xs) from I.hok a _ e)
  refine ⟨z1, z2, ys, r, o, es, ep, e1, e2, e3, e4, ?_, e5⟩
  have all : ∀ {xs : List Ne} {ys : List (NestedKey × Addr × Value)}, RelN xs ys → KeysN X.K H xs → ∀ x ∈ ys, (nestedKind X.prog X.w).is s.heap x.1 x.2.1 := by
    intro xs ys r
    induction r with
    | nil => intro _ x hx; exact nomatch hx
    | @cons p q ps qs h t ih =>
      intro hk x hx
      obtain ⟨h1, h2, h3⟩ := h
      rcases List.mem_cons.mp hx with e | hx
      · subst e
        obtain ⟨d, k1, k2, k3, k4⟩ := hk p (List.mem_cons_self ..)
        rw [← h1, ← h2, ← k1]
        exact ⟨key_at I d _ _ k2 k4 rfl, Nat.le_trans (keyD_depth d) k3⟩
      · exact ih (fun t m => hk t (List.mem_cons_of_mem _ m)) x hx
  exact all r hk
end
/-- what the dict at a holds at the key y -/
def NGet (X : Cx) (H : Hp) (a : Addr) (y : V) (o : Option V) : Prop := ∃ xs b d, H a = some (DictN X.prog X.w a xs) ∧ KeysN X.K H xs ∧ y = .ref b ∧ Dp X.K H y d ∧ kable d = true ∧ d.depth ≤ 8 ∧ o = valN xs (keyD d)
def NPut (X : Cx) (H : Hp) (a : Addr) (y v : V) (H' : Hp) : Prop := ∃ xs b d, H a = some (DictN X.prog X.w a xs) ∧ KeysN X.K H xs ∧ y = .ref b ∧ Dp X.K H y d ∧ kable d = true ∧ d.depth ≤ 8 ∧ xs.length < sizeLine ∧ H' = upd H a (DictN X.prog X.w a (putN xs (keyD d) b v))
theorem putN_len (xs : List Ne) (k : NestedKey) (b : Addr) (v : V) : (putN xs k b v).length ≤ xs.length + 1 := by
  unfold putN
  split
  · rw [List.length_map]; omega
  · rw [List.length_append]; exact Nat.le_refl _
section
variable {X : Cx} {pins : List (Addr × Obj)} {σ : L2.St} {H : Hp} {s : Shared} {a : Addr} {y v : V} {u r : Value} {o : Option V} {A : Around} {E : Value → Shared → Prop}
theorem n_in {Q : Value → Shared → Prop} (hu : A.units + 9 < cLine) (I : Inv X pins σ H s) (g : NGet X H a y o) (ry : RelV y u) (h : ∀ s', Inv X pins σ H s' → Q (.bool o.isSome) s') : wpAny (model X.prog X.w) A (compareOp .In u (.ref a)) Q E s := by
  obtain ⟨xs, b, d, e, hk, rfl, hd, kd, dd, l⟩ := g
  cases (show u = Value.ref b from ry)
  obtain ⟨z, zd, ys, rel, D⟩ := n_of I e hk
  refine wpAny_in_heap (knd := nestedKind X.prog X.w) (show A.units + 1 + 8 < cLine by omega) ⟨key_at I d _ _ kd hd rfl, Nat.le_trans (keyD_depth d) dd⟩ zd D ?_
  have q := (rel.val (keyD d)).isSome_eq
  rw [Option.isSome_map] at q
  rw [← q, ← l]
  exact h _ (I.tok _)
theorem n_notIn {Q : Value → Shared → Prop} (hu : A.units + 9 < cLine) (I : Inv X pins σ H s) (g : NGet X H a y o) (ry : RelV y u) (h : ∀ s', Inv X pins σ H s' → Q (.bool (!o.isSome)) s') : wpAny (model X.prog X.w) A (compareOp .NotIn u (.ref a)) Q E s := by
  obtain ⟨xs, b, d, e, hk, rfl, hd, kd, dd, l⟩ := g
  cases (show u = Value.ref b from ry)
  obtain ⟨z, zd, ys, rel, D⟩ := n_of I e hk
  refine wpAny_notIn_heap (knd := nestedKind X.prog X.w) (show A.units + 1 + 8 < cLine by omega) ⟨key_at I d _ _ kd hd rfl, Nat.le_trans (keyD_depth d) dd⟩ zd D ?_
  have q := (rel.val (keyD d)).isSome_eq
  rw [Option.isSome_map] at q
  rw [← q, ← l]
  exact h _ (I.tok _)
theorem n_item {Q : Value → Shared → Prop} (hu : A.units + 9 < cLine) (I : Inv X pins σ H s) (g : NGet X H a y (some v)) (ry : RelV y u) (h : ∀ w' s', Inv X pins σ H s' → RelV v w' → Q w' s') : wpAny (model X.prog X.w) A (getItem (.ref a) u) Q E s := by
  obtain ⟨xs, b, d, e, hk, rfl, hd, kd, dd, l⟩ := g
  cases (show u = Value.ref b from ry)
  obtain ⟨z, zd, ys, rel, D⟩ := n_of I e hk
  obtain ⟨w', hw, rw'⟩ := RelO.some_of (v := v) (o := (atKey ys (keyD d)).map (·.2)) (by rw [l]; exact rel.val _)
  obtain ⟨p, hp, hp2⟩ := Option.map_eq_some_iff.mp hw
  refine wpAny_getItem_heap (knd := nestedKind X.prog X.w) (show A.units + 1 + 8 < cLine by omega) ⟨key_at I d _ _ kd hd rfl, Nat.le_trans (keyD_depth d) dd⟩ D hp ?_
  rw [hp2]
  exact h w' _ (I.tok _) rw'
theorem n_set {H' : Hp} {Q : Unit → Shared → Prop} (hu : A.units + 9 < cLine) (I : Inv X pins σ H s) (g : NPut X H a y v H') (ry : RelV y u) (rv : RelV v r) (h : ∀ s', Inv X pins σ H' s' → Q () s') : wpAny (model X.prog X.w) A (setItem (.ref a) u r) Q E s := by
  obtain ⟨xs, b, d, e, hk, rfl, hd, kd, dd, l, rfl⟩ := g
  cases (show u = Value.ref b from ry)
  obtain ⟨z, zd, ys, rel, D⟩ := n_of I e hk
  have hz : ys.length ≤ sizeLine := by rw [← Paired.length rel]; exact z
  have hl : (putN xs (keyD d) b v).length ≤ sizeLine := by have := putN_len xs (keyD d) b v; omega
  refine wpAny_setItem_heap (hsz := hz) (knd := nestedKind X.prog X.w) (show A.units + 1 + 8 < cLine by omega) ⟨key_at I d _ _ kd hd rfl, Nat.le_trans (keyD_depth d) dd⟩ D fun h' D' hs => h _ ?_
  obtain ⟨q, es, ep, hq, h2, h3, h4, _, h5⟩ := D'
  exact d_write I (by rw [e]; exact True.intro) hs ⟨q, hq⟩ (NOk.obj ⟨hl, zd, _, rel.put _ b rv, q, es, ep, hq, h2, h3, h4, h5⟩)
end
/-! the rules -/
def tNNew (P : Program) (w : World) : TE := fun _ H Q => ∀ p, H p = none → Q (.ref p) (upd H p (DictN P w p []))
def tNIn (X : Cx) (n : Bool) (ty td : TE) : TE := fun σ H Q => ty σ H fun y H1 => td σ H1 fun x H2 => ∃ a o, x = .ref a ∧ NGet X H2 a y o ∧ Q (.bl (if n then !o.isSome else o.isSome)) H2
def tNGet (X : Cx) (td ty : TE) : TE := fun σ H Q => td σ H fun x H1 => ty σ H1 fun y H2 => ∃ a v, x = .ref a ∧ NGet X H2 a y (some v) ∧ Q v H2
def sNPut (X : Cx) (td ty tv : TE) : TS := fun D σ H => tv σ H fun v H1 => td σ H1 fun x H2 => ty σ H2 fun y H3 => ∃ a H4, x = .ref a ∧ NPut X H3 a y v H4 ∧ D.nx σ H4
section
variable {X : Cx} {o i value : PySem.Expr} {pos pos' : Pos} {td ty tv : TE}
theorem pe_nnew : PE X (.Dict [] [] pos) (tNNew X.prog X.w) := ⟨fun pins s σ H Q I h => by
  refine wpAny_Dict_empty ⟨.ref s.heap.objs.size, _, I.laid (a := s.heap.objs.size) (o := DictN X.prog X.w s.heap.objs.size []) (t' := s.toks) (fun _ _ q => Heap.get?_push_of_some _ q) (Nat.le_refl _) ?_, rfl, h _ (I.hok.fresh (Nat.le_refl _))⟩
  exact NOk.obj ⟨Nat.zero_le _, beq_eq_false_iff_ne.mpr (Ne.symm (Nat.ne_of_lt I.big)), [], .nil, _, #[], 0, Heap.get?_push_size _ rfl, ⟨rfl, rfl, rfl⟩, rfl, rfl, List.nodup_nil⟩⟩
theorem pc_nin (hu : X.A.units + 9 < cLine) (hi : PE X i ty) (ho : PE X o td) : PC X .In i o (tNIn X false ty td) := by
  refine ⟨fun pins s σ H Q I h => thn (hi.run pins s σ H _ I h) fun iv s1 ⟨y, H1, J1, ry, q1⟩ => thn (ho.run pins s1 σ H1 _ J1 q1) fun u s2 ⟨x, H2, J2, rx, a, ov, ex, g, q2⟩ => ?_⟩
  subst ex
  obtain rfl : u = Value.ref a := rx
  exact n_in hu J2 g ry fun s3 J3 => ⟨.bl ov.isSome, H2, J3, rfl, q2⟩
theorem pc_nnotin (hu : X.A.units + 9 < cLine) (hi : PE X i ty) (ho : PE X o td) : PC X .NotIn i o (tNIn X true ty td) := by
  refine ⟨fun pins s σ H Q I h => thn (hi.run pins s σ H _ I h) fun iv s1 ⟨y, H1, J1, ry, q1⟩ => thn (ho.run pins s1 σ H1 _ J1 q1) fun u s2 ⟨x, H2, J2, rx, a, ov, ex, g, q2⟩ => ?_⟩
  subst ex
  obtain rfl : u = Value.ref a := rx
  exact n_notIn hu J2 g ry fun s3 J3 => ⟨.bl (!ov.isSome), H2, J3, rfl, q2⟩
theorem ps_nput (hu : X.A.units + 9 < cLine) (ho : PE X o td) (hi : PE X i ty) (hv : PE X value tv) (hs : swapsWith value (some (.Subscript o i pos')) pos.line X.env = pure false) : PS X (.Assign [.Subscript o i pos'] value pos) (sNPut X td ty tv) := by
  refine ⟨fun pins s σ H D I h => wpAny_Assign_Subscript (thn (hv.run pins s σ H _ I h) fun r s1 ⟨v, H1, J1, rv, q1⟩ => thn (ho.run pins s1 σ H1 _ J1 q1) fun u s2 ⟨x, H2, J2, rx, q2⟩ => thn (hi.run pins s2 σ H2 _ J2 q2) fun iv s3 ⟨y, H3, J3, ry, a, H4, ex, g, q3⟩ => ?_) hs⟩
  subst ex
  obtain rfl : u = Value.ref a := rx
  exact n_set hu J3 g ry rv fun s4 J4 => ⟨σ, H4, J4, q3⟩
end
/-! the same, of typed data -/
abbrev DL (α : Type) := List (Addr × α × V)
def neL {α : Type} [Dat α] (l : DL α) : List Ne := l.map fun t => (keyD (Dat.py t.2.1), t.1, t.2.2)
def DictD (P : Program) (w : World) {α : Type} [Dat α] (a : Addr) (l : DL α) : HO := DictN P w a (neL l)
def hasD {α : Type} [DecidableEq α] (l : DL α) (x : α) : Bool := l.any fun t => decide (t.2.1 = x)
def putD {α : Type} [DecidableEq α] (l : DL α) (b : Addr) (x : α) (v : V) : DL α := if hasD l x = true then l.map (fun t => if t.2.1 = x then (t.1, t.2.1, v) else t) else l ++ [(b, x, v)]
def KeysD {α : Type} [Dat α] (H : Hp) (l : DL α) : Prop := ∀ t ∈ l, Is H (.ref t.1) t.2.1
class Kd (α : Type) [Dat α] : Prop where
  k : ∀ d : α, kable (Dat.py d) = true
instance : Kd Int := ⟨fun _ => by show kable (.int _) = true; rw [kable]⟩
theorem kd_all {α : Type} [Dat α] [Kd α] : ∀ l : List α, kables (l.map Dat.py) = true
  | [] => by rw [List.map_nil, kables]
  | d :: l => by rw [List.map_cons, kables, Kd.k, kd_all l]; rfl
instance {α : Type} [Dat α] [Kd α] : Kd (Tup α) := ⟨fun d => by show kable (.tuple (d.l.map Dat.py)) = true; rw [kable]; exact kd_all d.l⟩
instance {α β : Type} [Dat α] [Dat β] [Kd α] [Kd β] : Kd (T2 α β) := ⟨fun d => by
  show kable (.tuple [Dat.py d.a, Dat.py d.b]) = true
  rw [kable, kables, kables, kables, Kd.k, Kd.k]; rfl⟩
instance {α β γ : Type} [Dat α] [Dat β] [Dat γ] [Kd α] [Kd β] [Kd γ] : Kd (T3 α β γ) := ⟨fun d => by
  show kable (.tuple [Dat.py d.a, Dat.py d.b, Dat.py d.c]) = true
  rw [kable, kables, kables, kables, kables, Kd.k, Kd.k, Kd.k]; rfl⟩
section
variable {α : Type} [Dat α] [DecidableEq α] [Kd α]
theorem keyD_inj (a b : α) : (keyD (Dat.py a) = keyD (Dat.py b)) = (a = b) := propext ((keyD_eqv _ _ (Kd.k a) (Kd.k b)).trans (Dat.eqv a b))
theorem KeysD.n {K : PySem.W.Frag} {H : Hp} {l : DL α} (h : KeysD H l) (hl : Dat.dep α ≤ 8) : KeysN K H (neL l) := fun t m => by
  obtain ⟨x, mx, rfl⟩ := List.mem_map.mp m
  exact ⟨Dat.py x.2.1, rfl, Kd.k _, Nat.le_trans (Dat.depth _) hl, Dat.dp (h x mx)⟩
theorem KeysD.up {H H' : Hp} {l : DL α} (h : KeysD H l) (s : Same H H') : KeysD H' l := fun t m => Is.up (h t m) s
theorem valN_neL (x : α) : ∀ l : DL α, (valN (neL l) (keyD (Dat.py x))).isSome = hasD l x
  | [] => rfl
  | t :: l => by
    have ih := valN_neL x l
    unfold valN neL hasD at ih ⊢
    rw [List.map_cons, List.find?_cons, List.any_cons]
    simp only [keyD_inj] at ih ⊢
    by_cases e : t.2.1 = x
    · rw [decide_eq_true e]; rfl
    · rw [decide_eq_false e, Bool.false_or]; exact ih
theorem putN_neL (l : DL α) (b : Addr) (x : α) (v : V) : putN (neL l) (keyD (Dat.py x)) b v = neL (putD l b x v) := by
  unfold putN putD
  rw [valN_neL]
  by_cases h : hasD l x = true
  · rw [if_pos h, if_pos h]
    unfold neL
    rw [List.map_map, List.map_map]
    congr 1
    funext t
    simp only [Function.comp, keyD_inj]
    by_cases e : t.2.1 = x
    · rw [if_pos e, if_pos e]
    · rw [if_neg e, if_neg e]
  · rw [if_neg h, if_neg h]
    unfold neL
    rw [List.map_append]; rfl
theorem NGet.d {X : Cx} {P : Program} {w : World} {H : Hp} {a b : Addr} {l : DL α} {x : α} (h : H a = some (DictD P w a l)) (k : KeysD H l) (hx : Is H (.ref b) x) (hP : X.prog = P := by rfl) (hw : X.w = w := by rfl) (hl : Dat.dep α ≤ 8 := by decide) : NGet X H a (.ref b) (valN (neL l) (keyD (Dat.py x))) := by
  subst hP hw
  exact ⟨neL l, b, Dat.py x, h, k.n hl, rfl, Dat.dp hx, Kd.k x, Nat.le_trans (Dat.depth x) hl, rfl⟩
theorem NPut.d {X : Cx} {P : Program} {w : World} {H : Hp} {a b : Addr} {l : DL α} {x : α} {v : V} (h : H a = some (DictD P w a l)) (k : KeysD H l) (hx : Is H (.ref b) x) (z : l.length < sizeLine) (hP : X.prog = P := by rfl) (hw : X.w = w := by rfl) (hl : Dat.dep α ≤ 8 := by decide) : NPut X H a (.ref b) v (upd H a (DictD P w a (putD l b x v))) := by
  subst hP hw
  exact ⟨neL l, b, Dat.py x, h, k.n hl, rfl, Dat.dp hx, Kd.k x, Nat.le_trans (Dat.depth x) hl, by unfold neL; rw [List.length_map]; exact z, by rw [putN_neL]; rfl⟩
theorem hasD_put (l : DL α) (b : Addr) (x y : α) (v : V) : hasD (putD l b x v) y = (decide (x = y) || hasD l y) := by
  unfold putD
  by_cases h : hasD l x = true
  · rw [if_pos h]
    have e : hasD (l.map fun t => if t.2.1 = x then (t.1, t.2.1, v) else t) y = hasD l y := by
      unfold hasD
      rw [List.any_map]
      congr 1
      funext t
      show decide ((if t.2.1 = x then (t.1, t.2.1, v) else t).2.1 = y) = _
      split <;> rfl
    rw [e]
    by_cases c : x = y
    · subst c; rw [h, Bool.or_true]
    · rw [decide_eq_false c, Bool.false_or]
  · rw [if_neg h]
    unfold hasD
    rw [List.any_append, List.any_cons, List.any_nil, Bool.or_false, Bool.or_comm]
theorem KeysD.put {H : Hp} {l : DL α} {b : Addr} {x : α} {v : V} (h : KeysD H l) (hx : Is H (.ref b) x) : KeysD H (putD l b x v) := fun t m => by
  unfold putD at m
  by_cases c : hasD l x = true
  · rw [if_pos c] at m
    obtain ⟨t0, m0, rfl⟩ := List.mem_map.mp m
    have z := h t0 m0
    show Is H (.ref (if t0.2.1 = x then (t0.1, t0.2.1, v) else t0).1) (if t0.2.1 = x then (t0.1, t0.2.1, v) else t0).2.1
    split <;> exact z
  · rw [if_neg c] at m
    rcases List.mem_append.mp m with m | m
    · exact h t m
    · rw [List.mem_singleton.mp m]; exact hx
theorem putD_len (l : DL α) (b : Addr) (x : α) (v : V) : (putD l b x v).length ≤ l.length + 1 := by
  unfold putD
  split
  · rw [List.length_map]; omega
  · rw [List.length_append]; exact Nat.le_refl _
end
theorem units9 {k : Nat} {A : Around} (r : Room k A) : A.units + 9 < cLine := by have := r.un; omega
end
def top (i : Nat) : Stmt := PySem.Challenge.pw_endnever_k71_walks_by_blocks.main.body.getD i (.Pass ⟨0, 0, 0, 0⟩)
abbrev s_L_at : Stmt := top 15
abbrev N_L_at : List Str := ["_law_script", "_law_k"]
theorem sc_L_at : FnScope ["_law_script", "_law_k"] ["_law_script", "_law_k"] (defScope s_L_at) := ⟨rfl, rfl, rfl, by decide +kernel, rfl, by decide +kernel, by decide +kernel⟩
abbrev s_L_purse : Stmt := top 18
abbrev N_L_purse : List Str := ["_law_script", "_law_at_here", "_law_cell"]
theorem sc_L_purse : FnScope ["_law_script", "_law_at_here", "_law_cell"] ["_law_script", "_law_at_here"] (defScope s_L_purse) := ⟨rfl, rfl, rfl, by decide +kernel, rfl, by decide +kernel, by decide +kernel⟩
abbrev s_L_mixed : Stmt := top 17
abbrev N_L_mixed : List Str := ["_law_cell", "_law_k", "_law_number"]
theorem sc_L_mixed : FnScope ["_law_cell", "_law_k", "_law_number"] ["_law_cell", "_law_k"] (defScope s_L_mixed) := ⟨rfl, rfl, rfl, by decide +kernel, rfl, by decide +kernel, by decide +kernel⟩
abbrev s_L_draw : Stmt := top 19
abbrev N_L_draw : List Str := ["_law_purse_here", "_law_out_of", "_law_drawn", "_law_number"]
theorem sc_L_draw : FnScope ["_law_purse_here", "_law_out_of", "_law_drawn", "_law_number"] ["_law_purse_here", "_law_out_of"] (defScope s_L_draw) := ⟨rfl, rfl, rfl, by decide +kernel, rfl, by decide +kernel, by decide +kernel⟩
abbrev s_L_entry : Stmt := top 20
abbrev N_L_entry : List Str := ["_law_purse_here", "_law_rows", "_law_signs", "_law_row", "_law_few", "_law_put", "_law_way", "_law_to"]
theorem sc_L_entry : FnScope ["_law_purse_here", "_law_rows", "_law_signs", "_law_row", "_law_few", "_law_put", "_law_way", "_law_to"] ["_law_purse_here", "_law_rows", "_law_signs", "_law_row", "_law_few"] (defScope s_L_entry) := ⟨rfl, rfl, rfl, by decide +kernel, rfl, by decide +kernel, by decide +kernel⟩
abbrev s_L_machine : Stmt := top 21
abbrev N_L_machine : List Str := ["_law_purse_here", "_law_rows", "_law_signs", "_law_few", "_law_sign", "_law_row"]
theorem sc_L_machine : FnScope ["_law_purse_here", "_law_rows", "_law_signs", "_law_few", "_law_sign", "_law_row"] ["_law_purse_here"] (defScope s_L_machine) := ⟨rfl, rfl, rfl, by decide +kernel, rfl, by decide +kernel, by decide +kernel⟩
abbrev s_L_kept : Stmt := top 22
abbrev N_L_kept : List Str := ["_law_machine_here", "_law_row"]
theorem sc_L_kept : FnScope ["_law_machine_here", "_law_row"] ["_law_machine_here"] (defScope s_L_kept) := ⟨rfl, rfl, rfl, by decide +kernel, rfl, by decide +kernel, by decide +kernel⟩
abbrev s_L_around : Stmt := top 25
abbrev N_L_around : List Str := ["_law_signs", "_law_place", "_law_k", "_law_first", "_law_j"]
theorem sc_L_around : FnScope ["_law_signs", "_law_place", "_law_k", "_law_first", "_law_j"] ["_law_signs", "_law_place", "_law_k"] (defScope s_L_around) := ⟨rfl, rfl, rfl, by decide +kernel, rfl, by decide +kernel, by decide +kernel⟩
abbrev s_L_strip : Stmt := top 23
abbrev N_L_strip : List Str := ["_law_signs", "_law_place"]
theorem sc_L_strip : FnScope ["_law_signs", "_law_place"] ["_law_signs"] (defScope s_L_strip) := ⟨rfl, rfl, rfl, by decide +kernel, rfl, by decide +kernel, by decide +kernel⟩
abbrev s_L_walked : Stmt := top 26
abbrev N_L_walked : List Str := ["_law_machine_here", "_law_k", "_law_many", "_law_row", "_law_place", "_law_steps", "_law_signs", "_law_told", "_law_seen", "_law_begin", "_law_mark", "_law_entry_here", "_law_block"]
theorem sc_L_walked : FnScope ["_law_machine_here", "_law_k", "_law_many", "_law_row", "_law_place", "_law_steps", "_law_signs", "_law_told", "_law_seen", "_law_begin", "_law_mark", "_law_entry_here", "_law_block"] ["_law_machine_here", "_law_k", "_law_many"] (defScope s_L_walked) := ⟨rfl, rfl, rfl, by decide +kernel, rfl, by decide +kernel, by decide +kernel⟩
abbrev s_is_entry : Stmt := top 6
abbrev N_is_entry : List Str := ["entry", "rows", "signs"]
theorem sc_is_entry : FnScope ["entry", "rows", "signs"] ["entry", "rows", "signs"] (defScope s_is_entry) := ⟨rfl, rfl, rfl, by decide +kernel, rfl, by decide +kernel, by decide +kernel⟩
abbrev s_is_machine : Stmt := top 7
abbrev N_is_machine : List Str := ["machine", "rows", "signs", "row", "entry"]
theorem sc_is_machine : FnScope ["machine", "rows", "signs", "row", "entry"] ["machine"] (defScope s_is_machine) := ⟨rfl, rfl, rfl, by decide +kernel, rfl, by decide +kernel, by decide +kernel⟩
abbrev s_must_machine : Stmt := top 8
abbrev N_must_machine : List Str := ["machine"]
theorem sc_must_machine : FnScope ["machine"] ["machine"] (defScope s_must_machine) := ⟨rfl, rfl, rfl, by decide +kernel, rfl, by decide +kernel, by decide +kernel⟩
abbrev s_Walk_init : Stmt := inClass (top 12) 0
abbrev N_Walk_init : List Str := ["self", "long"]
theorem sc_Walk_init : FnScope ["self", "long"] ["self", "long"] (defScope s_Walk_init) := ⟨rfl, rfl, rfl, by decide +kernel, rfl, by decide +kernel, by decide +kernel⟩
abbrev s_most_setups : Stmt := top 10
abbrev N_most_setups : List Str := ["machine", "block", "found", "sign"]
theorem sc_most_setups : FnScope ["machine", "block", "found", "sign"] ["machine", "block"] (defScope s_most_setups) := ⟨rfl, rfl, rfl, by decide +kernel, rfl, by decide +kernel, by decide +kernel⟩
abbrev s_through : Stmt := top 11
abbrev N_through : List Str := ["machine", "block", "row", "side", "signs", "place", "steps", "entry"]
theorem sc_through : FnScope ["machine", "block", "row", "side", "signs", "place", "steps", "entry"] ["machine", "block", "row", "side"] (defScope s_through) := ⟨rfl, rfl, rfl, by decide +kernel, rfl, by decide +kernel, by decide +kernel⟩
abbrev s_Walk_out : Stmt := inClass (top 12) 3
abbrev N_Walk_out : List Str := ["self", "found", "word", "signs", "row", "way", "steps"]
theorem sc_Walk_out : FnScope ["self", "found", "word", "signs", "row", "way", "steps"] ["self", "found"] (defScope s_Walk_out) := ⟨rfl, rfl, rfl, by decide +kernel, rfl, by decide +kernel, by decide +kernel⟩
abbrev s_Walk_place : Stmt := inClass (top 12) 2
abbrev N_Walk_place : List Str := ["self"]
theorem sc_Walk_place : FnScope ["self"] ["self"] (defScope s_Walk_place) := ⟨rfl, rfl, rfl, by decide +kernel, rfl, by decide +kernel, by decide +kernel⟩
abbrev s_Walk_strip : Stmt := inClass (top 12) 4
abbrev N_Walk_strip : List Str := ["self", "found", "at", "k", "sign"]
theorem sc_Walk_strip : FnScope ["self", "found", "at", "k", "sign"] ["self"] (defScope s_Walk_strip) := ⟨rfl, rfl, rfl, by decide +kernel, rfl, by decide +kernel, by decide +kernel⟩
abbrev s_Walk_block : Stmt := inClass (top 12) 1
abbrev N_Walk_block : List Str := ["self"]
theorem sc_Walk_block : FnScope ["self"] ["self"] (defScope s_Walk_block) := ⟨rfl, rfl, rfl, by decide +kernel, rfl, by decide +kernel, by decide +kernel⟩
abbrev s_by_blocks : Stmt := top 13
abbrev N_by_blocks : List Str := ["machine", "k", "many", "walk", "turn", "found", "word", "signs", "row", "place", "steps"]
theorem sc_by_blocks : FnScope ["machine", "k", "many", "walk", "turn", "found", "word", "signs", "row", "place", "steps"] ["machine", "k", "many"] (defScope s_by_blocks) := ⟨rfl, rfl, rfl, by decide +kernel, rfl, by decide +kernel, by decide +kernel⟩
abbrev s_L_whole : Stmt := top 16
abbrev N_L_whole : List Str := ["_law_found"]
theorem sc_L_whole : FnScope ["_law_found"] ["_law_found"] (defScope s_L_whole) := ⟨rfl, rfl, rfl, by decide +kernel, rfl, by decide +kernel, by decide +kernel⟩
abbrev s_L_is_strip : Stmt := top 24
abbrev N_L_is_strip : List Str := ["_law_strip_here", "_law_one"]
theorem sc_L_is_strip : FnScope ["_law_strip_here", "_law_one"] ["_law_strip_here"] (defScope s_L_is_strip) := ⟨rfl, rfl, rfl, by decide +kernel, rfl, by decide +kernel, by decide +kernel⟩
abbrev s_L_good : Stmt := top 27
abbrev N_L_good : List Str := ["_law_found", "_law_due", "_law_number"]
theorem sc_L_good : FnScope ["_law_found", "_law_due", "_law_number"] ["_law_found", "_law_due"] (defScope s_L_good) := ⟨rfl, rfl, rfl, by decide +kernel, rfl, by decide +kernel, by decide +kernel⟩
abbrev s_law : Stmt := top 28
abbrev N_law : List Str := ["_law_script", "_law_cell", "_law_purse_here", "_law_machine_here", "_law_handed", "_law_turn", "_law_k", "_law_many", "_law_due", "_law_again", "_law_found"]
theorem sc_law : FnScope ["_law_script", "_law_cell", "_law_purse_here", "_law_machine_here", "_law_handed", "_law_turn", "_law_k", "_law_many", "_law_due", "_law_again", "_law_found"] ["_law_script"] (defScope s_law) := ⟨rfl, rfl, rfl, by decide +kernel, rfl, by decide +kernel, by decide +kernel⟩
/-- what the top has written: where each def stands, what the names hold -/
structure Tx (K : PySem.W.Frag) (mg : Str → Option Value) where
  a_L_at : Addr
  fd_L_at : FuncData
  F_L_at : Fun K "_law_at" "_law_at" s_L_at a_L_at fd_L_at
  b_L_at : Binds K fd_L_at ["_law_script", "_law_k"] []
  m_L_at : mg "_law_at" = some (.ref a_L_at)
  a_L_purse : Addr
  fd_L_purse : FuncData
  F_L_purse : Fun K "_law_purse" "_law_purse" s_L_purse a_L_purse fd_L_purse
  b_L_purse : Binds K fd_L_purse ["_law_script", "_law_at_here"] []
  m_L_purse : mg "_law_purse" = some (.ref a_L_purse)
  a_L_mixed : Addr
  fd_L_mixed : FuncData
  F_L_mixed : Fun K "_law_mixed" "_law_mixed" s_L_mixed a_L_mixed fd_L_mixed
  b_L_mixed : Binds K fd_L_mixed ["_law_cell", "_law_k"] []
  m_L_mixed : mg "_law_mixed" = some (.ref a_L_mixed)
  a_L_draw : Addr
  fd_L_draw : FuncData
  F_L_draw : Fun K "_law_draw" "_law_draw" s_L_draw a_L_draw fd_L_draw
  b_L_draw : Binds K fd_L_draw ["_law_purse_here", "_law_out_of"] []
  m_L_draw : mg "_law_draw" = some (.ref a_L_draw)
  a_L_entry : Addr
  fd_L_entry : FuncData
  F_L_entry : Fun K "_law_entry" "_law_entry" s_L_entry a_L_entry fd_L_entry
  b_L_entry : Binds K fd_L_entry ["_law_purse_here", "_law_rows", "_law_signs", "_law_row", "_law_few"] []
  m_L_entry : mg "_law_entry" = some (.ref a_L_entry)
  a_L_machine : Addr
  fd_L_machine : FuncData
  F_L_machine : Fun K "_law_machine" "_law_machine" s_L_machine a_L_machine fd_L_machine
  b_L_machine : Binds K fd_L_machine ["_law_purse_here"] []
  m_L_machine : mg "_law_machine" = some (.ref a_L_machine)
  a_L_kept : Addr
  fd_L_kept : FuncData
  F_L_kept : Fun K "_law_kept" "_law_kept" s_L_kept a_L_kept fd_L_kept
  b_L_kept : Binds K fd_L_kept ["_law_machine_here"] []
  m_L_kept : mg "_law_kept" = some (.ref a_L_kept)
  a_L_around : Addr
  fd_L_around : FuncData
  F_L_around : Fun K "_law_around" "_law_around" s_L_around a_L_around fd_L_around
  b_L_around : Binds K fd_L_around ["_law_signs", "_law_place", "_law_k"] []
  m_L_around : mg "_law_around" = some (.ref a_L_around)
  a_L_strip : Addr
  fd_L_strip : FuncData
  F_L_strip : Fun K "_law_strip" "_law_strip" s_L_strip a_L_strip fd_L_strip
  b_L_strip : Binds K fd_L_strip ["_law_signs"] []
  m_L_strip : mg "_law_strip" = some (.ref a_L_strip)
  a_L_walked : Addr
  fd_L_walked : FuncData
  F_L_walked : Fun K "_law_walked" "_law_walked" s_L_walked a_L_walked fd_L_walked
  b_L_walked : Binds K fd_L_walked ["_law_machine_here", "_law_k", "_law_many"] []
  m_L_walked : mg "_law_walked" = some (.ref a_L_walked)
  a_is_entry : Addr
  fd_is_entry : FuncData
  F_is_entry : Fun K "is_entry" "is_entry" s_is_entry a_is_entry fd_is_entry
  b_is_entry : Binds K fd_is_entry ["entry", "rows", "signs"] []
  m_is_entry : mg "is_entry" = some (.ref a_is_entry)
  a_is_machine : Addr
  fd_is_machine : FuncData
  F_is_machine : Fun K "is_machine" "is_machine" s_is_machine a_is_machine fd_is_machine
  b_is_machine : Binds K fd_is_machine ["machine"] []
  m_is_machine : mg "is_machine" = some (.ref a_is_machine)
  a_must_machine : Addr
  fd_must_machine : FuncData
  F_must_machine : Fun K "must_machine" "must_machine" s_must_machine a_must_machine fd_must_machine
  b_must_machine : Binds K fd_must_machine ["machine"] []
  m_must_machine : mg "must_machine" = some (.ref a_must_machine)
  a_Walk_init : Addr
  fd_Walk_init : FuncData
  F_Walk_init : Fun K "__init__" "Walk.__init__" s_Walk_init a_Walk_init fd_Walk_init
  b_Walk_init : Binds K fd_Walk_init ["self", "long"] []
  a_most_setups : Addr
  fd_most_setups : FuncData
  F_most_setups : Fun K "most_setups" "most_setups" s_most_setups a_most_setups fd_most_setups
  b_most_setups : Binds K fd_most_setups ["machine", "block"] []
  m_most_setups : mg "most_setups" = some (.ref a_most_setups)
  a_through : Addr
  fd_through : FuncData
  F_through : Fun K "through" "through" s_through a_through fd_through
  b_through : Binds K fd_through ["machine", "block", "row", "side"] []
  m_through : mg "through" = some (.ref a_through)
  a_Walk_out : Addr
  fd_Walk_out : FuncData
  F_Walk_out : Fun K "out" "Walk.out" s_Walk_out a_Walk_out fd_Walk_out
  b_Walk_out : Binds K fd_Walk_out ["self", "found"] []
  a_Walk_place : Addr
  fd_Walk_place : FuncData
  F_Walk_place : Fun K "place" "Walk.place" s_Walk_place a_Walk_place fd_Walk_place
  b_Walk_place : Binds K fd_Walk_place ["self"] []
  a_Walk_strip : Addr
  fd_Walk_strip : FuncData
  F_Walk_strip : Fun K "strip" "Walk.strip" s_Walk_strip a_Walk_strip fd_Walk_strip
  b_Walk_strip : Binds K fd_Walk_strip ["self"] []
  a_Walk_block : Addr
  fd_Walk_block : FuncData
  F_Walk_block : Fun K "block" "Walk.block" s_Walk_block a_Walk_block fd_Walk_block
  b_Walk_block : Binds K fd_Walk_block ["self"] []
  a_by_blocks : Addr
  fd_by_blocks : FuncData
  F_by_blocks : Fun K "by_blocks" "by_blocks" s_by_blocks a_by_blocks fd_by_blocks
  b_by_blocks : Binds K fd_by_blocks ["machine", "k", "many"] []
  m_by_blocks : mg "by_blocks" = some (.ref a_by_blocks)
  a_L_whole : Addr
  fd_L_whole : FuncData
  F_L_whole : Fun K "_law_whole" "_law_whole" s_L_whole a_L_whole fd_L_whole
  b_L_whole : Binds K fd_L_whole ["_law_found"] []
  m_L_whole : mg "_law_whole" = some (.ref a_L_whole)
  a_L_is_strip : Addr
  fd_L_is_strip : FuncData
  F_L_is_strip : Fun K "_law_is_strip" "_law_is_strip" s_L_is_strip a_L_is_strip fd_L_is_strip
  b_L_is_strip : Binds K fd_L_is_strip ["_law_strip_here"] []
  m_L_is_strip : mg "_law_is_strip" = some (.ref a_L_is_strip)
  a_L_good : Addr
  fd_L_good : FuncData
  F_L_good : Fun K "_law_good" "_law_good" s_L_good a_L_good fd_L_good
  b_L_good : Binds K fd_L_good ["_law_found", "_law_due"] []
  m_L_good : mg "_law_good" = some (.ref a_L_good)
  a_law : Addr
  fd_law : FuncData
  F_law : Fun K "law" "law" s_law a_law fd_law
  b_law : Binds K fd_law ["_law_script"] []
  m_law : mg "law" = some (.ref a_law)
  C_NoMachine : Addr
  m_NoMachine : mg "NoMachine" = some (.ref C_NoMachine)
  C_Walk : Addr
  m_Walk : mg "Walk" = some (.ref C_Walk)
  cl_Walk : Cls K C_Walk
  M_Walk : Mk K C_Walk a_Walk_init
  M_Walk_block : Meth K C_Walk "block" a_Walk_block
  M_Walk_place : Meth K C_Walk "place" a_Walk_place
  M_Walk_out : Meth K C_Walk "out" a_Walk_out
  M_Walk_strip : Meth K C_Walk "strip" a_Walk_strip
  nA_Walk_long : NoAttr K C_Walk "long"
  nA_Walk_blocks : NoAttr K C_Walk "blocks"
  nA_Walk_at : NoAttr K C_Walk "at"
  nA_Walk_row : NoAttr K C_Walk "row"
  nA_Walk_side : NoAttr K C_Walk "side"
  nA_Walk_steps : NoAttr K C_Walk "steps"
  tk_MOST_ROWS : Tok
  m_MOST_ROWS : mg "MOST_ROWS" = some (.int 4 tk_MOST_ROWS)
  tk_MOST_SIGNS : Tok
  m_MOST_SIGNS : mg "MOST_SIGNS" = some (.int 4 tk_MOST_SIGNS)
  n_len : mg "len" = none
  n_max : mg "max" = none
  n_int : mg "int" = none
  n_range : mg "range" = none
  n_list : mg "list" = none
  n_tuple : mg "tuple" = none
  n_sorted : mg "sorted" = none
  n_all : mg "all" = none
  n_enumerate : mg "enumerate" = none
  n_isinstance : mg "isinstance" = none
  n_bool : mg "bool" = none
/-! ### the fields of a Walk -/
theorem ne_Walk_long_blocks : ¬ (("long" : Str) = "blocks") := by decide +kernel
theorem ne_Walk_long_at : ¬ (("long" : Str) = "at") := by decide +kernel
theorem ne_Walk_long_row : ¬ (("long" : Str) = "row") := by decide +kernel
theorem ne_Walk_long_side : ¬ (("long" : Str) = "side") := by decide +kernel
theorem ne_Walk_long_steps : ¬ (("long" : Str) = "steps") := by decide +kernel
theorem ne_Walk_blocks_long : ¬ (("blocks" : Str) = "long") := by decide +kernel
theorem ne_Walk_blocks_at : ¬ (("blocks" : Str) = "at") := by decide +kernel
theorem ne_Walk_blocks_row : ¬ (("blocks" : Str) = "row") := by decide +kernel
theorem ne_Walk_blocks_side : ¬ (("blocks" : Str) = "side") := by decide +kernel
theorem ne_Walk_blocks_steps : ¬ (("blocks" : Str) = "steps") := by decide +kernel
theorem ne_Walk_at_long : ¬ (("at" : Str) = "long") := by decide +kernel
theorem ne_Walk_at_blocks : ¬ (("at" : Str) = "blocks") := by decide +kernel
theorem ne_Walk_at_row : ¬ (("at" : Str) = "row") := by decide +kernel
theorem ne_Walk_at_side : ¬ (("at" : Str) = "side") := by decide +kernel
theorem ne_Walk_at_steps : ¬ (("at" : Str) = "steps") := by decide +kernel
theorem ne_Walk_row_long : ¬ (("row" : Str) = "long") := by decide +kernel
theorem ne_Walk_row_blocks : ¬ (("row" : Str) = "blocks") := by decide +kernel
theorem ne_Walk_row_at : ¬ (("row" : Str) = "at") := by decide +kernel
theorem ne_Walk_row_side : ¬ (("row" : Str) = "side") := by decide +kernel
theorem ne_Walk_row_steps : ¬ (("row" : Str) = "steps") := by decide +kernel
theorem ne_Walk_side_long : ¬ (("side" : Str) = "long") := by decide +kernel
theorem ne_Walk_side_blocks : ¬ (("side" : Str) = "blocks") := by decide +kernel
theorem ne_Walk_side_at : ¬ (("side" : Str) = "at") := by decide +kernel
theorem ne_Walk_side_row : ¬ (("side" : Str) = "row") := by decide +kernel
theorem ne_Walk_side_steps : ¬ (("side" : Str) = "steps") := by decide +kernel
theorem ne_Walk_steps_long : ¬ (("steps" : Str) = "long") := by decide +kernel
theorem ne_Walk_steps_blocks : ¬ (("steps" : Str) = "blocks") := by decide +kernel
theorem ne_Walk_steps_at : ¬ (("steps" : Str) = "at") := by decide +kernel
theorem ne_Walk_steps_row : ¬ (("steps" : Str) = "row") := by decide +kernel
theorem ne_Walk_steps_side : ¬ (("steps" : Str) = "side") := by decide +kernel
def Walk_F (v0 v1 v2 v3 v4 v5 : V) : List (Str × V) := [("long", v0), ("blocks", v1), ("at", v2), ("row", v3), ("side", v4), ("steps", v5)]
theorem Walk_mk0 (v0 : V) : putF "long" v0 ([] : List (Str × V)) = ([("long", v0)] : List (Str × V)) := by
  simp only [putF]
theorem Walk_mk1 (v0 v1 : V) : putF "blocks" v1 ([("long", v0)] : List (Str × V)) = ([("long", v0), ("blocks", v1)] : List (Str × V)) := by
  simp only [putF, if_neg ne_Walk_long_blocks]
theorem Walk_mk2 (v0 v1 v2 : V) : putF "at" v2 ([("long", v0), ("blocks", v1)] : List (Str × V)) = ([("long", v0), ("blocks", v1), ("at", v2)] : List (Str × V)) := by
  simp only [putF, if_neg ne_Walk_long_at, if_neg ne_Walk_blocks_at]
theorem Walk_mk3 (v0 v1 v2 v3 : V) : putF "row" v3 ([("long", v0), ("blocks", v1), ("at", v2)] : List (Str × V)) = ([("long", v0), ("blocks", v1), ("at", v2), ("row", v3)] : List (Str × V)) := by
  simp only [putF, if_neg ne_Walk_long_row, if_neg ne_Walk_blocks_row, if_neg ne_Walk_at_row]
theorem Walk_mk4 (v0 v1 v2 v3 v4 : V) : putF "side" v4 ([("long", v0), ("blocks", v1), ("at", v2), ("row", v3)] : List (Str × V)) = ([("long", v0), ("blocks", v1), ("at", v2), ("row", v3), ("side", v4)] : List (Str × V)) := by
  simp only [putF, if_neg ne_Walk_long_side, if_neg ne_Walk_blocks_side, if_neg ne_Walk_at_side, if_neg ne_Walk_row_side]
theorem Walk_mk5 (v0 v1 v2 v3 v4 v5 : V) : putF "steps" v5 ([("long", v0), ("blocks", v1), ("at", v2), ("row", v3), ("side", v4)] : List (Str × V)) = ([("long", v0), ("blocks", v1), ("at", v2), ("row", v3), ("side", v4), ("steps", v5)] : List (Str × V)) := by
  simp only [putF, if_neg ne_Walk_long_steps, if_neg ne_Walk_blocks_steps, if_neg ne_Walk_at_steps, if_neg ne_Walk_row_steps, if_neg ne_Walk_side_steps]
theorem Walk_get_long {v0 v1 v2 v3 v4 v5 : V} : (Walk_F v0 v1 v2 v3 v4 v5).lookup ("long" : Str) = some v0 := by
  have e : Walk_F v0 v1 v2 v3 v4 v5 = putF "long" v0 (Walk_F v0 v1 v2 v3 v4 v5) := by
    unfold Walk_F
    simp only [putF, if_true]
  rw [e, lookup_putF, if_pos rfl]
theorem Walk_put_long {v0 v1 v2 v3 v4 v5 y : V} : putF "long" y (Walk_F v0 v1 v2 v3 v4 v5) = Walk_F y v1 v2 v3 v4 v5 := by
  unfold Walk_F
  simp only [putF, if_true]
theorem Walk_get_blocks {v0 v1 v2 v3 v4 v5 : V} : (Walk_F v0 v1 v2 v3 v4 v5).lookup ("blocks" : Str) = some v1 := by
  have e : Walk_F v0 v1 v2 v3 v4 v5 = putF "blocks" v1 (Walk_F v0 v1 v2 v3 v4 v5) := by
    unfold Walk_F
    simp only [putF, if_neg ne_Walk_long_blocks, if_true]
  rw [e, lookup_putF, if_pos rfl]
theorem Walk_put_blocks {v0 v1 v2 v3 v4 v5 y : V} : putF "blocks" y (Walk_F v0 v1 v2 v3 v4 v5) = Walk_F v0 y v2 v3 v4 v5 := by
  unfold Walk_F
  simp only [putF, if_neg ne_Walk_long_blocks, if_true]
theorem Walk_get_at {v0 v1 v2 v3 v4 v5 : V} : (Walk_F v0 v1 v2 v3 v4 v5).lookup ("at" : Str) = some v2 := by
  have e : Walk_F v0 v1 v2 v3 v4 v5 = putF "at" v2 (Walk_F v0 v1 v2 v3 v4 v5) := by
    unfold Walk_F
    simp only [putF, if_neg ne_Walk_long_at, if_neg ne_Walk_blocks_at, if_true]
  rw [e, lookup_putF, if_pos rfl]
theorem Walk_put_at {v0 v1 v2 v3 v4 v5 y : V} : putF "at" y (Walk_F v0 v1 v2 v3 v4 v5) = Walk_F v0 v1 y v3 v4 v5 := by
  unfold Walk_F
  simp only [putF, if_neg ne_Walk_long_at, if_neg ne_Walk_blocks_at, if_true]
theorem Walk_get_row {v0 v1 v2 v3 v4 v5 : V} : (Walk_F v0 v1 v2 v3 v4 v5).lookup ("row" : Str) = some v3 := by
  have e : Walk_F v0 v1 v2 v3 v4 v5 = putF "row" v3 (Walk_F v0 v1 v2 v3 v4 v5) := by
    unfold Walk_F
    simp only [putF, if_neg ne_Walk_long_row, if_neg ne_Walk_blocks_row, if_neg ne_Walk_at_row, if_true]
  rw [e, lookup_putF, if_pos rfl]
theorem Walk_put_row {v0 v1 v2 v3 v4 v5 y : V} : putF "row" y (Walk_F v0 v1 v2 v3 v4 v5) = Walk_F v0 v1 v2 y v4 v5 := by
  unfold Walk_F
  simp only [putF, if_neg ne_Walk_long_row, if_neg ne_Walk_blocks_row, if_neg ne_Walk_at_row, if_true]
theorem Walk_get_side {v0 v1 v2 v3 v4 v5 : V} : (Walk_F v0 v1 v2 v3 v4 v5).lookup ("side" : Str) = some v4 := by
  have e : Walk_F v0 v1 v2 v3 v4 v5 = putF "side" v4 (Walk_F v0 v1 v2 v3 v4 v5) := by
    unfold Walk_F
    simp only [putF, if_neg ne_Walk_long_side, if_neg ne_Walk_blocks_side, if_neg ne_Walk_at_side, if_neg ne_Walk_row_side, if_true]
  rw [e, lookup_putF, if_pos rfl]
theorem Walk_put_side {v0 v1 v2 v3 v4 v5 y : V} : putF "side" y (Walk_F v0 v1 v2 v3 v4 v5) = Walk_F v0 v1 v2 v3 y v5 := by
  unfold Walk_F
  simp only [putF, if_neg ne_Walk_long_side, if_neg ne_Walk_blocks_side, if_neg ne_Walk_at_side, if_neg ne_Walk_row_side, if_true]
theorem Walk_get_steps {v0 v1 v2 v3 v4 v5 : V} : (Walk_F v0 v1 v2 v3 v4 v5).lookup ("steps" : Str) = some v5 := by
  have e : Walk_F v0 v1 v2 v3 v4 v5 = putF "steps" v5 (Walk_F v0 v1 v2 v3 v4 v5) := by
    unfold Walk_F
    simp only [putF, if_neg ne_Walk_long_steps, if_neg ne_Walk_blocks_steps, if_neg ne_Walk_at_steps, if_neg ne_Walk_row_steps, if_neg ne_Walk_side_steps, if_true]
  rw [e, lookup_putF, if_pos rfl]
theorem Walk_put_steps {v0 v1 v2 v3 v4 v5 y : V} : putF "steps" y (Walk_F v0 v1 v2 v3 v4 v5) = Walk_F v0 v1 v2 v3 v4 y := by
  unfold Walk_F
  simp only [putF, if_neg ne_Walk_long_steps, if_neg ne_Walk_blocks_steps, if_neg ne_Walk_at_steps, if_neg ne_Walk_row_steps, if_neg ne_Walk_side_steps, if_true]
theorem Walk_no {v0 v1 v2 v3 v4 v5 : V} {m : Str} (h0 : ¬ m = "long") (h1 : ¬ m = "blocks") (h2 : ¬ m = "at") (h3 : ¬ m = "row") (h4 : ¬ m = "side") (h5 : ¬ m = "steps") : (Walk_F v0 v1 v2 v3 v4 v5).lookup m = none := by
  have h : ∀ (f : Str) (v : V) (r : List (Str × V)), ¬ m = f → r.lookup m = none → ((f, v) :: r).lookup m = none := fun f v r n q => by
    rw [List.lookup_cons, beq_eq_false_iff_ne.mpr n]; exact q
  unfold Walk_F
  exact h _ _ _ h0 (h _ _ _ h1 (h _ _ _ h2 (h _ _ _ h3 (h _ _ _ h4 (h _ _ _ h5 rfl)))))
theorem Walk_few {v0 v1 v2 v3 v4 v5 : V} : (Walk_F v0 v1 v2 v3 v4 v5).length < 1000 := by show 6 < 1000; decide
section
variable {P : Program} {w : World} {K : PySem.W.Frag} {mg : Str → Option Value} {base : Heap}
/-! ### small things -/
theorem ln {H : Hp} {p q : Addr} {o u : HO} (n : H q = none) (h : H p = some o) : upd H q u p = some o := (upd_ne (ne_of_none h n)).trans h
theorem kt_int_int {K : PySem.W.Frag} : PySem.W.kitOne K (.type "int") (.type "int") = some true := kit_ty (by decide +kernel)
theorem kt_int_bool {K : PySem.W.Frag} : PySem.W.kitOne K (.type "int") (.type "bool") = some false := kit_ty (by decide +kernel)
theorem kt_tup {K : PySem.W.Frag} : PySem.W.kitOne K (.type "tuple") (.type "tuple") = some true := kit_ty (by decide +kernel)
theorem kt_list {K : PySem.W.Frag} : PySem.W.kitOne K (.type "list") (.type "list") = some true := kit_ty (by decide +kernel)
theorem gr_purse {H H1 : Hp} (s : Same H H1) : Gr mu0 H H H H1 := ⟨fun _ _ h => h, s, fun _ _ h => .inl h, fun c o h _ => s c o h, fun c h => s.free h⟩
theorem at_end {xs : List V} {k : Nat} {v : V} (l : xs.length = k + 1) (h : xs[k]? = some v) : atI xs (-1) = some v := by
  have e : ixN xs.length (-1) = some k := by
    unfold ixN
    rw [if_neg (by decide), if_pos (by omega)]
    congr 1
    omega
  unfold atI
  rw [e]
  exact h
theorem cut_all {xs : List V} {j : Nat} (h : xs.length ≤ j) : cutV xs none (some (j : Int)) = xs := by
  unfold cutV
  have e1 : HT.sIx xs.length 0 none = 0 := rfl
  have e2 : HT.sIx xs.length xs.length (some (j : Int)) = xs.length := by
    simp only [HT.sIx]
    rw [if_neg (by omega), Int.toNat_natCast]
    omega
  rw [e1, e2, List.drop_zero, Nat.sub_zero, List.take_length]
theorem map_take_succ {α β : Type} {f : α → β} {xs : List α} {i : Nat} {x : α} (h : xs[i]? = some x) : (xs.take (i + 1)).map f = (xs.take i).map f ++ [f x] := by
  rw [List.take_add_one, h, List.map_append]; rfl
theorem cut_1 {xs : List V} : cutV xs (some 1) none = xs.drop 1 := by
  unfold cutV
  have e2 : HT.sIx xs.length xs.length none = xs.length := rfl
  rw [e2]
  cases xs with
  | nil => simp
  | cons x xs =>
    have e1 : HT.sIx (x :: xs).length 0 (some 1) = 1 := by
      simp only [HT.sIx, List.length_cons]
      rw [if_neg (by decide), show (1 : Int).toNat = 1 from rfl]
      omega
    rw [e1]
    show (xs.take (xs.length + 1 - 1)) = xs
    rw [Nat.add_sub_cancel, List.take_length]
theorem cut32 : ¬ (HT.sIx 3 0 none = 0 ∧ HT.sIx 3 3 (some 2) = 3) := by decide
theorem Gr.frzS {mu : Addr → Prop} {F H F1 H1 : Hp} (g : Gr mu F H F1 H1) (P : Addr → Prop) [DecidablePred P] (h : ∀ c, P c → H c = none ∧ F1 c = none) : Gr mu F H (fun c => if P c then H1 c else F1 c) H1 ∧ Same F1 (fun c => if P c then H1 c else F1 c) := by
  have s : Same F1 (fun c => if P c then H1 c else F1 c) := fun c o e => by
    by_cases p : P c
    · rw [(h c p).2] at e; cases e
    · simp only [p, if_false]; exact e
  refine ⟨⟨fun c o e => s c o (g.ff c o e), fun c o e => ?_, fun c o e => ?_, g.fr, g.th⟩, s⟩
  · by_cases p : P c
    · simp only [p, if_true] at e; exact e
    · simp only [p, if_false] at e; exact g.fh c o e
  · by_cases p : P c
    · exact .inr (h c p).1
    · simp only [p, if_false] at e; exact g.nw c o e
/-! ### purses of three numbers -/
def PurseC (a c k : Int) : HO := .lst [.int a, .int c, .int k]
def PuAt (H : Hp) (p : Addr) (b : Int) : Prop := ∃ a c k : Int, H p = some (PurseC a c k) ∧ 0 ≤ k ∧ k ≤ b
theorem PuAt.le {H : Hp} {p : Addr} {b b' : Int} (h : PuAt H p b) (l : b ≤ b') : PuAt H p b' := by
  obtain ⟨a, c, k, e, h0, h1⟩ := h
  exact ⟨a, c, k, e, h0, by omega⟩
theorem PuAt.gr {mu : Addr → Prop} {F H F' H' : Hp} {p : Addr} {b : Int} (h : PuAt H p b) (g : Gr mu F H F' H') (m : ¬ mu p) : PuAt H' p b := by
  obtain ⟨a, c, k, e, h0, h1⟩ := h
  exact ⟨a, c, k, g.fr _ _ e m, h0, h1⟩
theorem PuAt.ln {H : Hp} {p q : Addr} {o : HO} {b : Int} (h : PuAt H p b) (n : H q = none) : PuAt (upd H q o) p b := by
  obtain ⟨a, c, k, e, h0, h1⟩ := h
  exact ⟨a, c, k, by rw [upd_ne (ne_of_none e n)]; exact e, h0, h1⟩
theorem PuAt.off {H : Hp} {p q : Addr} {o : HO} {b : Int} (h : PuAt H p b) (n : p ≠ q) : PuAt (upd H q o) p b := by
  obtain ⟨a, c, k, e, h0, h1⟩ := h
  exact ⟨a, c, k, by rw [upd_ne n]; exact e, h0, h1⟩
theorem PuAt.ex {H : Hp} {p : Addr} {b : Int} (h : PuAt H p b) : ∃ o, H p = some o := by
  obtain ⟨a, c, k, e, _⟩ := h
  exact ⟨_, e⟩
theorem Gr.pf0 {mu : Addr → Prop} {F H F1 H1 : Hp} {p : Addr} {o : HO} (g : Gr mu F H F1 H1) (f : F p = none) (h : H p = some o) : F1 p = none := by
  cases e : F1 p with
  | none => rfl
  | some z =>
    rcases g.nw p z e with k | k
    · rw [f] at k; cases k
    · rw [h] at k; cases k
theorem PuAt.f {mu : Addr → Prop} {F H F1 H1 : Hp} {p : Addr} {b : Int} (h : PuAt H p b) (f : F p = none) (g : Gr mu F H F1 H1) : F1 p = none := by
  obtain ⟨o, e⟩ := h.ex
  exact g.pf0 f e
theorem PuAt.ne {H : Hp} {p q : Addr} {b : Int} (h : PuAt H p b) (n : H q = none) : p ≠ q := by
  obtain ⟨o, e⟩ := h.ex
  exact ne_of_none e n
def sp_L_at (K : PySem.W.Frag) : Sp := fun vs H Q _ => ∃ (l : Addr) (ns : List Int) (k : Nat), vs = [.ref l, .int k] ∧ SqL K H l (ns.map V.int) ∧ ∀ z : Int, Q (.int z) H
theorem ok_L_at (t : Tx K mg) : FnOk P w K mg base CX0 1 t.a_L_at t.fd_L_at ["_law_script", "_law_k"] (sp_L_at K) := by
  refine t.F_L_at.ok sc_L_at (fun vs H Q E h => ?_) (fun cdv A outer s H vs Q E hr h => ?_)
  · obtain ⟨l, ns, k, rfl, _⟩ := h
    rfl
  · obtain ⟨l, ns, k, rfl, hl, q⟩ := h
    refine ⟨_, (pss_cons (ps_if (pt_cmpR op_lt (pv 1) (pe_callB (id := "len") call_lenQ (by rfl) t.n_len (by decide +kernel) (pa_cons (pv 0) pa_nil)) (nomark _)) (pss_one (ps_ret (pe_ix ix_list (pv 0) (pv 1) (fun _ _ => rfl)))) pss_nil)
      (pss_one (ps_ret pe_int))), ?_⟩
    refine ⟨_, rfl, _, rfl, l, _, rfl, .inl hl, _, _, rfl, rfl, _, rfl, ?_⟩
    refine ite2 (fun c => ?_) (fun c => ?_)
    · have c := of_decide_eq_true c
      have c : k < ns.length := by
        rw [List.length_map] at c
        omega
      refine ⟨_, rfl, _, rfl, l, _, _, _, rfl, rfl, hl, atI_nat (j := k) (by rw [List.getElem?_map, List.getElem?_eq_getElem c]; rfl), ?_⟩
      exact q _
    · exact q 0
def sp_L_mixed : Sp := fun vs H Q _ => ∃ c k : Int, vs = [.int c, .int k] ∧ 0 ≤ k ∧ k < 1000000 ∧ ∀ n : Int, Q (.int n) H
theorem ok_L_mixed (t : Tx K mg) : FnOk P w K mg base CX0 1 t.a_L_mixed t.fd_L_mixed ["_law_cell", "_law_k"] sp_L_mixed := by
  refine t.F_L_mixed.ok sc_L_mixed (fun vs H Q E h => ?_) (fun cdv A outer s H vs Q E hr h => ?_)
  · obtain ⟨c, k, rfl, _⟩ := h
    rfl
  · obtain ⟨c, k, rfl, k0, k1, q⟩ := h
    refine ⟨_, (pss_cons (ps_set (i := 0) sc_L_mixed.nd rfl (by first | exact Or.inl rfl | exact Or.inr rfl) (pe_op op_mod (pv 0) pe_int))
      (pss_cons (ps_set (i := 2) sc_L_mixed.nd rfl (by first | exact Or.inl rfl | exact Or.inr rfl) (pe_op op_mod (pe_op op_add (pe_op op_add (pe_op op_mul (pv 0) pe_int) (pe_op op_mul (pe_op op_mul pe_int (pv 1)) (pv 1))) (pv 1)) pe_int))
      (pss_cons (ps_set (i := 2) sc_L_mixed.nd rfl (by first | exact Or.inl rfl | exact Or.inr rfl) (pe_op op_mod (pe_op op_mul (pv 2) (pv 2)) pe_int))
      (pss_one (ps_ret (pe_op op_mod (pe_op op_mul (pv 2) pe_int) pe_int)))))), ?_⟩
    refine ⟨_, rfl, _, _, rfl, rfl, (by show (0 : Int) < 4611685803679178881; decide), ?_⟩
    generalize c % 4611685803679178881 = r
    refine ⟨_, rfl, _, _, rfl, rfl, .inr ⟨by decide, by decide⟩, _, rfl, _, _, rfl, rfl, .inl ⟨by decide, by decide⟩, _, rfl, _, _, rfl, rfl, .inr ⟨by omega, by omega⟩, _, _, rfl, rfl, _, rfl, _, _, rfl, rfl, _, _, rfl, rfl, (by show (0 : Int) < 2147483647; decide), ?_⟩
    have g0 := Int.emod_nonneg (r * 1103515245 + 7919 * k * k + k) (show (2147483647 : Int) ≠ 0 by decide)
    have g1 := Int.emod_lt_of_pos (r * 1103515245 + 7919 * k * k + k) (show (0 : Int) < 2147483647 by decide)
    generalize (r * 1103515245 + 7919 * k * k + k) % 2147483647 = n at g0 g1
    refine ⟨_, rfl, _, rfl, _, _, rfl, rfl, .inl ⟨by omega, by omega⟩, _, _, rfl, rfl, (by show (0 : Int) < 2147483629; decide), ?_⟩
    refine ⟨_, rfl, _, _, rfl, rfl, .inr ⟨by decide, by decide⟩, _, _, rfl, rfl, (by show (0 : Int) < 2147483587; decide), ?_⟩
    exact q _
def sp_L_purse (K : PySem.W.Frag) : Sp := fun vs H Q _ => ∃ (l : Addr) (ns : List Int) (k : Nat), vs = [.ref l, .int k] ∧ SqL K H l (ns.map V.int) ∧ k ≤ 10 ∧
  ∀ (p : Addr) (H' : Hp), Same H H' → H p = none → PuAt H' p 10000 → Q (.ref p) H'
theorem ok_L_purse (t : Tx K mg) : FnOk P w K mg base CX0 2 t.a_L_purse t.fd_L_purse ["_law_script", "_law_at_here"] (sp_L_purse K) := by
  refine t.F_L_purse.ok sc_L_purse (fun vs H Q E h => ?_) (fun cdv A outer s H vs Q E hr h => ?_)
  · obtain ⟨l, ns, k, rfl, _⟩ := h
    rfl
  · obtain ⟨l, ns, k, rfl, hl, k1, q⟩ := h
    refine ⟨_, (pss_cons (ps_set (i := 2) sc_L_purse.nd rfl (by first | exact Or.inl rfl | exact Or.inr rfl) (pe_call (ok_L_at t) (hr.mono (by decide)) (by rfl) t.m_L_at t.F_L_at.kp t.b_L_at .nil pass0 (pa_cons (pv 0) (pa_cons (pv 1) pa_nil))))
      (pss_one (ps_ret (pe_lst (pa_cons (pe_callB (id := "max") (call_max2 rfl) (by rfl) t.n_max (by decide +kernel) (pa_cons (pe_op op_sub (pv 2) (pe_op op_pow pe_int pe_int)) (pa_cons pe_int pa_nil))) (pa_cons (pv 2) (pa_cons (pe_op op_mul pe_int (pv 1)) pa_nil))))))), ?_⟩
    refine ⟨_, rfl, _, rfl, l, ns, k, rfl, hl, fun z => ?_⟩
    refine ⟨_, rfl, _, _, rfl, rfl, ⟨by decide, by decide, by decide⟩, _, _, rfl, rfl, _, _, rfl, ?_⟩
    refine ⟨_, rfl, _, rfl, _, _, rfl, rfl, .inl ⟨by decide, by decide⟩, three_le, fun p np => ?_⟩
    exact q p _ (sm_up np) np ⟨_, _, _, upd_same, by omega, by omega⟩
def sp_L_draw : Sp := fun vs H Q _ => ∃ (F : Hp) (p : Addr) (n b : Int), vs = [.ref p, .int n] ∧ Same F H ∧ F p = none ∧ PuAt H p b ∧ b ≤ 900000 ∧ 0 < n ∧ n < 1267650600228229401496703205376 ∧
  ∀ (d : Int) (H' : Hp), 0 ≤ d → d < n → Gr (muP p) F H F H' → PuAt H' p (b + 2) → Q (.int d) H'
theorem ok_L_draw (t : Tx K mg) : FnOk P w K mg base CX0 2 t.a_L_draw t.fd_L_draw ["_law_purse_here", "_law_out_of"] sp_L_draw := by
  refine t.F_L_draw.ok sc_L_draw (fun vs H Q E h => ?_) (fun cdv A outer s H vs Q E hr h => ?_)
  · obtain ⟨F, p, n, b, rfl, _⟩ := h
    rfl
  · obtain ⟨F, p, n, b, rfl, sF, fp, ⟨a, cc, k, hp, k0, kb⟩, hb, n0, n1, q⟩ := h
    refine ⟨_, (pss_cons (ps_if (pt_cmpR op_gt (pe_ix ix_list (pv 0) pe_int (fun _ _ => rfl)) pe_int (nomark _)) (pss_cons (ps_set (i := 2) sc_L_draw.nd rfl (by first | exact Or.inl rfl | exact Or.inr rfl) (pe_op op_mod (pe_ix ix_list (pv 0) pe_int (fun _ _ => rfl)) (pv 1)))
      (pss_cons (ps_asg (pe_op op_fdivW (pe_ix ix_list (pv 0) pe_int (fun _ _ => rfl)) (pv 1)) (pg_sub (pv 0) pe_int set_list))
      (pss_one (ps_ret (pv 2))))) pss_nil)
      (pss_cons (ps_asg (pe_op op_add (pe_ix ix_list (pv 0) pe_int (fun _ _ => rfl)) pe_int) (pg_sub (pv 0) pe_int set_list))
      (pss_cons (ps_set (i := 3) sc_L_draw.nd rfl (by first | exact Or.inl rfl | exact Or.inr rfl) (pe_call (ok_L_mixed t) (hr.mono (by decide)) (by rfl) t.m_L_mixed t.F_L_mixed.kp t.b_L_mixed .nil pass0 (pa_cons (pe_ix ix_list (pv 0) pe_int (fun _ _ => rfl)) (pa_cons (pe_ix ix_list (pv 0) pe_int (fun _ _ => rfl)) pa_nil))))
      (pss_one (ps_ret (pe_op op_mod (pe_op op_fdiv (pe_op op_add (pe_op op_mul (pv 3) pe_int) (pe_call (ok_L_mixed t) (hr.mono (by decide)) (by rfl) t.m_L_mixed t.F_L_mixed.kp t.b_L_mixed .nil pass0 (pa_cons (pe_op op_add (pe_ix ix_list (pv 0) pe_int (fun _ _ => rfl)) (pv 3)) (pa_cons (pe_op op_add (pe_ix ix_list (pv 0) pe_int (fun _ _ => rfl)) pe_int) pa_nil)))) pe_int) (pv 1))))))), ?_⟩
    have gr : ∀ a c k : Int, Gr (muP p) F H F (upd H p (PurseC a c k)) := fun a c k => (Gr.refl sF).set fp (.inr rfl)
    refine ⟨_, rfl, p, _, _, _, rfl, rfl, SqL.of hp, atI_nat (j := 0) rfl, _, _, rfl, rfl, _, rfl, ?_⟩
    refine ite2 (fun c => ?_) (fun c => ?_)
    · refine ⟨_, rfl, p, _, _, _, rfl, rfl, SqL.of hp, atI_nat (j := 0) rfl, _, rfl, _, _, rfl, rfl, n0, ?_⟩
      refine ⟨_, rfl, p, _, _, _, rfl, rfl, SqL.of hp, atI_nat (j := 0) rfl, _, rfl, _, _, rfl, rfl, wide_div n0 (b := 100) (by have e : (2 : Nat) ^ 100 = 1267650600228229401496703205376 := rfl; rw [e]; omega) (by decide) (by decide), _, rfl, p, _, _, 0, rfl, rfl, hp, rfl, _, rfl, ?_⟩
      exact q _ _ (Int.emod_nonneg _ (by omega)) (Int.emod_lt_of_pos _ n0) (gr _ _ _) ⟨_, _, _, upd_same, k0, by omega⟩
    · refine ⟨_, rfl, p, _, _, _, rfl, rfl, SqL.of hp, atI_nat (j := 2) rfl, _, _, rfl, rfl, _, rfl, p, _, _, 2, rfl, rfl, hp, rfl, ?_⟩
      have h2 : (upd H p (.lst ([.int a, .int cc, .int k].set 2 (.int (k + 2))))) p = some (PurseC a cc (k + 2)) := upd_same
      refine ⟨_, rfl, p, _, _, _, rfl, rfl, SqL.of h2, atI_nat (j := 1) rfl, _, rfl, p, _, _, _, rfl, rfl, SqL.of h2, atI_nat (j := 2) rfl, _, _, rfl, by omega, by omega, fun m => ?_⟩
      refine ⟨_, rfl, _, _, rfl, rfl, .inr ⟨by decide, by decide⟩, ?_⟩
      refine ⟨_, rfl, p, _, _, _, rfl, rfl, SqL.of h2, atI_nat (j := 1) rfl, _, rfl, _, _, rfl, rfl, _, rfl, p, _, _, _, rfl, rfl, SqL.of h2, atI_nat (j := 2) rfl, _, _, rfl, rfl, _, _, rfl, by omega, by omega, fun m2 => ?_⟩
      refine ⟨_, _, rfl, rfl, _, _, rfl, rfl, ⟨by decide, by decide⟩, _, rfl, _, _, rfl, rfl, n0, ?_⟩
      exact q _ _ (Int.emod_nonneg _ (by omega)) (Int.emod_lt_of_pos _ n0) (gr _ _ _) ⟨_, _, _, upd_same, by omega, by omega⟩
def sp_L_whole : Sp := fun vs H Q _ => ∃ i : Int, vs = [.int i] ∧ Q (.bl true) H
theorem ok_L_whole (t : Tx K mg) : FnOk P w K mg base CX0 1 t.a_L_whole t.fd_L_whole ["_law_found"] sp_L_whole := by
  refine t.F_L_whole.ok sc_L_whole (fun vs H Q E h => ?_) (fun cdv A outer s H vs Q E hr h => ?_)
  · obtain ⟨i, rfl, _⟩ := h
    rfl
  · obtain ⟨i, rfl, q⟩ := h
    refine ⟨_, (pss_one (ps_ret (pe_and (pe_callB (id := "isinstance") call_isi (by rfl) t.n_isinstance (by decide +kernel) (pa_cons (pv 0) (pa_cons (pe_bltn (v := .ty "int") (by rfl) t.n_int (by decide +kernel) rfl) pa_nil))) (pe_one (pe_not (pe_callB (id := "isinstance") call_isi (by rfl) t.n_isinstance (by decide +kernel) (pa_cons (pv 0) (pa_cons (pe_bltn (v := .ty "bool") (by rfl) t.n_bool (by decide +kernel) rfl) pa_nil)))))))), ?_⟩
    exact ⟨_, rfl, _, _, _, _, true, rfl, .ty "int", .base (.int i), kt_int_int, _, rfl, ifT rfl ⟨_, rfl, _, _, _, _, false, rfl, .ty "bool", .base (.int i), kt_int_bool, _, rfl, q⟩⟩
/-! ### machines that are machines -/
structure EOk (R S : Nat) (e : Ent) : Prop where
  ok : ∀ p w r, e = .go p w r → (0 ≤ p ∧ p < S) ∧ (w = -1 ∨ w = 1) ∧ 0 ≤ r ∧ r < R
structure MOk (M : Mach) (R S : Nat) : Prop where
  r1 : 1 ≤ R
  r4 : R ≤ 4
  s2 : 2 ≤ S
  s4 : S ≤ 4
  len : M.length = R
  row : ∀ r ∈ M, r.length = S
  ent : ∀ r ∈ M, ∀ e ∈ r, EOk R S e
def sp_is_entry : Sp := fun vs H Q _ => ∃ (F : Hp) (v : V) (e : Ent) (R S : Nat), vs = [v, .int R, .int S] ∧ Same F H ∧ Is F v e ∧ EOk R S e ∧ ∀ H', Gr mu0 F H F H' → Q (.bl true) H'
theorem ok_is_entry (t : Tx K mg) : FnOk P w K mg base CX0 1 t.a_is_entry t.fd_is_entry ["entry", "rows", "signs"] sp_is_entry := by
  refine t.F_is_entry.ok sc_is_entry (fun vs H Q E h => ?_) (fun cdv A outer s H vs Q E hr h => ?_)
  · obtain ⟨F, v, e, R, S, rfl, _⟩ := h
    rfl
  · obtain ⟨F, v, e, R, S, rfl, sF, hv, he, q⟩ := h
    refine ⟨_, (pss_cons (ps_if (pt_cmpR (op_eqD hr.units) (pv 0) (pe_tup pa_nil) (nomark _)) (pss_one (ps_ret pe_bl)) pss_nil)
      (pss_one (ps_ret (pe_and (pe_cmpR op_eq (pe_callB (id := "len") call_lenQ (by rfl) t.n_len (by decide +kernel) (pa_cons (pv 0) pa_nil)) pe_int (nomark _)) (pe_and (pe_chain op_le op_lt pe_int (pe_ix ix_tup (pv 0) pe_int (fun _ _ => rfl)) (pv 2)) (pe_and (pe_cmpR op_in_seq (pe_ix ix_tup (pv 0) pe_int (fun _ _ => rfl)) (pe_lst (pa_cons (pe_un un_neg pe_int) (pa_cons pe_int pa_nil))) (by rfl)) (pe_one (pe_chain op_le op_lt pe_int (pe_ix ix_tup (pv 0) pe_int (fun _ _ => rfl)) (pv 1))))))))), ?_⟩
    have g0 : Gr mu0 F H F H := Gr.refl sF
    refine ⟨_, rfl, by show 0 ≤ sizeLine; decide, fun p np => ?_⟩
    have g1 : Gr mu0 F H F (upd H p (.tup [])) := g0.own np
    refine eq_dat (a := e) (b := Ent.emp) (hv.up g1.fh) ⟨p, rfl, upd_same⟩ ?_
    refine ⟨_, rfl, ?_⟩
    refine ite2 (fun c => ?_) (fun c => ?_)
    · exact q _ g1
    · cases e with
      | emp => exact absurd (decide_eq_true rfl) c
      | go pu wa ro =>
        obtain ⟨a, rfl, ha⟩ := hv
        obtain ⟨⟨o1, o2⟩, o3, o4, o5⟩ := he.ok _ _ _ rfl
        have h1 := g1.fh _ _ ha
        refine ⟨_, rfl, a, _, rfl, .inr (SqT.of h1), rfl, _, rfl, ifT rfl ?_⟩
        refine ⟨_, rfl, a, _, _, _, rfl, rfl, SqT.of h1, atI_nat (j := 0) rfl, _, _, rfl, rfl, _, rfl, ifT (decide_eq_true o1) ⟨_, rfl, _, _, rfl, rfl, _, rfl, ifT (decide_eq_true o2) ?_⟩⟩
        refine ⟨_, rfl, a, _, _, _, rfl, rfl, SqT.of h1, atI_nat (j := 1) rfl, _, rfl, two_le, fun l nl => ?_⟩
        have g2 := g1.own (o := .lst [.int (-1), .int 1]) nl
        have h2 := g2.fh _ _ ha
        refine ⟨l, _, rfl, .inl (SqL.of upd_same), rfl, rfl, _, rfl, ifT ?_ ?_⟩
        · rcases o3 with rfl | rfl <;> rfl
        · refine ⟨_, rfl, a, _, _, _, rfl, rfl, SqT.of h2, atI_nat (j := 2) rfl, _, _, rfl, rfl, _, rfl, ifT (decide_eq_true o4) ⟨_, rfl, _, _, rfl, rfl, ?_⟩⟩
          show Q (.bl (decide (ro < (R : Int)))) _
          rw [decide_eq_true o5]
          exact q _ g2
/-- all bools of a list of trues -/
theorem all_rep (n : Nat) : (List.replicate n true).all id = true := by simp
theorem map_rep (n : Nat) : (List.replicate n true).map V.bl = List.replicate n (V.bl true) := by simp
theorem rep_snoc (n : Nat) : List.replicate n (V.bl true) ++ [V.bl true] = List.replicate (n + 1) (V.bl true) := by
  rw [← List.replicate_succ']
def sp_is_machine : Sp := fun vs H Q _ => ∃ (F : Hp) (v : V) (M : Mach) (R S : Nat), vs = [v] ∧ Same F H ∧ Is F v M ∧ MOk M R S ∧ ∀ H', Gr mu0 F H F H' → Q (.bl true) H'
theorem ok_is_machine (t : Tx K mg) : FnOk P w K mg base CX0 2 t.a_is_machine t.fd_is_machine ["machine"] sp_is_machine := by
  refine t.F_is_machine.ok sc_is_machine (fun vs H Q E h => ?_) (fun cdv A outer s H vs Q E hr h => ?_)
  · obtain ⟨F, v, M, R, S, rfl, _⟩ := h
    rfl
  · obtain ⟨F, v, M, R, S, rfl, sF, hv, hM, q⟩ := h
    refine ⟨_, (pss_cons (ps_set (i := 1) sc_is_machine.nd rfl (by first | exact Or.inl rfl | exact Or.inr rfl) (pe_callB (id := "len") call_lenQ (by rfl) t.n_len (by decide +kernel) (pa_cons (pv 0) pa_nil)))
      (pss_cons (ps_if (pt_not (pt_chain op_le op_le pe_int (pv 1) (pe_glob (v := .int 4) (by rfl) t.m_MOST_ROWS ⟨_, rfl⟩))) (pss_one (ps_ret pe_bl)) pss_nil)
      (pss_cons (ps_set (i := 2) sc_is_machine.nd rfl (by first | exact Or.inl rfl | exact Or.inr rfl) (pe_callB (id := "len") call_lenQ (by rfl) t.n_len (by decide +kernel) (pa_cons (pe_ix ix_list (pv 0) pe_int (fun _ _ => rfl)) pa_nil)))
      (pss_cons (ps_if (PW.pt (pw_or (pt_not (pt_chain op_le op_le pe_int (pv 2) (pe_glob (v := .int 4) (by rfl) t.m_MOST_SIGNS ⟨_, rfl⟩))) (pw_or1 (pt_not (pt_val (pe_callB (id := "all") (cr_all rfl) (by rfl) t.n_all (by decide +kernel) (pa_cons (pe_lc (own := [("row", 3)]) (g := gName 3) (tt := tYes) rfl sc_is_machine.nd (pi_list (pv 0)) (blkOk_by (N := N_is_machine) (sc := defScope s_is_machine) (by decide +kernel)) (fun _ _ _ _ _ => (pg_name (i := 3) sc_is_machine.nd rfl (by first | exact Or.inl rfl | exact Or.inr rfl))) (fun _ _ _ _ _ => pts_nil) (fun _ _ _ _ _ => (pe_cmpR op_eq (pe_callB (id := "len") (crK (K := K) (r := rLenQ) rfl call_lenQ) (by rfl) t.n_len (by decide +kernel) (pa_cons (pv 3) pa_nil)) (pv 2) (nomark _)))) pa_nil))))))) (pss_one (ps_ret pe_bl)) pss_nil)
      (pss_one (ps_ret (pe_callB (id := "all") (cr_all rfl) (by rfl) t.n_all (by decide +kernel) (pa_cons (pe_lc (own := [("row", 3)]) (g := gName 3) (tt := tYes) rfl sc_is_machine.nd (pi_list (pv 0)) (blkOk_by (N := N_is_machine) (sc := defScope s_is_machine) (by decide +kernel)) (fun _ _ _ _ _ => (pg_name (i := 3) sc_is_machine.nd rfl (by first | exact Or.inl rfl | exact Or.inr rfl))) (fun _ _ _ _ _ => pts_nil) (fun _ _ _ _ _ => (pe_callB (id := "all") (crK (K := K) (r := rAll) rfl (cr_all rfl)) (by rfl) t.n_all (by decide +kernel) (pa_cons (pe_lc (own := [("entry", 4)]) (g := gName 4) (tt := tYes) rfl sc_is_machine.nd (pi_listK (K := K) rfl (pv 3)) (blkOk_by (N := N_is_machine) (sc := { kind := PySem.ScopeKind.function, names := [(PySem.Str.ofString ".0", PySem.NameKind.local), (PySem.Str.ofString "row", PySem.NameKind.local), (PySem.Str.ofString "all", PySem.NameKind.globalImplicit), (PySem.Str.ofString "rows", PySem.NameKind.cell), (PySem.Str.ofString "signs", PySem.NameKind.cell)], isGenerator := false, isCoroutine := false }) (by decide +kernel)) (fun _ _ _ _ _ => (pg_name (i := 4) sc_is_machine.nd rfl (by first | exact Or.inl rfl | exact Or.inr rfl))) (fun _ _ _ _ _ => pts_nil) (fun _ _ _ _ _ => (pe_call (ok_is_entry t) (hr.mono (by decide)) (by rfl) t.m_is_entry t.F_is_entry.kp t.b_is_entry .nil pass0 (pa_cons (pv 4) (pa_cons (pv 1) (pa_cons (pv 2) pa_nil)))))) pa_nil)))) pa_nil)))))))), ?_⟩
    have g0 : Gr mu0 F H F H := Gr.refl sF
    have r1 := hM.r1
    have r4 := hM.r4
    have s2 := hM.s2
    have s4 := hM.s4
    obtain ⟨a, rs, rfl, ha, hrs⟩ := hv
    have lrs : rs.length = R := hrs.1.trans hM.len
    have h0 := sF _ _ ha
    have l0 : 0 < rs.length := by omega
    have hx0 : rs[0]? = some rs[0] := List.getElem?_eq_getElem l0
    obtain ⟨row0, hM0, hr0⟩ := hrs.get' hx0
    obtain ⟨a0, es0, e0, ha0, hes0⟩ := hr0
    have ls0 : es0.length = S := hes0.1.trans (hM.row _ (List.mem_of_getElem? hM0))
    have hb0 := sF _ _ ha0
    -- rows = len(machine); signs = len(machine[0])
    refine ⟨_, rfl, a, rs, rfl, .inl (SqL.of h0), _, rfl, _, _, rfl, rfl, _, rfl, ifT (decide_eq_true (by omega)) ⟨_, _, rfl, rfl, _, rfl, ?_⟩⟩
    refine ifF (by rw [decide_eq_true (show (rs.length : Int) ≤ 4 by omega)]; rfl) ?_
    refine ⟨_, rfl, a, rs, _, _, rfl, rfl, SqL.of h0, atI_nat (j := 0) hx0, ?_⟩
    rw [e0]
    refine ⟨a0, es0, rfl, .inl (SqL.of hb0), _, rfl, _, _, rfl, rfl, _, rfl, ifT (decide_eq_true (by omega)) ⟨_, _, rfl, rfl, _, rfl, ?_⟩⟩
    refine ifF (by rw [decide_eq_true (show (es0.length : Int) ≤ 4 by omega)]; rfl) ?_
    -- all([len(row) == signs for row in machine])
    refine ⟨_, rfl, a, rfl, ⟨_, SqL.of h0⟩, fun D nD => lc_list (K := K) (a := a) (xs := rs) (fun i G => Gr mu0 F H F G ∧ G D = some (.lst (List.replicate i (V.bl true)))) ⟨g0.own nD, upd_same⟩ (fun i G _ p => SqL.of (p.1.fh _ _ ha)) ?_ ?_⟩
    · rintro i x G hi ⟨gG, hD⟩
      obtain ⟨row, hMi, b, es, rfl, hb, hes⟩ := hrs.get' hi
      have ls : es.length = S := hes.1.trans (hM.row _ (List.mem_of_getElem? hMi))
      have il : i < rs.length := (List.getElem?_eq_some_iff.mp hi).1
      refine ⟨rfl, ?_⟩
      refine yes ⟨_, rfl, b, es, rfl, .inl (SqL.of (gG.fh _ _ hb)), _, rfl, rfl, _, hD, by rw [List.length_replicate]; exact lt_size (by omega), ?_⟩
      have e : (V.bl (decide (V.int (es.length : Int) = V.int (es0.length : Int)))) = V.bl true := by rw [ls, ls0]; simp
      rw [e, rep_snoc]
      exact ⟨gG.set (ne_of_none' sF nD) (.inl nD), upd_same⟩
    · rintro G ⟨gG, hD⟩
      refine ⟨D, List.replicate rs.length true, rfl, SqL.of (by rw [map_rep]; exact hD), _, rfl, ifF (by rw [all_rep]; rfl) ?_⟩
      -- all([all([is_entry(entry, rows, signs) for entry in row]) for row in machine])
      refine ⟨_, rfl, a, rfl, ⟨_, SqL.of (gG.fh _ _ ha)⟩, fun D1 nD1 => lc_list (K := K) (a := a) (xs := rs) (fun i G1 => Gr mu0 F H F G1 ∧ H D1 = none ∧ G1 D1 = some (.lst (List.replicate i (V.bl true)))) ⟨gG.own nD1, gG.th _ nD1, upd_same⟩ (fun i G1 _ p => SqL.of (p.1.fh _ _ ha)) ?_ ?_⟩
      · rintro i x G1 hi ⟨gG1, nH, hD1⟩
        obtain ⟨row, hMi, b, es, rfl, hb, hes⟩ := hrs.get' hi
        have ls : es.length = S := hes.1.trans (hM.row _ (List.mem_of_getElem? hMi))
        have il : i < rs.length := (List.getElem?_eq_some_iff.mp hi).1
        refine ⟨rfl, yes ⟨_, rfl, b, rfl, ⟨_, SqL.of (gG1.fh _ _ hb)⟩, fun D2 nD2 => lc_list (K := K) (a := b) (xs := es) (fun j G2 => Gr mu0 F H F G2 ∧ H D2 = none ∧ D1 ≠ D2 ∧ G2 D1 = some (.lst (List.replicate i (V.bl true))) ∧ G2 D2 = some (.lst (List.replicate j (V.bl true))))
          ⟨gG1.own nD2, gG1.th _ nD2, ne_of_none hD1 nD2, by rw [upd_ne (ne_of_none hD1 nD2)]; exact hD1, upd_same⟩ (fun j G2 _ p => SqL.of (p.1.fh _ _ hb)) ?_ ?_⟩⟩
        · rintro j y G2 hj ⟨gG2, nH2, d12, h1, h2⟩
          obtain ⟨e, hej, hye⟩ := hes.get' hj
          have jl : j < es.length := (List.getElem?_eq_some_iff.mp hj).1
          refine ⟨rfl, yes ⟨_, rfl, _, rfl, _, rfl, F, y, e, R, S, ?_, gG2.fh, hye, hM.ent _ (List.mem_of_getElem? hMi) _ (List.mem_of_getElem? hej), fun G3 g3 => ?_⟩⟩
          · rw [lrs, ls0]
            rfl
          · have gH3 := gG2.trans g3
            refine ⟨_, g3.fr _ _ h2 (fun z => z), by rw [List.length_replicate]; exact lt_size (by omega), ?_⟩
            rw [rep_snoc]
            exact ⟨gH3.set (sF.free nH2) (.inl nH2), nH2, d12, by rw [upd_ne d12]; exact g3.fr _ _ h1 (fun z => z), upd_same⟩
        · rintro G2 ⟨gG2, nH2, d12, h1, h2⟩
          refine ⟨D2, List.replicate es.length true, rfl, SqL.of (by rw [map_rep]; exact h2), ?_⟩
          refine ⟨_, h1, by rw [List.length_replicate]; exact lt_size (by omega), ?_⟩
          rw [all_rep, rep_snoc]
          exact ⟨gG2.set (sF.free nH) (.inl nH), nH, upd_same⟩
      · rintro G1 ⟨gG1, nH, hD1⟩
        refine ⟨D1, List.replicate rs.length true, rfl, SqL.of (by rw [map_rep]; exact hD1), ?_⟩
        rw [all_rep]
        exact q _ gG1
def sp_must_machine : Sp := fun vs H Q _ => ∃ (F : Hp) (v : V) (M : Mach) (R S : Nat), vs = [v] ∧ Same F H ∧ Is F v M ∧ MOk M R S ∧ ∀ H', Gr mu0 F H F H' → Q .non H'
theorem ok_must_machine (t : Tx K mg) : FnOk P w K mg base CX0 3 t.a_must_machine t.fd_must_machine ["machine"] sp_must_machine := by
  refine t.F_must_machine.ok sc_must_machine (fun vs H Q E h => ?_) (fun cdv A outer s H vs Q E hr h => ?_)
  · obtain ⟨F, v, M, R, S, rfl, _⟩ := h
    rfl
  · obtain ⟨F, v, M, R, S, rfl, sF, hv, hM, q⟩ := h
    refine ⟨_, (pss_one (ps_if (pt_not (pt_val (pe_call (ok_is_machine t) (hr.mono (by decide)) (by rfl) t.m_is_machine t.F_is_machine.kp t.b_is_machine .nil pass0 (pa_cons (pv 0) pa_nil)))) (pss_one ps_never) pss_nil)), ?_⟩
    exact ⟨_, rfl, F, _, M, R, S, rfl, sF, hv, hM, fun H' g => ⟨_, rfl, ifF rfl (q _ g)⟩⟩
/-! ### machines, runs drawn -/
theorem at2 {a b : V} {c : Bool} : atI [a, b] (if c then 1 else 0) = some (if c then b else a) := by cases c <;> rfl
def sp_L_entry : Sp := fun vs H Q _ => ∃ (F : Hp) (p : Addr) (R S few b row : Int), vs = [.ref p, .int R, .int S, .int row, .int few] ∧ Same F H ∧ F p = none ∧ PuAt H p b ∧ b ≤ 800000 ∧ 0 < R ∧ R ≤ 4 ∧ 0 < S ∧ S ≤ 4 ∧ 0 ≤ row ∧ row < R ∧ 0 < few ∧ few ≤ 100 ∧
  ∀ (F' H' : Hp) (v : V) (e : Ent), Gr (muP p) F H F' H' → PuAt H' p (b + 10) → Is F' v e → (∀ p w r, e = .go p w r → (0 ≤ p ∧ p < S) ∧ (w = -1 ∨ w = 1) ∧ 0 ≤ r ∧ r < R) → Q v H'
theorem ok_L_entry (t : Tx K mg) : FnOk P w K mg base CX0 3 t.a_L_entry t.fd_L_entry ["_law_purse_here", "_law_rows", "_law_signs", "_law_row", "_law_few"] sp_L_entry := by
  refine t.F_L_entry.ok sc_L_entry (fun vs H Q E h => ?_) (fun cdv A outer s H vs Q E hr h => ?_)
  · obtain ⟨F, p, R, S, few, b, row, rfl, _⟩ := h
    rfl
  · obtain ⟨F, p, R, S, few, b, row, rfl, sF, fp, hp, hb, R0, R4, S0, S4, r0, r1, f0, f1, q⟩ := h
    refine ⟨_, (pss_cons (ps_set (i := 5) sc_L_entry.nd rfl (by first | exact Or.inl rfl | exact Or.inr rfl) (pe_call (ok_L_draw t) (hr.mono (by decide)) (by rfl) t.m_L_draw t.F_L_draw.kp t.b_L_draw .nil pass0 (pa_cons (pv 0) (pa_cons (pv 2) pa_nil))))
      (pss_cons (ps_set (i := 6) sc_L_entry.nd rfl (by first | exact Or.inl rfl | exact Or.inr rfl) (pe_op op_sub (pe_op op_mul pe_int (pe_call (ok_L_draw t) (hr.mono (by decide)) (by rfl) t.m_L_draw t.F_L_draw.kp t.b_L_draw .nil pass0 (pa_cons (pv 0) (pa_cons pe_int pa_nil)))) pe_int))
      (pss_cons (ps_set (i := 7) sc_L_entry.nd rfl (by first | exact Or.inl rfl | exact Or.inr rfl) (pe_ix ix_list (pe_lst (pa_cons (pe_call (ok_L_draw t) (hr.mono (by decide)) (by rfl) t.m_L_draw t.F_L_draw.kp t.b_L_draw .nil pass0 (pa_cons (pv 0) (pa_cons (pv 1) pa_nil))) (pa_cons (pv 3) pa_nil))) (pe_callTy (T := "int") call_int1 (by rfl) t.n_int (by decide +kernel) (pa_cons (pe_cmpR op_eq (pe_call (ok_L_draw t) (hr.mono (by decide)) (by rfl) t.m_L_draw t.F_L_draw.kp t.b_L_draw .nil pass0 (pa_cons (pv 0) (pa_cons pe_int pa_nil))) pe_int (nomark _)) pa_nil)) (fun _ _ => rfl)))
      (pss_one (ps_ret (pe_ix ix_list (pe_lst (pa_cons (pe_tup (pa_cons (pv 5) (pa_cons (pv 6) (pa_cons (pv 7) pa_nil)))) (pa_cons (pe_tup pa_nil) pa_nil))) (pe_callTy (T := "int") call_int1 (by rfl) t.n_int (by decide +kernel) (pa_cons (pe_cmpR op_eq (pe_call (ok_L_draw t) (hr.mono (by decide)) (by rfl) t.m_L_draw t.F_L_draw.kp t.b_L_draw .nil pass0 (pa_cons (pv 0) (pa_cons (pv 4) pa_nil))) pe_int (nomark _)) pa_nil)) (fun _ _ => rfl))))))), ?_⟩
    refine ⟨_, rfl, _, rfl, F, p, S, b, rfl, sF, fp, hp, by omega, S0, by omega, fun d1 H1 d10 d11 g1 hp1 => ?_⟩
    refine ⟨_, rfl, F, p, 2, _, rfl, g1.fh, fp, hp1, by omega, by decide, by decide, fun d2 H2 d20 d21 g2 hp2 => ⟨_, _, rfl, rfl, .inl ⟨by decide, by decide⟩, _, _, rfl, rfl, ?_⟩⟩
    refine ⟨_, rfl, _, rfl, F, p, R, _, rfl, g2.fh, fp, hp2, by omega, R0, by omega, fun d3 H3 d30 d31 g3 hp3 => ⟨_, rfl, two_le, fun l nl => ?_⟩⟩
    have g4 := ((g1.trans g2).trans g3).own (o := .lst [.int d3, .int row]) nl
    have hl : (upd H3 l (.lst [.int d3, .int row])) l = some (.lst [.int d3, .int row]) := upd_same
    have hp4 := hp3.ln (o := .lst [.int d3, .int row]) nl
    have pl := hp3.ne nl
    generalize upd H3 l (.lst [.int d3, .int row]) = H4 at g4 hl hp4
    refine ⟨_, rfl, F, p, 3, _, rfl, g4.fh, fp, hp4, by omega, by decide, by decide, fun d4 H5 d40 d41 g5 hp5 => ⟨rfl, .inr ⟨_, rfl, ?_⟩⟩⟩
    have hl5 := g5.fr _ _ hl (Ne.symm pl)
    refine ⟨l, _, _, _, rfl, rfl, SqL.of hl5, at2, ?_⟩
    have et : ∃ r : Int, (if decide (V.int d4 = V.int 1) = true then V.int row else V.int d3) = V.int r ∧ 0 ≤ r ∧ r < R := by
      split
      · exact ⟨_, rfl, r0, r1⟩
      · exact ⟨_, rfl, d30, d31⟩
    obtain ⟨r, er, r0', r1'⟩ := et
    rw [er]
    have g6 := g4.trans g5
    refine ⟨_, rfl, _, rfl, _, rfl, three_le, fun q0 n0 => ⟨nil_le, fun q1 n1 => ⟨two_le, fun l2 nl2 => ?_⟩⟩⟩
    have g7 := (g6.new (o := .tup [.int d1, .int (2 * d2 - 1), .int r]) n0).new (o := .tup []) n1
    have hp7 := (hp5.ln (o := .tup [.int d1, .int (2 * d2 - 1), .int r]) n0).ln (o := .tup []) n1
    have i0 : Is (upd (upd F q0 (.tup [.int d1, .int (2 * d2 - 1), .int r])) q1 (.tup [])) (.ref q0) (Ent.go d1 (2 * d2 - 1) r) := ⟨q0, rfl, by rw [upd_ne (ne_of_none upd_same n1)]; exact upd_same⟩
    have i1 : Is (upd (upd F q0 (.tup [.int d1, .int (2 * d2 - 1), .int r])) q1 (.tup [])) (.ref q1) Ent.emp := ⟨q1, rfl, upd_same⟩
    have fp7 := hp.f fp g7
    generalize upd (upd F q0 (.tup [.int d1, .int (2 * d2 - 1), .int r])) q1 (.tup []) = F7 at g7 i0 i1 fp7
    generalize upd (upd H5 q0 (.tup [.int d1, .int (2 * d2 - 1), .int r])) q1 (.tup []) = H7 at g7 hp7 nl2
    have g8 := g7.own (o := .lst [.ref q0, .ref q1]) nl2
    have hl8 : (upd H7 l2 (.lst [.ref q0, .ref q1])) l2 = some (.lst [.ref q0, .ref q1]) := upd_same
    have hp8 := hp7.ln (o := .lst [.ref q0, .ref q1]) nl2
    have pl2 := hp7.ne nl2
    generalize upd H7 l2 (.lst [.ref q0, .ref q1]) = H8 at g8 hl8 hp8
    refine ⟨_, rfl, _, rfl, F7, p, few, _, rfl, g8.fh, fp7, hp8, by omega, f0, by omega, fun d5 H9 d50 d51 g9 hp9 => ⟨rfl, .inr ⟨_, rfl, ?_⟩⟩⟩
    refine ⟨l2, _, _, _, rfl, rfl, SqL.of (g9.fr _ _ hl8 (Ne.symm pl2)), at2, ?_⟩
    by_cases c : decide (V.int d5 = V.int 1) = true
    · rw [if_pos c]
      exact q F7 H9 _ Ent.emp (g8.trans g9) (hp9.le (by omega)) i1 (fun p w r z => nomatch z)
    · rw [if_neg c]
      refine q F7 H9 _ _ (g8.trans g9) (hp9.le (by omega)) i0 fun p w r' z => ?_
      cases z
      exact ⟨⟨d10, d11⟩, by omega, r0', r1'⟩
theorem Ow.frz' {H F H1 : Hp} {q r : Addr} {o u : HO} (w : Ow H F H1 q o) (e : q ≠ r) : Ow H (upd F r u) H1 q o := ⟨w.n, by rw [upd_ne e]; exact w.f, w.h⟩
theorem Ow.neq {H F H1 : Hp} {q r : Addr} {o : HO} (w : Ow H F H1 q o) {u : HO} (h : H r = some u) : q ≠ r := fun e => by rw [← e, w.n] at h; cases h
def sp_L_machine : Sp := fun vs H Q _ => ∃ (F : Hp) (p : Addr) (b : Int), vs = [.ref p] ∧ Same F H ∧ F p = none ∧ PuAt H p b ∧ b ≤ 700000 ∧
  ∀ (F' H' : Hp) (v : V) (M : Mach) (R S : Nat), Gr (muP p) F H F' H' → PuAt H' p (b + 1000) → MOk M R S → Is F' v M → Q v H'
theorem ok_L_machine (t : Tx K mg) : FnOk P w K mg base CX0 4 t.a_L_machine t.fd_L_machine ["_law_purse_here"] sp_L_machine := by
  refine t.F_L_machine.ok sc_L_machine (fun vs H Q E h => ?_) (fun cdv A outer s H vs Q E hr h => ?_)
  · obtain ⟨F, p, b, rfl, _⟩ := h
    rfl
  · obtain ⟨F, p, b, rfl, sF, fp, hp, hb, q⟩ := h
    refine ⟨_, (pss_cons (ps_set (i := 1) sc_L_machine.nd rfl (by first | exact Or.inl rfl | exact Or.inr rfl) (pe_op op_add pe_int (pe_call (ok_L_draw t) (hr.mono (by decide)) (by rfl) t.m_L_draw t.F_L_draw.kp t.b_L_draw .nil pass0 (pa_cons (pv 0) (pa_cons pe_int pa_nil)))))
      (pss_cons (ps_set (i := 2) sc_L_machine.nd rfl (by first | exact Or.inl rfl | exact Or.inr rfl) (pe_op op_add pe_int (pe_call (ok_L_draw t) (hr.mono (by decide)) (by rfl) t.m_L_draw t.F_L_draw.kp t.b_L_draw .nil pass0 (pa_cons (pv 0) (pa_cons pe_int pa_nil)))))
      (pss_cons (ps_set (i := 3) sc_L_machine.nd rfl (by first | exact Or.inl rfl | exact Or.inr rfl) (pe_ix ix_list (pe_lst (pa_cons pe_int (pa_cons pe_int (pa_cons pe_int (pa_cons pe_int pa_nil))))) (pe_call (ok_L_draw t) (hr.mono (by decide)) (by rfl) t.m_L_draw t.F_L_draw.kp t.b_L_draw .nil pass0 (pa_cons (pv 0) (pa_cons pe_int pa_nil))) (fun _ _ => rfl)))
      (pss_one (ps_ret (pe_lc (own := [("_law_row", 5)]) (g := gName 5) (tt := tYes) rfl sc_L_machine.nd (pi_range1 (by rfl) t.n_range (pa_cons (pv 1) pa_nil)) (blkOk_by (N := N_L_machine) (sc := defScope s_L_machine) (by decide +kernel)) (fun _ _ _ _ _ => (pg_name (i := 5) sc_L_machine.nd rfl (by first | exact Or.inl rfl | exact Or.inr rfl))) (fun _ _ _ _ _ => pts_nil) (fun _ _ _ _ _ => (pe_lc (own := [("_law_sign", 4)]) (g := gName 4) (tt := tYes) rfl sc_L_machine.nd (pi_range1 (by rfl) t.n_range (pa_cons (pv 2) pa_nil)) (blkOk_by (N := N_L_machine) (sc := { kind := PySem.ScopeKind.function, names := [(PySem.Str.ofString ".0", PySem.NameKind.local), (PySem.Str.ofString "_law_row", PySem.NameKind.cell), (PySem.Str.ofString "range", PySem.NameKind.globalImplicit), (PySem.Str.ofString "_law_few", PySem.NameKind.cell), (PySem.Str.ofString "_law_purse_here", PySem.NameKind.cell), (PySem.Str.ofString "_law_rows", PySem.NameKind.cell), (PySem.Str.ofString "_law_signs", PySem.NameKind.cell)], isGenerator := false, isCoroutine := false }) (by decide +kernel)) (fun _ _ _ _ _ => (pg_name (i := 4) sc_L_machine.nd rfl (by first | exact Or.inl rfl | exact Or.inr rfl))) (fun _ _ _ _ _ => pts_nil) (fun _ _ _ _ _ => (pe_call (ok_L_entry t) (hr.mono (by decide)) (by rfl) t.m_L_entry t.F_L_entry.kp t.b_L_entry .nil pass0 (pa_cons (pv 0) (pa_cons (pv 1) (pa_cons (pv 2) (pa_cons (pv 5) (pa_cons (pv 3) pa_nil))))))))))))))), ?_⟩
    obtain ⟨po, hpo⟩ := hp.ex
    refine ⟨_, rfl, F, p, 4, b, rfl, sF, fp, hp, by omega, by decide, by decide, fun d1 H1 d10 d11 g1 hp1 => ⟨_, _, rfl, rfl, ?_⟩⟩
    refine ⟨_, rfl, F, p, 3, _, rfl, g1.fh, fp, hp1, by omega, by decide, by decide, fun d2 H2 d20 d21 g2 hp2 => ⟨_, _, rfl, rfl, ?_⟩⟩
    refine ⟨by show 4 ≤ sizeLine; decide, fun l nl => ?_⟩
    have g3 := (g1.trans g2).own (o := .lst [.int 4, .int 9, .int 20, .int 60]) nl
    have hl : (upd H2 l (.lst [.int 4, .int 9, .int 20, .int 60])) l = some (.lst [.int 4, .int 9, .int 20, .int 60]) := upd_same
    have hp3 := hp2.ln (o := .lst [.int 4, .int 9, .int 20, .int 60]) nl
    have pl := hp2.ne nl
    generalize upd H2 l (.lst [.int 4, .int 9, .int 20, .int 60]) = H3 at g3 hl hp3
    refine ⟨_, rfl, F, p, 4, _, rfl, g3.fh, fp, hp3, by omega, by decide, by decide, fun d3 H4 d30 d31 g4 hp4 => ?_⟩
    have ef : ∃ f : Int, atI [V.int 4, V.int 9, V.int 20, V.int 60] d3 = some (.int f) ∧ 0 < f ∧ f ≤ 100 := by
      rcases (by omega : d3 = 0 ∨ d3 = 1 ∨ d3 = 2 ∨ d3 = 3) with rfl | rfl | rfl | rfl <;> exact ⟨_, rfl, by decide, by decide⟩
    obtain ⟨few, ef, f0, f1⟩ := ef
    refine ⟨l, _, _, _, rfl, rfl, SqL.of (g4.fr _ _ hl (Ne.symm pl)), ef, ?_⟩
    have g5 := g3.trans g4
    have eR : ((1 + d1).toNat : Int) = 1 + d1 := Int.toNat_of_nonneg (by omega)
    have eS : ((2 + d2).toNat : Int) = 2 + d2 := Int.toNat_of_nonneg (by omega)
    generalize hR : (1 + d1).toNat = R at eR
    generalize hS : (2 + d2).toNat = S at eS
    dsimp only
    rw [← eR, ← eS]
    refine ⟨_, rfl, (R : Int), rfl, by omega, by omega, fun D nD => ?_⟩
    have pD := hp4.ne nD
    refine lc_range (lo := 0) (n := ((R : Int)).toNat) (fun i G => ∃ (F1 : Hp) (rs : List V) (M : Mach) (b1 : Int), Gr (muP p) F H F1 G ∧ PuAt G p b1 ∧ b1 ≤ b + 8 + 40 * i ∧ Ow H F1 G D (.lst rs) ∧ IsAll F1 rs M ∧ M.length = i ∧ ∀ row ∈ M, row.length = S ∧ ∀ e ∈ row, EOk R S e)
      ⟨F, [], [], _, g5.own nD, hp4.ln nD, by omega, Ow.mk1 g5 nD, All2.nil, rfl, fun row z => nomatch z⟩ ?_ ?_
    · rintro i G hi ⟨F1, rs, M, b1, g, hpG, hb1, w, al, lM, hM⟩
      have iR : i < R := by omega
      refine ⟨rfl, yes ⟨_, rfl, (S : Int), rfl, by omega, by omega, fun r nr => ?_⟩⟩
      have pr := hpG.ne nr
      have Dr : D ≠ r := w.ne nr
      refine lc_range (lo := 0) (n := ((S : Int)).toNat) (fun j G => ∃ (F2 : Hp) (es : List V) (row : List Ent) (b2 : Int), Gr (muP p) F H F2 G ∧ PuAt G p b2 ∧ b2 ≤ b1 + 10 * j ∧ Ow H F2 G D (.lst rs) ∧ Ow H F2 G r (.lst es) ∧ IsAll F2 rs M ∧ IsAll F2 es row ∧ row.length = j ∧ ∀ e ∈ row, EOk R S e)
        ⟨F1, [], [], b1, g.own nr, hpG.ln nr, by omega, w.own nr, Ow.mk1 g nr, al, All2.nil, rfl, fun e z => nomatch z⟩ ?_ ?_
      · rintro j G hj ⟨F2, es, row, b2, g, hpG, hb2, w, wr, al, ae, lr, hrow⟩
        have jS : j < S := by omega
        refine ⟨rfl, yes ⟨_, rfl, _, rfl, _, rfl, _, rfl, _, rfl, F2, p, (R : Int), (S : Int), few, b2, (0 + i : Int), rfl, g.fh, hp.f fp g, hpG, by omega, by omega, by omega, by omega, by omega, by omega, by omega, f0, f1, fun F3 G3 v e g3 hp3 ie eo => ?_⟩⟩
        have w3 := w.call g3 (Ne.symm pD)
        have wr3 := wr.call g3 (Ne.symm pr)
        refine ⟨es, wr3.h, by rw [ae.1, lr]; exact lt_size (by omega), F3, es ++ [v], row ++ [e], _, (g.trans g3).set wr3.f (.inl wr3.n), hp3.off pr, by omega, w3.other Dr, wr3.set, al.up g3.ff, (ae.up g3.ff).app (All2.one ie), by rw [List.length_append, lr]; rfl, fun e' z => ?_⟩
        rcases List.mem_append.mp z with z | z
        · exact hrow e' z
        · rw [List.mem_singleton.mp z]; exact ⟨eo⟩
      · rintro G ⟨F2, es, row, b2, g, hpG, hb2, w, wr, al, ae, lr, hrow⟩
        have lr : row.length = S := by rw [lr]; exact Int.toNat_natCast S
        have g2 := g.frz wr.h wr.n wr.f
        have s2 : Same F2 (upd F2 r (.lst es)) := sm_new (Same.refl F2) wr.f
        have w2 := w.frz' (u := .lst es) Dr
        refine ⟨rs, w2.h, by rw [al.1, lM]; exact lt_size (by omega), upd F2 r (.lst es), rs ++ [.ref r], M ++ [row], b2, g2.set w2.f (.inl w2.n), hpG.off pD, by omega, w2.set, (al.up s2).app (All2.one ⟨r, es, rfl, upd_same, ae.up s2⟩), by rw [List.length_append, lM]; rfl, fun row' z => ?_⟩
        rcases List.mem_append.mp z with z | z
        · exact hM row' z
        · rw [List.mem_singleton.mp z]; exact ⟨lr, hrow⟩
    · rintro G ⟨F1, rs, M, b1, g, hpG, hb1, w, al, lM, hM⟩
      have lM : M.length = R := by rw [lM]; exact Int.toNat_natCast R
      have hb1 : b1 ≤ b + 8 + 40 * R := by rw [show ((R : Int).toNat : Int) = R from by rw [Int.toNat_natCast]] at hb1; exact hb1
      refine q (upd F1 D (.lst rs)) G _ M R S (g.frz w.h w.n w.f) (hpG.le (by omega)) ⟨by omega, by omega, by omega, by omega, lM, fun r z => (hM r z).1, fun r z => (hM r z).2⟩ ⟨D, rs, rfl, upd_same, al.up (sm_new (Same.refl F1) w.f)⟩
abbrev Rs := T3 (List PI) Int (List PI)
def OkS (S : Nat) (l : List PI) : Prop := ∀ q ∈ l, (0 ≤ q.a ∧ q.a < S) ∧ 1 ≤ q.b
theorem OkS.nil {S : Nat} : OkS S [] := fun q z => nomatch z
theorem OkS.rev {S : Nat} {l : List PI} (h : OkS S l) : OkS S l.reverse := fun q z => h q (List.mem_reverse.mp z)
theorem All2.rev {α β : Type} {r : α → β → Prop} : ∀ {xs : List α} {ys : List β}, All2 r xs ys → All2 r xs.reverse ys.reverse
  | [], [], _ => All2.nil
  | [], y :: ys, h => by have := h.1; simp at this
  | x :: xs, [], h => by have := h.1; simp at this
  | x :: xs, y :: ys, h => by
    rw [List.reverse_cons, List.reverse_cons]
    exact (All2.rev (xs := xs) (ys := ys) ⟨by have := h.1; simpa using this, fun i a b p q => h.2 (i + 1) a b (by simpa using p) (by simpa using q)⟩).app (All2.one (h.2 0 x y rfl rfl))
def OkR (S : Nat) (x : Rs) : Prop := (OkS S x.a ∧ x.a.length ≤ 900) ∧ (0 ≤ x.b ∧ x.b < S) ∧ OkS S x.c ∧ x.c.length ≤ 900
/-! ### words -/
/-- a text that may stand in a datum -/
structure TStr where
  x : Str
  ok : PyData.strOk x = true
  deriving DecidableEq
instance : Dat TStr where
  rep := fun _ v d => v = .str d.x
  mono := fun _ h => h
  py := fun d => .str d.x
  dp := fun h => h ▸ .str _
  can := fun d => d.ok
  dep := 0
  depth := fun _ => Nat.le_refl _
  eqv := fun a b => by
    obtain ⟨a, _⟩ := a; obtain ⟨b, _⟩ := b
    simp [PyData.eqv]
/-! ### an entry -/
def entAt (M : Mach) (r s : Int) : Ent := (((M[r.toNat]?).getD [])[s.toNat]?).getD .emp
theorem ent_of {M : Mach} {R S : Nat} (h : MOk M R S) {r s : Int} (r0 : 0 ≤ r) (r1 : r < R) (s0 : 0 ≤ s) (s1 : s < S) : ∃ row, M[r.toNat]? = some row ∧ row[s.toNat]? = some (entAt M r s) ∧ EOk R S (entAt M r s) := by
  have hr : r.toNat < M.length := by rw [h.len]; omega
  have e1 : M[r.toNat]? = some M[r.toNat] := List.getElem?_eq_getElem hr
  have hs : s.toNat < (M[r.toNat]).length := by rw [h.row _ (List.getElem_mem hr)]; omega
  have e2 : (M[r.toNat])[s.toNat]? = some (M[r.toNat])[s.toNat] := List.getElem?_eq_getElem hs
  have e3 : entAt M r s = (M[r.toNat])[s.toNat] := by
    unfold entAt
    rw [e1]
    show ((M[r.toNat])[s.toNat]?).getD Ent.emp = _
    rw [e2]; rfl
  exact ⟨_, e1, by rw [e3]; exact e2, by rw [e3]; exact h.ent _ (List.getElem_mem hr) _ (List.getElem_mem hs)⟩
def tEnd : TStr := ⟨"end", by decide +kernel⟩
/-! ### out of a block -/
def tOut : TStr := ⟨"out", by decide +kernel⟩
def tStay : TStr := ⟨"stay", by decide +kernel⟩
/-! ### blocks, gone through (plain) -/
structure Bs where
  s : List Int
  p : Int
  r : Int
  deriving DecidableEq
inductive Bn where
  | nxt (b : Bs)
  | lv (w : TStr) (s : List Int) (r x d : Int)
def sgB (b : Bs) : Int := (b.s[b.p.toNat]?).getD 0
def bn (M : Mach) (b : Bs) : Bn := match entAt M b.r (sgB b) with
  | .emp => .lv tEnd b.s b.r b.p 0
  | .go pu wa to => if 0 ≤ b.p + wa ∧ b.p + wa < (b.s.length : Int) then .nxt ⟨b.s.set b.p.toNat pu, b.p + wa, to⟩ else .lv tOut (b.s.set b.p.toNat pu) to wa 1
theorem bn_emp {M : Mach} {b : Bs} (e : entAt M b.r (sgB b) = .emp) : bn M b = .lv tEnd b.s b.r b.p 0 := by
  unfold bn; rw [e]
theorem bn_go {M : Mach} {b : Bs} {pu wa to : Int} (e : entAt M b.r (sgB b) = .go pu wa to) (h : 0 ≤ b.p + wa ∧ b.p + wa < (b.s.length : Int)) : bn M b = .nxt ⟨b.s.set b.p.toNat pu, b.p + wa, to⟩ := by
  unfold bn; rw [e]; exact if_pos h
theorem bn_out {M : Mach} {b : Bs} {pu wa to : Int} (e : entAt M b.r (sgB b) = .go pu wa to) (h : ¬ (0 ≤ b.p + wa ∧ b.p + wa < (b.s.length : Int))) : bn M b = .lv tOut (b.s.set b.p.toNat pu) to wa 1 := by
  unfold bn; rw [e]; exact if_neg h
def tj (M : Mach) : Nat → Bs → Option Bs
  | 0, b => some b
  | n + 1, b => match bn M b with
    | .nxt c => tj M n c
    | .lv .. => none
inductive ThR where
  | stay
  | fin (w : TStr) (s : List Int) (r x n : Int)
  deriving DecidableEq
def bgo (M : Mach) : Nat → Bs → Int → ThR
  | 0, _, _ => .stay
  | n + 1, b, k => match bn M b with
    | .nxt c => bgo M n c (k + 1)
    | .lv w s r x d => .fin w s r x (k + d)
section
variable {M : Mach} {b c : Bs}
theorem tj_nxt {n : Nat} (e : bn M b = .nxt c) : tj M (n + 1) b = tj M n c := by
  show (match bn M b with | .nxt c => tj M n c | .lv .. => none) = _
  rw [e]
theorem tj_lv {n : Nat} {w s r x d} (e : bn M b = .lv w s r x d) : tj M (n + 1) b = none := by
  show (match bn M b with | .nxt c => tj M n c | .lv .. => none) = _
  rw [e]
theorem bgo_nxt {n : Nat} {k : Int} (e : bn M b = .nxt c) : bgo M (n + 1) b k = bgo M n c (k + 1) := by
  show (match bn M b with | .nxt c => bgo M n c (k + 1) | .lv w s r x d => .fin w s r x (k + d)) = _
  rw [e]
theorem bgo_lv {n : Nat} {k : Int} {w s r x d} (e : bn M b = .lv w s r x d) : bgo M (n + 1) b k = .fin w s r x (k + d) := by
  show (match bn M b with | .nxt c => bgo M n c (k + 1) | .lv w s r x d => .fin w s r x (k + d)) = _
  rw [e]
theorem tj_add (M : Mach) : ∀ (m n : Nat) (b : Bs), tj M (m + n) b = (tj M m b).bind (tj M n)
  | 0, n, b => by rw [Nat.zero_add]; rfl
  | m + 1, n, b => by
    rw [show m + 1 + n = (m + n) + 1 by omega]
    cases e : bn M b with
    | nxt c => rw [tj_nxt e, tj_nxt e]; exact tj_add M m n c
    | lv w s r x d => rw [tj_lv e, tj_lv e]; rfl
theorem tj_at {m n : Nat} {c : Bs} (h : tj M m b = some c) : tj M (m + n) b = tj M n c := by
  rw [tj_add, h]; rfl
theorem tj_le {m n : Nat} (l : m ≤ n) (h : tj M n b ≠ none) : tj M m b ≠ none := fun z => by
  obtain ⟨k, rfl⟩ := Nat.le.dest l
  rw [tj_add, z] at h
  exact h rfl
/-- it leaves behind i steps, from c -/
theorem bgo_of : ∀ (i n : Nat) (b : Bs) (k : Int) (c : Bs) (w : TStr) (s : List Int) (r x d : Int), tj M i b = some c → bn M c = .lv w s r x d → i < n → bgo M n b k = .fin w s r x (k + i + d)
  | 0, n + 1, b, k, c, w, s, r, x, d, h, e, _ => by
    cases h
    rw [bgo_lv e]; congr 1; omega
  | i + 1, n + 1, b, k, c, w, s, r, x, d, h, e, l => by
    cases eb : bn M b with
    | nxt b' =>
      rw [tj_nxt eb] at h
      rw [bgo_nxt eb, bgo_of i n b' (k + 1) c w s r x d h e (by omega)]
      congr 1; omega
    | lv w s r x d => rw [tj_lv eb] at h; cases h
theorem bgo_fin : ∀ (n : Nat) (b : Bs) (k : Int) (w : TStr) (s : List Int) (r x m : Int), bgo M n b k = .fin w s r x m → ∃ (i : Nat) (c : Bs) (d : Int), i < n ∧ tj M i b = some c ∧ bn M c = .lv w s r x d ∧ m = k + i + d
  | 0, b, k, w, s, r, x, m, h => by cases h
  | n + 1, b, k, w, s, r, x, m, h => by
    cases eb : bn M b with
    | nxt b' =>
      rw [bgo_nxt eb] at h
      obtain ⟨i, c, d, l, h1, h2, h3⟩ := bgo_fin n b' (k + 1) w s r x m h
      exact ⟨i + 1, c, d, by omega, by rw [tj_nxt eb]; exact h1, h2, by rw [h3]; omega⟩
    | lv w' s' r' x' d' =>
      rw [bgo_lv eb] at h
      cases h
      exact ⟨0, b, d', by omega, rfl, eb, by omega⟩
theorem bgo_stay : ∀ (n : Nat) (b : Bs) (k : Int), bgo M n b k = .stay → tj M n b ≠ none
  | 0, b, k, _ => fun z => nomatch z
  | n + 1, b, k, h => by
    cases eb : bn M b with
    | nxt b' =>
      rw [bgo_nxt eb] at h
      rw [tj_nxt eb]
      exact bgo_stay n b' _ h
    | lv w' s' r' x' d' => rw [bgo_lv eb] at h; cases h
/-- it never leaves -/
def NV (M : Mach) (b : Bs) : Prop := ∀ n, tj M n b ≠ none
theorem NV.fin {w s r x m} (h : NV M b) (n : Nat) (k : Int) : bgo M n b k ≠ .fin w s r x m := fun z => by
  obtain ⟨i, c, d, _, h1, h2, _⟩ := bgo_fin n b k w s r x m z
  refine h (i + 1) ?_
  rw [tj_at h1, tj_lv h2]
theorem NV.stay (h : NV M b) (n : Nat) (k : Int) : bgo M n b k = .stay := by
  cases e : bgo M n b k with
  | stay => rfl
  | fin w s r x m => exact absurd e (h.fin n k)
theorem NV.of {i : Nat} (h : tj M i b = some c) (z : NV M c) : NV M b := fun n => by
  refine tj_le (n := i + n) (by omega) ?_
  rw [tj_at h]; exact z n
theorem NV.cyc {d : Nat} (h : tj M d c = some c) (p : 0 < d) : NV M c := fun n => by
  have z : ∀ q, tj M (q * d) c = some c := fun q => by
    induction q with
    | zero => rw [Nat.zero_mul]; rfl
    | succ q ih => rw [Nat.succ_mul, tj_at ih, h]
  refine tj_le (n := n * d) (Nat.le_mul_of_pos_right n p) ?_
  rw [z]; exact fun e => nomatch e
theorem NV.two {i j : Nat} (l : i < j) (h : tj M i b = some c) (h' : tj M j b = some c) : NV M b := by
  refine NV.of h (NV.cyc (d := j - i) ?_ (by omega))
  rw [← tj_at (n := j - i) h, show i + (j - i) = j by omega]; exact h'
end
/-! ### how many there are -/
theorem pig : ∀ (n : Nat) (f : Nat → Nat), (∀ i, i ≤ n → f i < n) → ∃ i j, i < j ∧ j ≤ n ∧ f i = f j
  | 0, f, h => absurd (h 0 (Nat.le_refl 0)) (by omega)
  | n + 1, f, h => by
    by_cases e : ∃ i, i ≤ n ∧ f i = f (n + 1)
    · obtain ⟨i, l, e⟩ := e
      exact ⟨i, n + 1, by omega, Nat.le_refl _, e⟩
    · have e : ∀ i, i ≤ n → f i ≠ f (n + 1) := fun i l z => e ⟨i, l, z⟩
      have hl := h (n + 1) (Nat.le_refl _)
      obtain ⟨i, j, l, lj, q⟩ := pig n (fun i => if f i = n then f (n + 1) else f i) fun i l => by
        have h1 := h i (by omega)
        have h2 := e i l
        show (if f i = n then f (n + 1) else f i) < n
        split
        · omega
        · omega
      refine ⟨i, j, l, by omega, ?_⟩
      have ei := e i (by omega)
      have ej := e j lj
      have q : (if f i = n then f (n + 1) else f i) = (if f j = n then f (n + 1) else f j) := q
      split at q
      · split at q
        · omega
        · exact absurd q.symm ej
      · split at q
        · exact absurd q ei
        · exact q
def enc (S : Nat) : List Int → Nat
  | [] => 0
  | x :: l => x.toNat + S * enc S l
def SOk (S : Nat) (l : List Int) : Prop := ∀ x ∈ l, 0 ≤ x ∧ x < (S : Int)
theorem SOk.tail {S : Nat} {x : Int} {l : List Int} (h : SOk S (x :: l)) : SOk S l := fun y z => h y (List.mem_cons_of_mem _ z)
theorem SOk.app {S : Nat} {l m : List Int} (h : SOk S l) (k : SOk S m) : SOk S (l ++ m) := fun y z => (List.mem_append.mp z).elim (h y) (k y)
theorem SOk.set {S : Nat} {l : List Int} (h : SOk S l) {i : Nat} {v : Int} (k : 0 ≤ v ∧ v < (S : Int)) : SOk S (l.set i v) := fun y z => by
  rcases List.mem_or_eq_of_mem_set z with z | z
  · exact h y z
  · rw [z]; exact k
theorem SOk.rev {S : Nat} {l : List Int} (h : SOk S l) : SOk S l.reverse := fun y z => h y (List.mem_reverse.mp z)
theorem enc_lt {S : Nat} : ∀ {l : List Int}, SOk S l → enc S l < S ^ l.length
  | [], _ => by show 0 < 1; omega
  | x :: l, h => by
    have h1 := enc_lt h.tail
    have hx := h x (List.mem_cons_self ..)
    show x.toNat + S * enc S l < S ^ (l.length + 1)
    rw [Nat.pow_succ, Nat.mul_comm (S ^ l.length) S]
    have : S * (enc S l + 1) ≤ S * S ^ l.length := Nat.mul_le_mul_left S h1
    rw [Nat.mul_add, Nat.mul_one] at this
    omega
theorem div_eq2 {S x y a b : Nat} (hx : x < S) (hy : y < S) (e : x + S * a = y + S * b) : x = y ∧ a = b := by
  have p : 0 < S := by omega
  have e1 : (x + S * a) % S = x := by rw [Nat.add_mul_mod_self_left, Nat.mod_eq_of_lt hx]
  have e2 : (y + S * b) % S = y := by rw [Nat.add_mul_mod_self_left, Nat.mod_eq_of_lt hy]
  have exy : x = y := by rw [← e1, ← e2, e]
  subst exy
  refine ⟨rfl, Nat.eq_of_mul_eq_mul_left p (by omega)⟩
theorem enc_inj {S : Nat} : ∀ {l m : List Int}, SOk S l → SOk S m → l.length = m.length → enc S l = enc S m → l = m
  | [], [], _, _, _, _ => rfl
  | [], _ :: _, _, _, h, _ => by simp at h
  | _ :: _, [], _, _, h, _ => by simp at h
  | x :: l, y :: m, h, k, hl, e => by
    have hx := h x (List.mem_cons_self ..)
    have hy := k y (List.mem_cons_self ..)
    obtain ⟨e1, e2⟩ := div_eq2 (S := S) (x := x.toNat) (y := y.toNat) (by omega) (by omega) e
    rw [enc_inj h.tail k.tail (by simpa using hl) e2, show x = y by omega]
structure BOk (R S L : Nat) (b : Bs) : Prop where
  len : b.s.length = L
  s : SOk S b.s
  p0 : 0 ≤ b.p
  p1 : b.p < L
  r0 : 0 ≤ b.r
  r1 : b.r < R
section
variable {M : Mach} {R S L : Nat} {b c : Bs}
theorem BOk.sgB (h : BOk R S L b) : b.s[b.p.toNat]? = some (sgB b) ∧ 0 ≤ sgB b ∧ sgB b < S := by
  have l : b.p.toNat < b.s.length := by have := h.len; have := h.p0; have := h.p1; omega
  have e : b.s[b.p.toNat]? = some b.s[b.p.toNat] := List.getElem?_eq_getElem l
  have e2 : E.sgB b = b.s[b.p.toNat] := by unfold E.sgB; rw [e]; rfl
  rw [e2]
  exact ⟨e, h.s _ (List.getElem_mem l)⟩
theorem BOk.ent (h : BOk R S L b) (hM : MOk M R S) : EOk R S (entAt M b.r (E.sgB b)) := (ent_of hM h.r0 h.r1 h.sgB.2.1 h.sgB.2.2).choose_spec.2.2
theorem bn_ok (h : BOk R S L b) (hM : MOk M R S) (e : bn M b = .nxt c) : BOk R S L c := by
  have eo := h.ent hM
  cases ee : entAt M b.r (E.sgB b) with
  | emp => rw [bn_emp ee] at e; cases e
  | go pu wa to =>
    rw [ee] at eo
    obtain ⟨o1, o2, o3⟩ := eo.ok _ _ _ rfl
    by_cases z : 0 ≤ b.p + wa ∧ b.p + wa < (b.s.length : Int)
    · rw [bn_go ee z] at e
      cases e
      exact ⟨by rw [List.length_set]; exact h.len, h.s.set o1, z.1, by rw [← h.len]; exact z.2, o3.1, o3.2⟩
    · rw [bn_out ee z] at e; cases e
theorem tj_ok (hM : MOk M R S) : ∀ (n : Nat) (b c : Bs), BOk R S L b → tj M n b = some c → BOk R S L c
  | 0, b, c, h, e => by cases e; exact h
  | n + 1, b, c, h, e => by
    cases eb : bn M b with
    | nxt b' => rw [tj_nxt eb] at e; exact tj_ok hM n b' c (bn_ok h hM eb) e
    | lv w s r x d => rw [tj_lv eb] at e; cases e
def code (R S L : Nat) (b : Bs) : Nat := b.r.toNat + R * (b.p.toNat + L * enc S b.s)
theorem code_lt (h : BOk R S L b) : code R S L b < R * L * S ^ L := by
  have h1 := enc_lt h.s
  rw [h.len] at h1
  have hp : b.p.toNat < L := by have := h.p0; have := h.p1; omega
  have hr : b.r.toNat < R := by have := h.r0; have := h.r1; omega
  have a1 : L * (enc S b.s + 1) ≤ L * S ^ L := Nat.mul_le_mul_left L h1
  rw [Nat.mul_add, Nat.mul_one] at a1
  have a2 : b.p.toNat + L * enc S b.s + 1 ≤ L * S ^ L := by omega
  have a3 : R * (b.p.toNat + L * enc S b.s + 1) ≤ R * (L * S ^ L) := Nat.mul_le_mul_left R a2
  rw [Nat.mul_add, Nat.mul_one, ← Nat.mul_assoc] at a3
  show b.r.toNat + R * (b.p.toNat + L * enc S b.s) < _
  omega
theorem code_inj (h : BOk R S L b) (k : BOk R S L c) (e : code R S L b = code R S L c) : b = c := by
  have h1 := h.p0; have h2 := h.p1; have h3 := h.r0; have h4 := h.r1
  have k1 := k.p0; have k2 := k.p1; have k3 := k.r0; have k4 := k.r1
  obtain ⟨e1, e2⟩ := div_eq2 (S := R) (by omega) (by omega) e
  obtain ⟨e3, e4⟩ := div_eq2 (S := L) (by omega) (by omega) e2
  have e5 := enc_inj h.s k.s (h.len.trans k.len.symm) e4
  obtain ⟨s, p, r⟩ := b
  obtain ⟨s', p', r'⟩ := c
  simp only at *
  rw [e5, show p = p' by omega, show r = r' by omega]
/-- what has gone on for so long never leaves -/
theorem nv_of (hM : MOk M R S) (h : BOk R S L b) {N : Nat} (l : R * L * S ^ L ≤ N) (e : tj M N b ≠ none) : NV M b := by
  have a : ∀ i, i ≤ R * L * S ^ L → ∃ c, tj M i b = some c := fun i li => by
    cases z : tj M i b with
    | none => exact absurd z (tj_le (n := N) (by omega) e)
    | some c => exact ⟨c, rfl⟩
  obtain ⟨i, j, ij, jn, q⟩ := pig (R * L * S ^ L) (fun i => code R S L ((tj M i b).getD b)) fun i li => by
    obtain ⟨c, ec⟩ := a i li
    show code R S L ((tj M i b).getD b) < _
    rw [ec]
    exact code_lt (tj_ok hM i b c h ec)
  obtain ⟨c, ec⟩ := a i (by omega)
  obtain ⟨c', ec'⟩ := a j jn
  have q : code R S L ((tj M i b).getD b) = code R S L ((tj M j b).getD b) := q
  rw [ec, ec'] at q
  have e := code_inj (tj_ok hM i b c h ec) (tj_ok hM j b c' h ec') q
  rw [← e] at ec'
  exact NV.two ij ec ec'
end
/-! ### a block is gone through -/
def st0 (s : List Int) (row : Int) (far : Bool) : Bs := ⟨s, if far then (s.length : Int) - 1 else 0, row⟩
def mostB (R S L : Nat) : Nat := R * L * S ^ L
def thr (M : Mach) (R S : Nat) (s : List Int) (row : Int) (far : Bool) : ThR := bgo M (mostB R S s.length + 1) (st0 s row far) 0
section
variable {M : Mach} {R S L : Nat} {s : List Int} {row : Int} {far : Bool}
theorem st0_ok (h : SOk S s) (l : 1 ≤ s.length) (r0 : 0 ≤ row) (r1 : row < R) : BOk R S s.length (st0 s row far) := by
  refine ⟨rfl, h, ?_, ?_, r0, r1⟩
  · show 0 ≤ (if far then (s.length : Int) - 1 else 0); split <;> omega
  · show (if far then (s.length : Int) - 1 else 0) < s.length; split <;> omega
theorem thr_stay (hM : MOk M R S) (h : SOk S s) (l : 1 ≤ s.length) (r0 : 0 ≤ row) (r1 : row < R) (e : thr M R S s row far = .stay) : NV M (st0 s row far) :=
  nv_of hM (st0_ok h l r0 r1) (Nat.le_succ _) (bgo_stay _ _ _ e)
theorem thr_nv (e : NV M (st0 s row far)) : thr M R S s row far = .stay := e.stay _ _
theorem thr_fin {w s' r x m} (e : thr M R S s row far = .fin w s' r x m) : ∃ (i : Nat) (c : Bs) (d : Int), tj M i (st0 s row far) = some c ∧ bn M c = .lv w s' r x d ∧ m = i + d := by
  obtain ⟨i, c, d, _, h1, h2, h3⟩ := bgo_fin _ _ _ _ _ _ _ _ e
  exact ⟨i, c, d, h1, h2, by omega⟩
theorem thr_of (hM : MOk M R S) (h : SOk S s) (l : 1 ≤ s.length) (r0 : 0 ≤ row) (r1 : row < R) {i : Nat} {c : Bs} {w s' r x d} (e : tj M i (st0 s row far) = some c) (e' : bn M c = .lv w s' r x d) : thr M R S s row far = .fin w s' r x (i + d) := by
  by_cases z : i < mostB R S s.length + 1
  · have := bgo_of (M := M) i _ (st0 s row far) 0 c w s' r x d e e' z
    rw [Int.zero_add] at this
    exact this
  · exfalso
    have nv := nv_of (N := i) hM (st0_ok (far := far) h l r0 r1) (by unfold mostB at z; omega) (by rw [e]; exact fun z => nomatch z)
    exact nv (i + 1) (by rw [tj_at e, tj_lv e'])
end
/-! ### what is told of a block, as a datum -/
theorem all_ints {H : Hp} : ∀ s : List Int, IsAll H (s.map V.int) s := fun s => ⟨by rw [List.length_map], fun i x y h k => by
  rw [List.getElem?_map, k] at h
  cases h; rfl⟩
def ThR.py : ThR → PyData
  | .stay => .tuple [.str tStay.x]
  | .fin w s r x n => .tuple [.str w.x, .tuple (s.map .int), .int r, .int x, .int n]
def ThR.rep (H : Hp) (v : V) : ThR → Prop
  | .stay => ∃ p, v = .ref p ∧ H p = some (.tup [.str tStay.x])
  | .fin w s r x n => ∃ p q, v = .ref p ∧ H p = some (.tup [.str w.x, .ref q, .int r, .int x, .int n]) ∧ H q = some (.tup (s.map V.int))
theorem can_ints (s : List Int) : PyData.canLayAll0 (s.map .int) = true := can_all (α := Int) s
theorem depth_ints (s : List Int) : PyData.depthAll (s.map .int) ≤ 0 := depth_all (α := Int) s
theorem eqv_ints (a b : List Int) : PyData.eqvAll (a.map .int) (b.map .int) = true ↔ a = b := eqv_all (α := Int) a b
instance : Dat ThR where
  rep := ThR.rep
  mono := fun {H H' v d} s h => by
    cases d with
    | stay => obtain ⟨p, e, h⟩ := h; exact ⟨p, e, s _ _ h⟩
    | fin w l r x n => obtain ⟨p, q, e, h, k⟩ := h; exact ⟨p, q, e, s _ _ h, s _ _ k⟩
  py := ThR.py
  dp := fun {K H v d} h => by
    cases d with
    | stay => obtain ⟨p, rfl, h⟩ := h; exact .tup (SqT.of h) (.cons (.str _) .nil)
    | fin w l r x n =>
      obtain ⟨p, q, rfl, h, k⟩ := h
      exact .tup (SqT.of h) (.cons (.str _) (.cons (.tup (SqT.of k) (dp_all (α := Int) (all_ints l))) (.cons (.int _) (.cons (.int _) (.cons (.int _) .nil)))))
  can := fun d => by
    cases d with
    | stay => decide +kernel
    | fin w l r x n =>
      show (PyData.canLay0 (.str w.x) && (PyData.canLayAll0 (l.map .int) && (true && (true && (true && true))))) = true
      rw [show PyData.canLay0 (.str w.x) = true from w.ok, can_ints]
      rfl
  dep := 2
  depth := fun d => by
    cases d with
    | stay => decide +kernel
    | fin w l r x n =>
      have h := depth_ints l
      show max 0 (max (PyData.depthAll (l.map .int) + 1) (max 0 (max 0 (max 0 0)))) + 1 ≤ 2
      omega
  eqv := fun a b => by
    cases a with
    | stay =>
      cases b with
      | stay => simp [ThR.py, PyData.eqv, PyData.eqvAll]
      | fin w l r x n => simp [ThR.py, PyData.eqv, PyData.eqvAll]
    | fin w l r x n =>
      cases b with
      | stay => simp [ThR.py, PyData.eqv, PyData.eqvAll]
      | fin w' l' r' x' n' =>
        obtain ⟨wx, wo⟩ := w
        obtain ⟨wx', wo'⟩ := w'
        simp only [ThR.py, PyData.eqv, PyData.eqvAll, Bool.and_eq_true, eqv_ints, decide_eq_true_eq, beq_iff_eq, ThR.fin.injEq, TStr.mk.injEq, and_true]
theorem units65 {k : Nat} {A : Around} (r : Room k A) : A.units + 65 < cLine := by have := r.un; omega
/-! ### most_setups, through -/
theorem ixN_of {n : Nat} {i : Int} (h0 : 0 ≤ i) (h1 : i < n) : ixN n i = some i.toNat := by
  unfold ixN
  rw [if_pos h0, if_pos h1]
theorem int_eq2 {a b : Int} : decide (V.int a = V.int b) = decide (a = b) := by
  by_cases h : a = b
  · subst h; rw [decide_eq_true rfl, decide_eq_true rfl]
  · rw [decide_eq_false h, decide_eq_false fun e => h (V.int.inj e)]
theorem most_le {R S L : Nat} (hR : R ≤ 4) (hS : S ≤ 4) (hL : L ≤ 8) {i : Nat} (hi : i ≤ L) : R * L * S ^ i ≤ 2097152 := by
  have a : S ^ i ≤ 4 ^ 8 := Nat.le_trans (Nat.pow_le_pow_left hS i) (Nat.pow_le_pow_right (by decide) (by omega))
  have b : R * L ≤ 4 * 8 := Nat.mul_le_mul hR hL
  exact Nat.le_trans (Nat.mul_le_mul b a) (by decide)
def sp_most_setups : Sp := fun vs H Q _ => ∃ (F : Hp) (m : V) (b : Addr) (M : Mach) (R S : Nat) (s : List Int), vs = [m, .ref b] ∧ Same F H ∧ Is F m M ∧ MOk M R S ∧ F b = some (.tup (s.map V.int)) ∧ s.length ≤ 8 ∧ Q (.int (mostB R S s.length : Nat)) H
theorem ok_most_setups (t : Tx K mg) : FnOk P w K mg base CX0 1 t.a_most_setups t.fd_most_setups ["machine", "block"] sp_most_setups := by
  refine t.F_most_setups.ok sc_most_setups (fun vs H Q E h => ?_) (fun cdv A outer s H vs Q E hr h => ?_)
  · obtain ⟨F, m, b, M, R, S, ss, rfl, _⟩ := h
    rfl
  · obtain ⟨F, m, b, M, R, S, ss, rfl, sF, hm, hM, hb, l8, q⟩ := h
    refine ⟨_, (pss_cons (ps_set (i := 2) sc_most_setups.nd rfl (by first | exact Or.inl rfl | exact Or.inr rfl) (pe_op op_mul (pe_callB (id := "len") call_lenQ (by rfl) t.n_len (by decide +kernel) (pa_cons (pv 0) pa_nil)) (pe_callB (id := "len") call_lenQ (by rfl) t.n_len (by decide +kernel) (pa_cons (pv 1) pa_nil))))
      (pss_cons (ps_for PassesOwn.never rfl (pi_tup (pv 1)) (pg_name (i := 3) sc_most_setups.nd rfl (by first | exact Or.inl rfl | exact Or.inr rfl)) (pss_one (ps_set (i := 2) sc_most_setups.nd rfl (by first | exact Or.inl rfl | exact Or.inr rfl) (pe_op op_mul (pv 2) (pe_callB (id := "len") call_lenQ (by rfl) t.n_len (by decide +kernel) (pa_cons (pe_ix ix_list (pv 0) pe_int (fun _ _ => rfl)) pa_nil))))))
      (pss_one (ps_ret (pv 2))))), ?_⟩
    obtain ⟨am, rs, rfl, ha, hrs⟩ := hm
    have lrs : rs.length = R := hrs.1.trans hM.len
    have r1 := hM.r1; have r4 := hM.r4; have s2 := hM.s2; have s4 := hM.s4
    have hx0 : rs[0]? = some rs[0] := List.getElem?_eq_getElem (by omega)
    obtain ⟨row0, hM0, a0, es0, e0, ha0, hes0⟩ := hrs.get' hx0
    have ls0 : es0.length = S := hes0.1.trans (hM.row _ (List.mem_of_getElem? hM0))
    have lb : (ss.map V.int).length = ss.length := List.length_map ..
    refine ⟨_, rfl, am, rs, rfl, .inl (SqL.of (sF _ _ ha)), _, rfl, b, _, rfl, .inr (SqT.of (sF _ _ hb)), _, _, rfl, rfl, .inl ⟨by omega, by omega⟩, ?_⟩
    refine ⟨_, rfl, b, rfl, ⟨_, SqT.of (sF _ _ hb)⟩, for_tup (K := K) (a := b) (xs := ss.map V.int) (fun i σ G => ∃ v3 : Option V, σ = [some (.ref am), some (.ref b), some (.int (R * ss.length * S ^ i : Nat)), v3] ∧ G = H)
      ⟨none, by rw [lrs, lb, Nat.pow_zero, Nat.mul_one, Int.natCast_mul]; rfl, rfl⟩ (fun i σ G _ ⟨_, _, e⟩ => by rw [e]; exact SqT.of (sF _ _ hb)) ?_ ?_⟩
    · rintro i x σ G hi ⟨v3, rfl, rfl⟩
      have il : i < ss.length := by have := (List.getElem?_eq_some_iff.mp hi).1; omega
      have bd := most_le r4 s4 l8 (Nat.le_of_lt il)
      refine ⟨_, rfl, _, rfl, am, rs, _, _, rfl, rfl, SqL.of (sF _ _ ha), atI_nat (j := 0) hx0, ?_⟩
      rw [e0]
      refine ⟨a0, es0, rfl, .inl (SqL.of (sF _ _ ha0)), _, _, rfl, rfl, .inl ⟨by omega, by omega⟩, some x, ?_, rfl⟩
      rw [ls0, Nat.pow_succ, ← Nat.mul_assoc]
      rfl
    · rintro σ G ⟨v3, rfl, rfl⟩
      rw [lb]
      exact ⟨_, rfl, q⟩
def sp_through : Sp := fun vs H Q _ => ∃ (F : Hp) (m : V) (b : Addr) (M : Mach) (R S : Nat) (s : List Int) (row side : Int), vs = [m, .ref b, .int row, .int side] ∧ Same F H ∧ Is F m M ∧ MOk M R S ∧ F b = some (.tup (s.map V.int)) ∧ SOk S s ∧ 1 ≤ s.length ∧ s.length ≤ 8 ∧ 0 ≤ row ∧ row < R ∧
  ∀ (F' H' : Hp) (v : V), Gr mu0 F H F' H' → Is F' v (thr M R S s row (decide (side = 1))) → Q v H'
theorem ok_through (t : Tx K mg) : FnOk P w K mg base CX0 4 t.a_through t.fd_through ["machine", "block", "row", "side"] sp_through := by
  refine t.F_through.ok sc_through (fun vs H Q E h => ?_) (fun cdv A outer s H vs Q E hr h => ?_)
  · obtain ⟨F, m, b, M, R, S, ss, row, side, rfl, _⟩ := h
    rfl
  · obtain ⟨F, m, b, M, R, S, ss, row, side, rfl, sF, hm, hM, hb, hs, l1, l8, r0, r1, q⟩ := h
    refine ⟨_, (pss_cons (ps_expr (pe_call (ok_must_machine t) (hr.mono (by decide)) (by rfl) t.m_must_machine t.F_must_machine.kp t.b_must_machine .nil pass0 (pa_cons (pv 0) pa_nil)))
      (pss_cons (ps_set (i := 4) sc_through.nd rfl (by first | exact Or.inl rfl | exact Or.inr rfl) (pe_callTy (T := "list") call_listQ (by rfl) t.n_list (by decide +kernel) (pa_cons (pv 1) pa_nil)))
      (pss_cons (ps_set (i := 5) sc_through.nd rfl (by first | exact Or.inl rfl | exact Or.inr rfl) pe_int)
      (pss_cons (ps_if (pt_cmpR op_eq (pv 3) pe_int (nomark _)) (pss_one (ps_set (i := 5) sc_through.nd rfl (by first | exact Or.inl rfl | exact Or.inr rfl) (pe_op op_sub (pe_callB (id := "len") call_lenQ (by rfl) t.n_len (by decide +kernel) (pa_cons (pv 4) pa_nil)) pe_int))) pss_nil)
      (pss_cons (ps_for PassesOwn.never rfl (pi_range1 (by rfl) t.n_range (pa_cons (pe_op op_add (pe_call (ok_most_setups t) (hr.mono (by decide)) (by rfl) t.m_most_setups t.F_most_setups.kp t.b_most_setups .nil pass0 (pa_cons (pv 0) (pa_cons (pv 1) pa_nil))) pe_int) pa_nil)) (pg_name (i := 6) sc_through.nd rfl (by first | exact Or.inl rfl | exact Or.inr rfl)) (pss_cons (ps_set (i := 7) sc_through.nd rfl (by first | exact Or.inl rfl | exact Or.inr rfl) (pe_ix ix_list (pe_ix ix_list (pv 0) (pv 2) (fun _ _ => rfl)) (pe_ix ix_list (pv 4) (pv 5) (fun _ _ => rfl)) (fun _ _ => rfl)))
      (pss_cons (ps_if (pt_cmpR (op_eqD hr.units) (pv 7) (pe_tup pa_nil) (nomark _)) (pss_one (ps_ret (pe_tup (pa_cons pe_str (pa_cons (pe_callTy (T := "tuple") call_tupQ (by rfl) t.n_tuple (by decide +kernel) (pa_cons (pv 4) pa_nil)) (pa_cons (pv 2) (pa_cons (pv 5) (pa_cons (pv 6) pa_nil)))))))) pss_nil)
      (pss_cons (ps_asg (pe_ix ix_tup (pv 7) pe_int (fun _ _ => rfl)) (pg_sub (pv 4) (pv 5) set_list))
      (pss_cons (ps_aug (i := 5) sc_through.nd rfl (by first | exact Or.inl rfl | exact Or.inr rfl) (pe_ix ix_tup (pv 7) pe_int (fun _ _ => rfl)) ip_add)
      (pss_cons (ps_set (i := 2) sc_through.nd rfl (by first | exact Or.inl rfl | exact Or.inr rfl) (pe_ix ix_tup (pv 7) pe_int (fun _ _ => rfl)))
      (pss_one (ps_if (pt_not (pt_chain op_le op_lt pe_int (pv 5) (pe_callB (id := "len") call_lenQ (by rfl) t.n_len (by decide +kernel) (pa_cons (pv 4) pa_nil)))) (pss_one (ps_ret (pe_tup (pa_cons pe_str (pa_cons (pe_callTy (T := "tuple") call_tupQ (by rfl) t.n_tuple (by decide +kernel) (pa_cons (pv 4) pa_nil)) (pa_cons (pv 2) (pa_cons (pe_ix ix_tup (pv 7) pe_int (fun _ _ => rfl)) (pa_cons (pe_op op_add (pv 6) pe_int) pa_nil)))))))) pss_nil))))))))
      (pss_one (ps_ret (pe_tup (pa_cons pe_str pa_nil))))))))), ?_⟩
    refine ⟨_, rfl, F, m, M, R, S, rfl, sF, hm, hM, fun H1 g1 => ?_⟩
    refine ⟨_, rfl, b, _, rfl, .inr (SqT.of (g1.fh _ _ hb)), fun l nl => ?_⟩
    have g2 := g1.own (o := .lst (ss.map V.int)) nl
    have w2 : Ow H F (upd H1 l (.lst (ss.map V.int))) l (.lst (ss.map V.int)) := Ow.mk1 g1 nl
    generalize upd H1 l (.lst (ss.map V.int)) = H2 at g2 w2 ⊢
    refine ⟨_, rfl, rfl, _, rfl, ?_⟩
    rw [int_eq2]
    have lb : (ss.map V.int).length = ss.length := List.length_map ..
    have mb := most_le (S := S) hM.r4 hM.s4 l8 (Nat.le_refl _)
    refine ite2 (fun c => ?A) (fun c => ?B)
    case' A =>
      refine ⟨_, rfl, l, _, rfl, .inl (SqL.of w2.h), _, _, rfl, rfl, ?_⟩
      have ep : (st0 ss row (decide (side = 1))).p = ((ss.map V.int).length : Int) - 1 := by rw [lb]; unfold st0; rw [if_pos c]
    case' B =>
      have ep : (st0 ss row (decide (side = 1))).p = 0 := by unfold st0; rw [if_neg c]
    all_goals
      refine ⟨_, rfl, _, rfl, F, m, b, M, R, S, ss, rfl, g2.fh, hm, hM, hb, l8, _, _, rfl, rfl, ((mostB R S ss.length : Nat) : Int) + 1, rfl, by omega, by unfold mostB; omega, ?_⟩
      refine for_range (lo := 0) (n := (((mostB R S ss.length : Nat) : Int) + 1).toNat) (fun i σ G => ∃ (c : Bs) (v6 v7 : Option V), σ = [some m, some (.ref b), some (.int c.r), some (.int side), some (.ref l), some (.int c.p), v6, v7] ∧ Gr mu0 F H F G ∧ Ow H F G l (.lst (c.s.map V.int)) ∧ BOk R S ss.length c ∧ thr M R S ss row (decide (side = 1)) = bgo M (mostB R S ss.length + 1 - i) c i)
        ⟨st0 ss row (decide (side = 1)), none, none, by rw [ep]; rfl, g2, w2, st0_ok hs l1 r0 r1, rfl⟩ ?_ ?_
      · rintro i σ G hi ⟨c, v6, v7, rfl, g, w, ok, et⟩
        have en : mostB R S ss.length + 1 - i = (mostB R S ss.length - i) + 1 := by omega
        rw [en] at et
        have lc := ok.len
        have c0 := ok.p0
        have c1 := ok.p1
        obtain ⟨rw', hrw, he, eo⟩ := ent_of hM ok.r0 ok.r1 ok.sgB.2.1 ok.sgB.2.2
        obtain ⟨am, rs, rfl, ha, hrs⟩ := id hm
        obtain ⟨y, hy, bm, es', rfl, hbm, hes⟩ := hrs.get hrw
        obtain ⟨z, hz, hze⟩ := hes.get he
        have hsg : (c.s.map V.int)[c.p.toNat]? = some (.int (sgB c)) := by rw [List.getElem?_map, ok.sgB.1]; rfl
        refine ⟨_, rfl, _, rfl, am, rs, _, _, rfl, rfl, SqL.of (g.fh _ _ ha), at_of (Int.toNat_of_nonneg ok.r0).symm hy, ?_⟩
        refine ⟨_, rfl, _, rfl, l, _, _, _, rfl, rfl, SqL.of w.h, at_of (Int.toNat_of_nonneg c0).symm hsg, bm, es', _, _, rfl, rfl, SqL.of (g.fh _ _ hbm), at_of (Int.toNat_of_nonneg ok.sgB.2.1).symm hz, ?_⟩
        refine ⟨_, rfl, nil_le, fun e1 ne1 => ?_⟩
        have gg := g.own (o := .tup []) ne1
        have ww := w.own (u := .tup []) ne1
        refine eq_dat (a := entAt M c.r (sgB c)) (b := Ent.emp) (hze.up gg.fh) ⟨e1, rfl, upd_same⟩ ⟨_, rfl, ?_⟩
        generalize upd G e1 (.tup []) = G1 at gg ww ⊢
        -- what is told when it leaves
        have fin : ∀ (s' : List Int) (tg : TStr) (r x n : Int) (G2 : Hp), Gr mu0 F H F G2 → thr M R S ss row (decide (side = 1)) = .fin tg s' r x n → ∀ p, G2 p = none → ∀ u, upd G2 p (.tup (s'.map V.int)) u = none → Q (.ref u) (upd (upd G2 p (.tup (s'.map V.int))) u (.tup [.str tg.x, .ref p, .int r, .int x, .int n])) := by
          intro s' tg r x n G2 k e p np u nu
          have k1 := k.new (o := .tup (s'.map V.int)) np
          have n2 : (upd F p (.tup (s'.map V.int))) u = none := k1.fh.free nu
          refine q _ _ (.ref u) (k1.new (o := .tup [.str tg.x, .ref p, .int r, .int x, .int n]) nu) ?_
          rw [e]
          exact ⟨u, p, rfl, upd_same, ln n2 upd_same⟩
        cases ee : entAt M c.r (sgB c) with
        | emp =>
          refine ifT (decide_eq_true rfl) ⟨_, rfl, l, _, rfl, .inl ⟨SqL.of ww.h, fun p np => ⟨_, rfl, _, rfl, _, rfl, five_le, fun u nu => ?_⟩⟩⟩
          refine fin c.s tEnd c.r c.p _ G1 gg ?_ p np u nu
          rw [et, bgo_lv (bn_emp ee)]
          congr 1; omega
        | go pu wa to =>
          rw [ee] at hze eo
          obtain ⟨o1, o2, o3⟩ := eo.ok _ _ _ rfl
          obtain ⟨ae, rfl, hae⟩ := hze
          have hae1 := gg.fh _ _ hae
          refine ifF (decide_eq_false (by intro z; cases z)) ?_
          refine ⟨_, rfl, ae, _, _, _, rfl, rfl, SqT.of hae1, atI_nat (j := 0) rfl, _, rfl, _, rfl, l, _, _, c.p.toNat, rfl, rfl, ww.h, ixN_of c0 (by rw [List.length_map]; omega), ?_⟩
          have g3 := gg.set (o := .lst ((c.s.map V.int).set c.p.toNat (.int pu))) ww.f (.inl ww.n)
          have w3 := ww.set (u := .lst ((c.s.map V.int).set c.p.toNat (.int pu)))
          rw [← List.map_set] at g3 w3 ⊢
          generalize upd G1 l (.lst ((c.s.set c.p.toNat pu).map V.int)) = G3 at g3 w3 ⊢
          have hae3 := g3.fh _ _ hae
          refine ⟨_, rfl, _, rfl, ae, _, _, _, rfl, rfl, SqT.of hae3, atI_nat (j := 1) rfl, _, _, rfl, rfl, ?_⟩
          refine ⟨_, rfl, ae, _, _, _, rfl, rfl, SqT.of hae3, atI_nat (j := 2) rfl, ?_⟩
          have ll : ((c.s.set c.p.toNat pu).map V.int).length = c.s.length := by rw [List.length_map, List.length_set]
          refine ⟨_, rfl, _, _, rfl, rfl, _, rfl, ?_⟩
          by_cases z : 0 ≤ c.p + wa ∧ c.p + wa < (c.s.length : Int)
          · refine ifT (decide_eq_true z.1) ⟨_, rfl, l, _, rfl, .inl (SqL.of w3.h), _, _, rfl, rfl, _, rfl, ?_⟩
            refine ifF (by rw [ll, decide_eq_true z.2]; rfl) ?_
            refine ⟨⟨c.s.set c.p.toNat pu, c.p + wa, to⟩, _, _, rfl, g3, w3, bn_ok ok hM (bn_go ee z), ?_⟩
            rw [et, bgo_nxt (bn_go ee z), show mostB R S ss.length + 1 - (i + 1) = mostB R S ss.length - i by omega]
            congr 1
          · by_cases k : 0 ≤ c.p + wa
            · refine ifT (decide_eq_true k) ⟨_, rfl, l, _, rfl, .inl (SqL.of w3.h), _, _, rfl, rfl, _, rfl, ?_⟩
              refine ifT (by rw [ll, decide_eq_false (fun y => z ⟨k, y⟩)]; rfl) ?_
              refine ⟨_, rfl, l, _, rfl, .inl ⟨SqL.of w3.h, fun p np => ⟨_, rfl, _, rfl, ae, _, _, _, rfl, rfl, SqT.of (ln np hae3), atI_nat (j := 1) rfl, _, rfl, _, _, rfl, rfl, five_le, fun u nu => ?_⟩⟩⟩
              refine fin (c.s.set c.p.toNat pu) tOut to wa _ G3 g3 ?_ p np u nu
              rw [et, bgo_lv (bn_out ee z)]
              congr 1; omega
            · refine ifF (decide_eq_false k) ⟨_, rfl, ?_⟩
              refine ifT rfl ?_
              refine ⟨_, rfl, l, _, rfl, .inl ⟨SqL.of w3.h, fun p np => ⟨_, rfl, _, rfl, ae, _, _, _, rfl, rfl, SqT.of (ln np hae3), atI_nat (j := 1) rfl, _, rfl, _, _, rfl, rfl, five_le, fun u nu => ?_⟩⟩⟩
              refine fin (c.s.set c.p.toNat pu) tOut to wa _ G3 g3 ?_ p np u nu
              rw [et, bgo_lv (bn_out ee z)]
              congr 1; omega
      · rintro σ G ⟨c, v6, v7, rfl, g, w, ok, et⟩
        refine ⟨one_le, fun u nu => ?_⟩
        refine q _ _ (.ref u) (g.new (o := .tup [.str tStay.x]) nu) ?_
        rw [et, show mostB R S ss.length + 1 - (((mostB R S ss.length : Nat) : Int) + 1).toNat = 0 by omega]
        exact ⟨u, rfl, upd_same⟩
/-! ### strips told, whatever keeps them (plain) -/
structure IsSt (l : List PI) (f : Int → Int) : Prop where
  rise : l.Pairwise (fun p q => p.a < q.a)
  mem : ∀ x s, (⟨x, s⟩ : PI) ∈ l ↔ (f x = s ∧ s ≠ 0)
theorem IsSt.nz {l : List PI} {f : Int → Int} (h : IsSt l f) {p : PI} (m : p ∈ l) : f p.a = p.b ∧ p.b ≠ 0 := (h.mem p.a p.b).mp m
theorem rise_eq : ∀ {l m : List PI}, l.Pairwise (fun p q => p.a < q.a) → m.Pairwise (fun p q => p.a < q.a) → (∀ p, p ∈ l ↔ p ∈ m) → l = m
  | [], [], _, _, _ => rfl
  | [], q :: m, _, _, h => nomatch (h q).mpr (List.mem_cons_self ..)
  | p :: l, [], _, _, h => nomatch (h p).mp (List.mem_cons_self ..)
  | p :: l, q :: m, hl, hm, h => by
    obtain ⟨hp, hl2⟩ := List.pairwise_cons.mp hl
    obtain ⟨hq, hm2⟩ := List.pairwise_cons.mp hm
    have e : p = q := by
      rcases List.mem_cons.mp ((h p).mp (List.mem_cons_self ..)) with e | m1
      · exact e
      · rcases List.mem_cons.mp ((h q).mpr (List.mem_cons_self ..)) with e | m2
        · exact e.symm
        · have a := hq p m1
          have b := hp q m2
          omega
    subst e
    congr 1
    refine rise_eq hl2 hm2 fun r => ⟨fun z => ?_, fun z => ?_⟩
    · rcases List.mem_cons.mp ((h r).mp (List.mem_cons_of_mem _ z)) with e | m1
      · subst e; have := hp _ z; omega
      · exact m1
    · rcases List.mem_cons.mp ((h r).mpr (List.mem_cons_of_mem _ z)) with e | m1
      · subst e; have := hq _ z; omega
      · exact m1
theorem IsSt.uniq {l m : List PI} {f : Int → Int} (h : IsSt l f) (k : IsSt m f) : l = m := rise_eq h.rise k.rise fun p => (h.mem p.a p.b).trans (k.mem p.a p.b).symm
/-- the sign at x of a strip kept by blocks of k -/
def fB (k : Nat) (B : Int → List Int) (x : Int) : Int := ((B (x / (k : Int)))[(x % (k : Int)).toNat]?).getD 0
def piece (base : Int) : List Int → List PI
  | [] => []
  | s :: r => (if s ≠ 0 then [⟨base, s⟩] else []) ++ piece (base + 1) r
theorem mem_piece : ∀ (s : List Int) (base x v : Int), (⟨x, v⟩ : PI) ∈ piece base s ↔ ∃ j : Nat, x = base + j ∧ s[j]? = some v ∧ v ≠ 0
  | [], base, x, v => by simp [piece]
  | s :: r, base, x, v => by
    rw [piece, List.mem_append, mem_piece r (base + 1) x v]
    constructor
    · rintro (h | ⟨j, h1, h2, h3⟩)
      · by_cases z : s ≠ 0
        · rw [if_pos z, List.mem_singleton] at h
          cases h
          exact ⟨0, by omega, rfl, z⟩
        · rw [if_neg z] at h; cases h
      · exact ⟨j + 1, by omega, h2, h3⟩
    · rintro ⟨j, h1, h2, h3⟩
      cases j with
      | zero =>
        cases h2
        refine .inl ?_
        rw [if_pos h3, List.mem_singleton, show x = base by omega]
      | succ j => exact .inr ⟨j, by omega, h2, h3⟩
theorem piece_rise : ∀ (s : List Int) (base : Int), (piece base s).Pairwise (fun p q => p.a < q.a)
  | [], _ => .nil
  | s :: r, base => by
    rw [piece, List.pairwise_append]
    refine ⟨by split <;> simp, piece_rise r (base + 1), fun p hp q hq => ?_⟩
    obtain ⟨x, v⟩ := q
    obtain ⟨j, h1, _, _⟩ := (mem_piece r (base + 1) x v).mp hq
    have : p.a = base := by
      split at hp
      · rw [List.mem_singleton.mp hp]
      · cases hp
    show p.a < x
    omega
theorem piece_snoc : ∀ (s : List Int) (base : Int) (v : Int), piece base (s ++ [v]) = piece base s ++ (if v ≠ 0 then [⟨base + s.length, v⟩] else [])
  | [], base, v => by
    show (if v ≠ 0 then ([⟨base, v⟩] : List PI) else []) ++ [] = [] ++ _
    rw [List.append_nil, List.nil_append, show base + ((([] : List Int).length : Nat) : Int) = base by simp]
  | s :: r, base, v => by
    rw [List.cons_append, piece, piece, piece_snoc r (base + 1) v, List.append_assoc]
    congr 2
    rw [show base + 1 + (r.length : Int) = base + ((s :: r).length : Int) by simp; omega]
def stripO (k : Nat) (B : Int → List Int) (ys : List Int) : List PI := ys.flatMap fun a => piece (a * k) (B a)
theorem strip_ok {k : Nat} (k1 : 1 ≤ k) {B : Int → List Int} (hB : ∀ a, (B a).length = k) {ys : List Int} (hy : ys.Pairwise (· < ·)) (out : ∀ a, a ∉ ys → ∀ v ∈ B a, v = 0) : IsSt (stripO k B ys) (fB k B) := by
  have pl : ∀ (a x v : Int), (⟨x, v⟩ : PI) ∈ piece (a * k) (B a) → a * k ≤ x ∧ x < a * k + k := fun a x v m => by
    obtain ⟨j, h1, h2, _⟩ := (mem_piece _ _ x v).mp m
    have := (List.getElem?_eq_some_iff.mp h2).1
    rw [hB] at this
    omega
  refine ⟨?_, fun x s => ?_⟩
  · unfold stripO
    rw [List.pairwise_flatMap]
    refine ⟨fun a _ => piece_rise _ _, hy.imp fun {a b} ab p hp q hq => ?_⟩
    obtain ⟨x, v⟩ := p
    obtain ⟨y, u⟩ := q
    have h1 := pl a x v hp
    have h2 := pl b y u hq
    show x < y
    have : (a + 1) * (k : Int) ≤ b * k := Int.mul_le_mul_of_nonneg_right (by omega) (by omega)
    rw [Int.add_mul, Int.one_mul] at this
    omega
  · unfold stripO
    rw [List.mem_flatMap]
    have km : (k : Int) ≠ 0 := by omega
    have hd := Int.mul_ediv_add_emod x k
    have h0 := Int.emod_nonneg x km
    have h1 := Int.emod_lt_of_pos x (show (0 : Int) < k by omega)
    have hc := Int.mul_comm (x / (k : Int)) k
    constructor
    · rintro ⟨a, ha, hm⟩
      have hp := pl a x s hm
      obtain ⟨j, e1, e2, e3⟩ := (mem_piece _ _ x s).mp hm
      have ea : x / (k : Int) = a := by
        have := (Int.ediv_emod_unique (a := x) (b := k) (r := j) (q := a) (by omega)).mpr ⟨by rw [Int.mul_comm]; omega, by omega, by omega⟩
        exact this.1
      have ej : x % (k : Int) = j := by
        have := (Int.ediv_emod_unique (a := x) (b := k) (r := j) (q := a) (by omega)).mpr ⟨by rw [Int.mul_comm]; omega, by omega, by omega⟩
        exact this.2
      refine ⟨?_, e3⟩
      unfold fB
      rw [ea, ej, Int.toNat_natCast, e2]; rfl
    · rintro ⟨hf, hs⟩
      have l : (x % (k : Int)).toNat < (B (x / (k : Int))).length := by rw [hB]; omega
      have e : (B (x / (k : Int)))[(x % (k : Int)).toNat]? = some s := by
        rw [List.getElem?_eq_getElem l]
        unfold fB at hf
        rw [List.getElem?_eq_getElem l] at hf
        exact congrArg some hf
      refine ⟨x / (k : Int), ?_, (mem_piece _ _ x s).mpr ⟨(x % (k : Int)).toNat, by omega, e, hs⟩⟩
      by_cases z : x / (k : Int) ∈ ys
      · exact z
      · exact absurd (out _ z s (List.mem_of_getElem? e)) hs
/-! ### walks by blocks (plain) -/
structure Wk where
  B : Int → List Int
  at_ : Int
  row : Int
  far : Bool
  st : Int
def updB (B : Int → List Int) (a : Int) (s : List Int) : Int → List Int := fun x => if x = a then s else B x
def Wk.out (W : Wk) (s : List Int) (r wa m : Int) : Wk := ⟨updB W.B W.at_ s, W.at_ + wa, r, decide (-wa = 1), W.st + m⟩
def plB (k : Nat) (W : Wk) : Int := W.at_ * k + (if W.far then (k : Int) - 1 else 0)
structure ByR where
  w : TStr
  st : Int
  row : Int
  pl : Int
  B : Int → List Int
def tOnB : TStr := ⟨"on", by decide +kernel⟩
def byB (M : Mach) (R S k : Nat) : Nat → Wk → ByR
  | 0, W => ⟨tOnB, W.st, W.row, plB k W, W.B⟩
  | n + 1, W => match thr M R S (W.B W.at_) W.row W.far with
    | .stay => ⟨tStay, W.st, W.row, plB k W, W.B⟩
    | .fin w s r x m => if w = tEnd then ⟨tEnd, W.st + m, r, W.at_ * k + x, updB W.B W.at_ s⟩ else byB M R S k n (W.out s r x m)
theorem byB_stay {M : Mach} {R S k n : Nat} {W : Wk} (e : thr M R S (W.B W.at_) W.row W.far = .stay) : byB M R S k (n + 1) W = ⟨tStay, W.st, W.row, plB k W, W.B⟩ := by
  rw [byB, e]
theorem byB_end {M : Mach} {R S k n : Nat} {W : Wk} {s : List Int} {r x m : Int} (e : thr M R S (W.B W.at_) W.row W.far = .fin tEnd s r x m) : byB M R S k (n + 1) W = ⟨tEnd, W.st + m, r, W.at_ * k + x, updB W.B W.at_ s⟩ := by
  rw [byB, e]
  exact if_pos rfl
theorem byB_out {M : Mach} {R S k n : Nat} {W : Wk} {s : List Int} {r x m : Int} (e : thr M R S (W.B W.at_) W.row W.far = .fin tOut s r x m) : byB M R S k (n + 1) W = byB M R S k n (W.out s r x m) := by
  rw [byB, e]
  exact if_neg (by decide +kernel)
structure OkW (R S k : Nat) (W : Wk) : Prop where
  len : ∀ a, (W.B a).length = k
  s : ∀ a, SOk S (W.B a)
  r0 : 0 ≤ W.row
  r1 : W.row < R
def W0 (k : Nat) : Wk := ⟨fun _ => List.replicate k 0, 0, 0, false, 0⟩
theorem W0_ok {R S k : Nat} (r1 : 1 ≤ R) (s1 : 1 ≤ S) : OkW R S k (W0 k) :=
  ⟨fun _ => List.length_replicate, fun _ x m => by rw [(List.mem_replicate.mp m).2]; omega, Int.le_refl 0, by show (0 : Int) < R; omega⟩
theorem updB_same {B : Int → List Int} {a : Int} {s : List Int} : updB B a s a = s := if_pos rfl
/-- what a way through a block leaves -/
theorem thr_ok {M : Mach} {R S : Nat} {s : List Int} {row : Int} {far : Bool} (hM : MOk M R S) (h : SOk S s) (l : 1 ≤ s.length) (r0 : 0 ≤ row) (r1 : row < R) {w s' r x m} (e : thr M R S s row far = .fin w s' r x m) :
    (w = tEnd ∨ w = tOut) ∧ s'.length = s.length ∧ SOk S s' ∧ (0 ≤ r ∧ r < R) ∧ 0 ≤ m ∧ (w = tEnd → 0 ≤ x ∧ x < s.length) ∧ (w = tOut → (x = -1 ∨ x = 1) ∧ 1 ≤ m) := by
  obtain ⟨i, c, d, t1, t2, t3⟩ := thr_fin e
  have okc := tj_ok hM i _ c (st0_ok (far := far) h l r0 r1) t1
  have eo := okc.ent hM
  cases ee : entAt M c.r (sgB c) with
  | emp =>
    rw [bn_emp ee] at t2
    cases t2
    exact ⟨.inl rfl, okc.len, okc.s, ⟨okc.r0, okc.r1⟩, by omega, fun _ => ⟨okc.p0, okc.p1⟩, fun z => absurd z (by decide +kernel)⟩
  | go pu wa to =>
    rw [ee] at eo
    obtain ⟨o1, o2, o3⟩ := eo.ok _ _ _ rfl
    by_cases z : 0 ≤ c.p + wa ∧ c.p + wa < (c.s.length : Int)
    · rw [bn_go ee z] at t2; cases t2
    · rw [bn_out ee z] at t2
      cases t2
      exact ⟨.inr rfl, by rw [List.length_set]; exact okc.len, okc.s.set o1, o3, by omega, fun z => absurd z.symm (by decide +kernel), fun _ => ⟨o2, by omega⟩⟩
theorem OkW.out {M : Mach} {R S k : Nat} {W : Wk} (h : OkW R S k W) (hM : MOk M R S) (k1 : 1 ≤ k) {s : List Int} {r x m : Int} (e : thr M R S (W.B W.at_) W.row W.far = .fin tOut s r x m) : OkW R S k (W.out s r x m) := by
  obtain ⟨_, h1, h2, h3, _⟩ := thr_ok hM (h.s _) (by rw [h.len]; exact k1) h.r0 h.r1 e
  refine ⟨fun a => ?_, fun a => ?_, h3.1, h3.2⟩
  · show (updB W.B W.at_ s a).length = k
    unfold updB
    split
    · rw [h1, h.len]
    · exact h.len a
  · show SOk S (updB W.B W.at_ s a)
    unfold updB
    split
    · exact h2
    · exact h.s a
/-! ### dicts from ints to data -/
abbrev DI (β : Type) := List (Int × V × β)
section
variable {β : Type}
def diK (L : DI β) : List (Key × V) := L.map fun t => (Sum.inl t.1, t.2.1)
def lkD (L : DI β) (x : Int) : Option β := (L.find? fun t => decide (t.1 = x)).map (·.2.2)
def ptD (L : DI β) (x : Int) (v : V) (d : β) : DI β := if (L.any fun t => decide (t.1 = x)) = true then L.map (fun t => if t.1 = x then (t.1, v, d) else t) else L ++ [(x, v, d)]
def DiIs [Dat β] (H : Hp) (L : DI β) : Prop := ∀ t ∈ L, Is H t.2.1 t.2.2
theorem DiIs.up [Dat β] {H H' : Hp} {L : DI β} (h : DiIs H L) (s : Same H H') : DiIs H' L := fun t m => Is.up (h t m) s
theorem lkD_cons (t : Int × V × β) (L : DI β) (x : Int) : lkD (t :: L) x = if t.1 = x then some t.2.2 else lkD L x := by
  unfold lkD
  rw [List.find?_cons]
  by_cases e : t.1 = x
  · simp [e]
  · simp [e]
theorem di_get {x : Int} {d : β} : ∀ {L : DI β}, lkD L x = some d → ∃ v, valV (diK L) (Sum.inl x) = some v ∧ (x, v, d) ∈ L
  | [], h => nomatch h
  | t :: L, h => by
    rw [lkD_cons] at h
    show ∃ v, valV ((Sum.inl t.1, t.2.1) :: diK L) (Sum.inl x) = some v ∧ _
    by_cases e : t.1 = x
    · rw [if_pos e] at h
      cases h
      refine ⟨t.2.1, valV_pos (by rw [key_inl]; exact e), ?_⟩
      rw [← e]; exact List.mem_cons_self ..
    · rw [if_neg e] at h
      obtain ⟨v, h1, h2⟩ := di_get h
      exact ⟨v, (valV_neg (by rw [key_inl]; exact e)).trans h1, List.mem_cons_of_mem _ h2⟩
theorem di_none {x : Int} : ∀ {L : DI β}, lkD L x = none → valV (diK L) (Sum.inl x) = none
  | [], _ => rfl
  | t :: L, h => by
    rw [lkD_cons] at h
    show valV ((Sum.inl t.1, t.2.1) :: diK L) (Sum.inl x) = none
    by_cases e : t.1 = x
    · rw [if_pos e] at h; cases h
    · rw [if_neg e] at h
      exact (valV_neg (by rw [key_inl]; exact e)).trans (di_none h)
theorem di_put (L : DI β) (x : Int) (v : V) (d : β) : putK (diK L) (Sum.inl x) v = diK (ptD L x v d) := by
  have e : ((diK L).any fun kv => decide (kv.1 = Sum.inl x)) = (L.any fun t => decide (t.1 = x)) := by
    unfold diK
    rw [List.any_map]
    congr 1
    funext t
    simp only [Function.comp, key_inl]
  unfold putK ptD
  rw [e]
  by_cases a : (L.any fun t => decide (t.1 = x)) = true
  · rw [if_pos a, if_pos a]
    unfold diK
    rw [List.map_map, List.map_map]
    congr 1
    funext t
    simp only [Function.comp, key_inl]
    by_cases h : t.1 = x
    · rw [if_pos h, if_pos h]
    · rw [if_neg h, if_neg h]
  · rw [if_neg a, if_neg a]
    unfold diK
    rw [List.map_append]; rfl
theorem lkD_any (x : Int) : ∀ L : DI β, (L.any fun t => decide (t.1 = x)) = (lkD L x).isSome
  | [] => rfl
  | t :: L => by
    rw [List.any_cons, lkD_any x L, lkD_cons]
    by_cases e : t.1 = x
    · simp [e]
    · simp [e]
theorem lkD_repl (x y : Int) (v : V) (d : β) : ∀ L : DI β, lkD (L.map fun t => if t.1 = x then (t.1, v, d) else t) y = (lkD L y).map fun z => if y = x then d else z
  | [] => rfl
  | t :: L => by
    rw [List.map_cons, lkD_cons, lkD_cons, lkD_repl x y v d L]
    by_cases e : t.1 = x
    · rw [if_pos e]
      by_cases f : t.1 = y
      · rw [if_pos f, if_pos f, ← f, Option.map_some, if_pos e]
      · rw [if_neg f, if_neg f]
    · rw [if_neg e]
      by_cases f : t.1 = y
      · rw [if_pos f, if_pos f, Option.map_some, if_neg (by rw [← f]; exact e)]
      · rw [if_neg f, if_neg f]
theorem lkD_snoc (x y : Int) (v : V) (d : β) : ∀ L : DI β, lkD (L ++ [(x, v, d)]) y = (lkD L y).or (if x = y then some d else none)
  | [] => by
    rw [List.nil_append, lkD_cons]
    rfl
  | t :: L => by
    rw [List.cons_append, lkD_cons, lkD_cons, lkD_snoc x y v d L]
    by_cases f : t.1 = y
    · rw [if_pos f, if_pos f]; rfl
    · rw [if_neg f, if_neg f]
theorem lkD_put (L : DI β) (x y : Int) (v : V) (d : β) : lkD (ptD L x v d) y = if y = x then some d else lkD L y := by
  unfold ptD
  by_cases a : (L.any fun t => decide (t.1 = x)) = true
  · rw [if_pos a, lkD_repl]
    by_cases e : y = x
    · rw [if_pos e, e]
      rw [lkD_any] at a
      obtain ⟨z, hz⟩ := Option.isSome_iff_exists.mp a
      rw [hz, Option.map_some, if_pos rfl]
    · rw [if_neg e]
      cases lkD L y with
      | none => rfl
      | some z => rw [Option.map_some, if_neg e]
  · rw [if_neg a, lkD_snoc]
    rw [lkD_any] at a
    by_cases e : y = x
    · rw [if_pos e, e, if_pos rfl]
      cases h : lkD L x with
      | none => rfl
      | some z => rw [h] at a; exact absurd rfl a
    · rw [if_neg e, if_neg (fun z => e z.symm)]
      cases lkD L y <;> rfl
theorem DiIs.put [Dat β] {H : Hp} {L : DI β} {x : Int} {v : V} {d : β} (h : DiIs H L) (k : Is H v d) : DiIs H (ptD L x v d) := fun t m => by
  unfold ptD at m
  split at m
  · obtain ⟨t0, m0, rfl⟩ := List.mem_map.mp m
    have z := h t0 m0
    show Is H (if t0.1 = x then (t0.1, v, d) else t0).2.1 (if t0.1 = x then (t0.1, v, d) else t0).2.2
    split
    · exact k
    · exact z
  · rcases List.mem_append.mp m with m | m
    · exact h t m
    · rw [List.mem_singleton.mp m]; exact k
theorem ptD_len (L : DI β) (x : Int) (v : V) (d : β) : (ptD L x v d).length ≤ L.length + 1 := by
  unfold ptD
  split
  · rw [List.length_map]; omega
  · rw [List.length_append]; exact Nat.le_refl _
theorem diK_len (L : DI β) : (diK L).length = L.length := List.length_map ..
/-- no key twice -/
def NdI (L : DI β) : Prop := (L.map (·.1)).Nodup
theorem lkD_mem {L : DI β} {x : Int} : x ∈ L.map (·.1) ↔ lkD L x ≠ none := by
  induction L with
  | nil => simp [lkD]
  | cons t L ih =>
    rw [List.map_cons, List.mem_cons, ih, lkD_cons]
    by_cases e : t.1 = x
    · rw [if_pos e]; simp [e]
    · rw [if_neg e]
      constructor
      · rintro (z | z)
        · exact absurd z.symm e
        · exact z
      · exact .inr
theorem NdI.put {L : DI β} {x : Int} {v : V} {d : β} (h : NdI L) : NdI (ptD L x v d) := by
  unfold NdI ptD at *
  by_cases a : (L.any fun t => decide (t.1 = x)) = true
  · rw [if_pos a, List.map_map]
    have e : ((fun t : Int × V × β => t.1) ∘ fun t => if t.1 = x then (t.1, v, d) else t) = fun t => t.1 := by
      funext t
      show (if t.1 = x then (t.1, v, d) else t).1 = t.1
      split <;> rfl
    rw [e]; exact h
  · rw [if_neg a, List.map_append, List.nodup_append]
    refine ⟨h, by simp, fun y hy z hz e => a ?_⟩
    rw [List.map_cons, List.map_nil, List.mem_singleton] at hz
    rw [lkD_any]
    cases q : lkD L x with
    | some _ => rfl
    | none =>
      rw [e, hz] at hy
      exact absurd q (lkD_mem.mp hy)
end
/-! ### a walk by blocks, its methods -/
def sdB (b : Bool) : Int := if b then 1 else -1
theorem sdB_way {wa : Int} (h : wa = -1 ∨ wa = 1) : sdB (decide (-wa = 1)) = -wa := by
  rcases h with rfl | rfl <;> decide
/-- (0,) times a number from 1 on -/
def rRepA (K : PySem.W.Frag) : R2 := fun x y H Q => ∃ l xs k, x = .ref l ∧ y = .int k ∧ SqT K H l xs ∧ xs ≠ [] ∧ 1 ≤ k ∧ k ≤ 1000 ∧ xs.length ≤ 1000 ∧ (k = 1 → Q (.ref l) H) ∧ (2 ≤ k → ∀ p, H p = none → Q (.ref p) (upd H p (.tup (List.replicate k.toNat xs).flatten)))
theorem op_repA {X : Cx} : OpR X (binaryOp .Mult) (rRepA X.K) := by
  intro pins s σ H x y v u Q I rx ry h
  obtain ⟨l, xs, k, e1, e2, hT, hne, k1, k2, hl, q1, q2⟩ := h
  by_cases c : k = 1
  · exact op_rep01 pins s σ H x y v u Q I rx ry ⟨l, k, xs, e1, e2, hT, hne, .inl ⟨c, q1 c⟩⟩
  · exact op_repT pins s σ H x y v u Q I rx ry ⟨l, k, xs, e1, e2, hT, hne, by omega, k2, hl, q2 (by omega)⟩
theorem flat_one (k : Nat) : (List.replicate k [V.int 0]).flatten = (List.replicate k (0 : Int)).map V.int := by
  induction k with
  | zero => rfl
  | succ k ih => rw [List.replicate_succ, List.replicate_succ, List.flatten_cons, List.map_cons, ih]; rfl
theorem ints_of {H : Hp} : ∀ {xs : List V} {s : List Int}, IsAll H xs s → xs = s.map V.int
  | [], [], _ => rfl
  | [], _ :: _, h => by have := h.1; simp at this
  | _ :: _, [], h => by have := h.1; simp at this
  | x :: xs, i :: s, h => by
    have e : x = V.int i := h.2 0 x i rfl rfl
    rw [List.map_cons, e, ints_of (xs := xs) (s := s) ⟨by have := h.1; simpa using this, fun j y z p q => h.2 (j + 1) y z (by simpa using p) (by simpa using q)⟩]
structure WkAt (C : Addr) (F H : Hp) (o d : Addr) (k : Nat) (L : DI (Tup Int)) (W : Wk) : Prop where
  ob : ∃ dx, H o = some (.ins C dx (Walk_F (.int k) (.ref d) (.int W.at_) (.int W.row) (.int (sdB W.far)) (.int W.st)))
  dd : H d = some (.dK (diK L))
  is : DiIs F L
  nd : NdI L
  bl : ∀ a, W.B a = ((lkD L a).map Tup.l).getD (List.replicate k 0)
section
variable {C : Addr} {F H F' H' : Hp} {o d : Addr} {k : Nat} {L : DI (Tup Int)} {W : Wk} {mu : Addr → Prop}
theorem WkAt.ne (h : WkAt C F H o d k L W) : o ≠ d := by
  obtain ⟨dx, e⟩ := h.ob
  exact ne_of e h.dd (by intro z; cases z)
theorem WkAt.gr (h : WkAt C F H o d k L W) (a : Gr mu F H F' H') (ho : ¬ mu o) (hd : ¬ mu d) : WkAt C F' H' o d k L W := by
  obtain ⟨dx, e⟩ := h.ob
  exact ⟨⟨dx, a.fr _ _ e ho⟩, a.fr _ _ h.dd hd, h.is.up a.ff, h.nd, h.bl⟩
end
def muW (o d : Addr) : Addr → Prop := fun c => c = o ∨ c = d
def sp_Walk_init (C : Addr) : Sp := fun vs H Q _ => ∃ (F : Hp) (o dx : Addr) (k : Nat), vs = [.ref o, .int k] ∧ H o = some (.ins C dx []) ∧ F o = none ∧ Same F H ∧
  ∀ (d : Addr) (H' : Hp), H d = none → Gr (muP o) F H F H' → WkAt C F H' o d k [] (W0 k) → Q .non H'
theorem ok_Walk_init (t : Tx K mg) : FnOk P w K mg base CX0 1 t.a_Walk_init t.fd_Walk_init ["self", "long"] (sp_Walk_init t.C_Walk) := by
  refine t.F_Walk_init.ok sc_Walk_init (fun vs H Q E h => ?_) (fun cdv A outer s H vs Q E hr h => ?_)
  · obtain ⟨F, o, dx, k, rfl, _⟩ := h
    rfl
  · obtain ⟨F, o, dx, k, rfl, ho, fo, sF, q⟩ := h
    refine ⟨_, (pss_cons (ps_fld (pv 0) (pv 1) rfl)
      (pss_cons (ps_fld (pv 0) pe_dnewK rfl)
      (pss_cons (ps_fld (pv 0) pe_int rfl)
      (pss_cons (ps_fld (pv 0) pe_int rfl)
      (pss_cons (ps_fld (pv 0) (pe_un un_neg pe_int) rfl)
      (pss_one (ps_fld (pv 0) pe_int rfl))))))), ?_⟩
    have g0 : Gr (muP o) F H F H := Gr.refl sF
    refine ⟨_, rfl, _, rfl, o, t.C_Walk, dx, [], rfl, ho, t.cl_Walk, t.nA_Walk_long, by show 0 < 1000; decide, ?_⟩
    have g1 := g0.set (o := .ins t.C_Walk dx [("long", .int k)]) fo (.inr rfl)
    rw [Walk_mk0]
    refine fun d nd => ?_
    have od : o ≠ d := ne_of_none upd_same nd
    have g2 := g1.own (o := .dK (diK ([] : DI (Tup Int)))) nd
    have ho2 := ln (u := .dK (diK ([] : DI (Tup Int)))) nd (upd_same (H := H) (a := o) (o := .ins t.C_Walk dx [("long", .int k)]))
    refine ⟨_, rfl, o, t.C_Walk, dx, _, rfl, ho2, t.cl_Walk, t.nA_Walk_blocks, by show 1 < 1000; decide, ?_⟩
    rw [Walk_mk1]
    have g3 := g2.set (o := .ins t.C_Walk dx [("long", .int k), ("blocks", .ref d)]) fo (.inr rfl)
    refine ⟨_, rfl, o, t.C_Walk, dx, _, rfl, upd_same, t.cl_Walk, t.nA_Walk_at, by show 2 < 1000; decide, ?_⟩
    rw [Walk_mk2]
    have g4 := g3.set (o := .ins t.C_Walk dx [("long", .int k), ("blocks", .ref d), ("at", .int 0)]) fo (.inr rfl)
    refine ⟨_, rfl, o, t.C_Walk, dx, _, rfl, upd_same, t.cl_Walk, t.nA_Walk_row, by show 3 < 1000; decide, ?_⟩
    rw [Walk_mk3]
    have g5 := g4.set (o := .ins t.C_Walk dx [("long", .int k), ("blocks", .ref d), ("at", .int 0), ("row", .int 0)]) fo (.inr rfl)
    refine ⟨_, rfl, _, rfl, o, t.C_Walk, dx, _, rfl, upd_same, t.cl_Walk, t.nA_Walk_side, by show 4 < 1000; decide, ?_⟩
    rw [Walk_mk4]
    have g6 := g5.set (o := .ins t.C_Walk dx [("long", .int k), ("blocks", .ref d), ("at", .int 0), ("row", .int 0), ("side", .int (-1))]) fo (.inr rfl)
    refine ⟨_, rfl, o, t.C_Walk, dx, _, rfl, upd_same, t.cl_Walk, t.nA_Walk_steps, by show 5 < 1000; decide, ?_⟩
    rw [Walk_mk5]
    have g7 := g6.set (o := .ins t.C_Walk dx [("long", .int k), ("blocks", .ref d), ("at", .int 0), ("row", .int 0), ("side", .int (-1)), ("steps", .int 0)]) fo (.inr rfl)
    refine q d _ (by
      have n2 := nd
      by_cases e : d = o
      · exact absurd e.symm od
      · rw [upd_ne e] at n2; exact n2) g7 ⟨⟨dx, upd_same⟩, ?_, fun z m => (nomatch m), List.nodup_nil, fun a => rfl⟩
    rw [upd_ne od.symm, upd_ne od.symm, upd_ne od.symm, upd_ne od.symm, upd_ne od.symm, upd_same]
    rfl
def sp_Walk_block (C : Addr) : Sp := fun vs H Q _ => ∃ (F : Hp) (o d : Addr) (k : Nat) (L : DI (Tup Int)) (W : Wk), vs = [.ref o] ∧ Same F H ∧ WkAt C F H o d k L W ∧ 1 ≤ k ∧ k ≤ 10 ∧
  ∀ (F' H' : Hp) (b : Addr), Gr mu0 F H F' H' → F' b = some (.tup ((W.B W.at_).map V.int)) → Q (.ref b) H'
theorem ok_Walk_block (t : Tx K mg) : FnOk P w K mg base CX0 1 t.a_Walk_block t.fd_Walk_block ["self"] (sp_Walk_block t.C_Walk) := by
  refine t.F_Walk_block.ok sc_Walk_block (fun vs H Q E h => ?_) (fun cdv A outer s H vs Q E hr h => ?_)
  · obtain ⟨F, o, d, k, L, W, rfl, _⟩ := h
    rfl
  · obtain ⟨F, o, d, k, L, W, rfl, sF, hW, k1, k10, q⟩ := h
    refine ⟨_, (pss_one (ps_ret (pe_dget2 (hu_of hr) (pe_fld (pv 0) rfl) (pe_fld (pv 0) rfl) (pe_op op_repA (pe_tup (pa_cons pe_int pa_nil)) (pe_fld (pv 0) rfl)) ⟨by rfl, by rfl, by rfl, by rfl⟩))), ?_⟩
    obtain ⟨dx, ho⟩ := hW.ob
    have g0 : Gr mu0 F H F H := Gr.refl sF
    have hb := hW.bl W.at_
    refine ⟨_, rfl, o, t.C_Walk, dx, _, _, rfl, ho, t.cl_Walk, t.nA_Walk_blocks, Walk_get_blocks, d, rfl, .inl ⟨_, .inl hW.dd⟩, _, rfl, o, t.C_Walk, dx, _, _, rfl, ho, t.cl_Walk, t.nA_Walk_at, Walk_get_at, ?_⟩
    refine ⟨one_le, fun p np => ⟨_, rfl, o, t.C_Walk, dx, _, _, rfl, ln np ho, t.cl_Walk, t.nA_Walk_long, Walk_get_long, p, [.int 0], k, rfl, rfl, SqT.of upd_same, (fun z => nomatch z), by omega, by omega, by decide, fun e => ?_, fun _ r nr => ?_⟩⟩
    · have g1 := g0.new (o := .tup [.int 0]) np
      refine ⟨_, DGet.k (k := Sum.inl W.at_) (ln np hW.dd), ?_⟩
      cases el : lkD L W.at_ with
      | none =>
        rw [di_none el]
        rw [el] at hb
        refine q _ _ p g1 ?_
        rw [hb, show k = 1 by omega]
        exact upd_same
      | some s =>
        obtain ⟨v, h1, h2⟩ := di_get el
        rw [h1]
        rw [el] at hb
        obtain ⟨a, xs, e3, h3, h4⟩ := hW.is _ h2
        rw [show v = V.ref a from e3]
        refine q _ _ a g1 (g1.ff _ _ ?_)
        rw [h3, hb, ints_of h4]; rfl
    · have g1 := (g0.own (o := .tup [.int 0]) np).new (o := .tup (List.replicate (k : Int).toNat [V.int 0]).flatten) nr
      refine ⟨_, DGet.k (k := Sum.inl W.at_) (ln nr (ln np hW.dd)), ?_⟩
      cases el : lkD L W.at_ with
      | none =>
        rw [di_none el]
        rw [el] at hb
        refine q _ _ r g1 ?_
        rw [upd_same, hb, Int.toNat_natCast, flat_one]; rfl
      | some s =>
        obtain ⟨v, h1, h2⟩ := di_get el
        rw [h1]
        rw [el] at hb
        obtain ⟨a, xs, e3, h3, h4⟩ := hW.is _ h2
        rw [show v = V.ref a from e3]
        refine q _ _ a g1 (g1.ff _ _ ?_)
        rw [h3, hb, ints_of h4]; rfl
def sp_Walk_place (C : Addr) : Sp := fun vs H Q _ => ∃ (F : Hp) (o d : Addr) (k : Nat) (L : DI (Tup Int)) (W : Wk), vs = [.ref o] ∧ WkAt C F H o d k L W ∧ k ≤ 10 ∧ Q (.int (plB k W)) H
theorem ok_Walk_place (t : Tx K mg) : FnOk P w K mg base CX0 1 t.a_Walk_place t.fd_Walk_place ["self"] (sp_Walk_place t.C_Walk) := by
  refine t.F_Walk_place.ok sc_Walk_place (fun vs H Q E h => ?_) (fun cdv A outer s H vs Q E hr h => ?_)
  · obtain ⟨F, o, d, k, L, W, rfl, _⟩ := h
    rfl
  · obtain ⟨F, o, d, k, L, W, rfl, hW, k10, q⟩ := h
    refine ⟨_, (pss_cons (ps_if (pt_cmpR op_eq (pe_fld (pv 0) rfl) (pe_un un_neg pe_int) (nomark _)) (pss_one (ps_ret (pe_op op_mul (pe_fld (pv 0) rfl) (pe_fld (pv 0) rfl)))) pss_nil)
      (pss_one (ps_ret (pe_op op_sub (pe_op op_add (pe_op op_mul (pe_fld (pv 0) rfl) (pe_fld (pv 0) rfl)) (pe_fld (pv 0) rfl)) pe_int)))), ?_⟩
    obtain ⟨dx, ho⟩ := hW.ob
    refine ⟨_, rfl, o, t.C_Walk, dx, _, _, rfl, ho, t.cl_Walk, t.nA_Walk_side, Walk_get_side, _, rfl, rfl, _, rfl, ?_⟩
    rw [int_eq2]
    unfold plB at q
    cases hf : W.far with
    | false =>
      rw [hf] at q
      have q : Q (.int (W.at_ * k + 0)) H := q
      rw [Int.add_zero] at q
      exact ifT (by decide) ⟨_, rfl, o, t.C_Walk, dx, _, _, rfl, ho, t.cl_Walk, t.nA_Walk_at, Walk_get_at, _, rfl, o, t.C_Walk, dx, _, _, rfl, ho, t.cl_Walk, t.nA_Walk_long, Walk_get_long, _, _, rfl, rfl, .inr ⟨by omega, by omega⟩, q⟩
    | true =>
      rw [hf] at q
      have q : Q (.int (W.at_ * k + ((k : Int) - 1))) H := q
      refine ifF (by decide) ⟨_, rfl, o, t.C_Walk, dx, _, _, rfl, ho, t.cl_Walk, t.nA_Walk_at, Walk_get_at, _, rfl, o, t.C_Walk, dx, _, _, rfl, ho, t.cl_Walk, t.nA_Walk_long, Walk_get_long, _, _, rfl, rfl, .inr ⟨by omega, by omega⟩, _, rfl, o, t.C_Walk, dx, _, _, rfl, ho, t.cl_Walk, t.nA_Walk_long, Walk_get_long, _, _, rfl, rfl, _, _, rfl, rfl, ?_⟩
      rw [show W.at_ * (k : Int) + ((k : Int) - 1) = W.at_ * (k : Int) + (k : Int) - 1 by omega] at q
      exact q
def sp_Walk_out (C : Addr) : Sp := fun vs H Q _ => ∃ (F : Hp) (o d p b : Addr) (k : Nat) (L : DI (Tup Int)) (W : Wk) (wd : TStr) (s : List Int) (r wa m : Int), vs = [.ref o, .ref p] ∧ Same F H ∧ WkAt C F H o d k L W ∧ F o = none ∧ F d = none ∧ L.length ≤ 5000 ∧ (wa = -1 ∨ wa = 1) ∧
  F p = some (.tup [.str wd.x, .ref b, .int r, .int wa, .int m]) ∧ F b = some (.tup (s.map V.int)) ∧ ∀ H' : Hp, Gr (muW o d) F H F H' → WkAt C F H' o d k (ptD L W.at_ (.ref b) ⟨s⟩) (W.out s r wa m) → Q .non H'
theorem ok_Walk_out (t : Tx K mg) : FnOk P w K mg base CX0 1 t.a_Walk_out t.fd_Walk_out ["self", "found"] (sp_Walk_out t.C_Walk) := by
  refine t.F_Walk_out.ok sc_Walk_out (fun vs H Q E h => ?_) (fun cdv A outer s H vs Q E hr h => ?_)
  · obtain ⟨F, o, d, p, b, k, L, W, wd, s, r, wa, m, rfl, _⟩ := h
    rfl
  · obtain ⟨F, o, d, p, b, k, L, W, wd, s, r, wa, m, rfl, sF, hW, fo, fd, hl, hw, hp, hb, q⟩ := h
    refine ⟨_, (pss_cons (ps_asg (pv 1) (pg_tup rfl (pgs_cons (pg_name (i := 2) sc_Walk_out.nd rfl (by first | exact Or.inl rfl | exact Or.inr rfl)) (pgs_cons (pg_name (i := 3) sc_Walk_out.nd rfl (by first | exact Or.inl rfl | exact Or.inr rfl)) (pgs_cons (pg_name (i := 4) sc_Walk_out.nd rfl (by first | exact Or.inl rfl | exact Or.inr rfl)) (pgs_cons (pg_name (i := 5) sc_Walk_out.nd rfl (by first | exact Or.inl rfl | exact Or.inr rfl)) (pgs_cons (pg_name (i := 6) sc_Walk_out.nd rfl (by first | exact Or.inl rfl | exact Or.inr rfl)) pgs_nil)))))))
      (pss_cons (ps_dput (hu_of hr) (pe_fld (pv 0) rfl) (pe_fld (pv 0) rfl) (pv 3) rfl)
      (pss_cons (ps_fldaug (pv 0) (pv 5) in_add)
      (pss_cons (ps_fld (pv 0) (pv 4) rfl)
      (pss_cons (ps_fld (pv 0) (pe_un un_neg (pv 5)) rfl)
      (pss_one (ps_fldaug (pv 0) (pv 6) in_add))))))), ?_⟩
    obtain ⟨dx, ho⟩ := hW.ob
    have od := hW.ne
    have g0 : Gr (muW o d) F H F H := Gr.refl sF
    refine ⟨_, rfl, p, _, rfl, SqT.of (sF _ _ hp), rfl, _, _, rfl, _, _, rfl, _, _, rfl, _, _, rfl, _, _, rfl, rfl, ?_⟩
    refine ⟨_, rfl, _, rfl, o, t.C_Walk, dx, _, _, rfl, ho, t.cl_Walk, t.nA_Walk_blocks, Walk_get_blocks, _, rfl, o, t.C_Walk, dx, _, _, rfl, ho, t.cl_Walk, t.nA_Walk_at, Walk_get_at, d, _, rfl, DPut.k (k := Sum.inl W.at_) hW.dd (by rw [diK_len]; exact lt_size (by omega)), ?_⟩
    rw [di_put L W.at_ (.ref b) (⟨s⟩ : Tup Int)]
    have g1 := g0.set (o := .dK (diK (ptD L W.at_ (.ref b) (⟨s⟩ : Tup Int)))) fd (.inr (.inr rfl))
    have ho1 := (upd_ne (H := H) (o := .dK (diK (ptD L W.at_ (.ref b) (⟨s⟩ : Tup Int)))) od).trans ho
    refine ⟨_, rfl, o, t.C_Walk, dx, _, _, rfl, ho1, t.cl_Walk, t.nA_Walk_at, Walk_get_at, _, rfl, _, _, rfl, rfl, _, _, ho1, Walk_few, ?_⟩
    rw [Walk_put_at]
    have g2 := g1.set (o := .ins t.C_Walk dx (Walk_F (.int k) (.ref d) (.int (W.at_ + wa)) (.int W.row) (.int (sdB W.far)) (.int W.st))) fo (.inr (.inl rfl))
    refine ⟨_, rfl, _, rfl, o, t.C_Walk, dx, _, rfl, upd_same, t.cl_Walk, t.nA_Walk_row, Walk_few, ?_⟩
    rw [Walk_put_row]
    have g3 := g2.set (o := .ins t.C_Walk dx (Walk_F (.int k) (.ref d) (.int (W.at_ + wa)) (.int r) (.int (sdB W.far)) (.int W.st))) fo (.inr (.inl rfl))
    refine ⟨_, rfl, _, rfl, _, rfl, o, t.C_Walk, dx, _, rfl, upd_same, t.cl_Walk, t.nA_Walk_side, Walk_few, ?_⟩
    rw [Walk_put_side]
    have g4 := g3.set (o := .ins t.C_Walk dx (Walk_F (.int k) (.ref d) (.int (W.at_ + wa)) (.int r) (.int (-wa)) (.int W.st))) fo (.inr (.inl rfl))
    refine ⟨_, rfl, o, t.C_Walk, dx, _, _, rfl, upd_same, t.cl_Walk, t.nA_Walk_steps, Walk_get_steps, _, rfl, _, _, rfl, rfl, _, _, upd_same, Walk_few, ?_⟩
    rw [Walk_put_steps]
    have g5 := g4.set (o := .ins t.C_Walk dx (Walk_F (.int k) (.ref d) (.int (W.at_ + wa)) (.int r) (.int (-wa)) (.int (W.st + m)))) fo (.inr (.inl rfl))
    refine q _ g5 ⟨⟨dx, ?_⟩, ?_, hW.is.put ⟨b, _, rfl, hb, all_ints s⟩, hW.nd.put, fun a => ?_⟩
    · show _ = some (HO.ins t.C_Walk dx (Walk_F (.int k) (.ref d) (.int (W.at_ + wa)) (.int r) (.int (sdB (decide (-wa = 1)))) (.int (W.st + m))))
      rw [sdB_way hw]; exact upd_same
    · rw [upd_ne od.symm, upd_ne od.symm, upd_ne od.symm, upd_ne od.symm, upd_same]
    · show updB W.B W.at_ s a = _
      rw [lkD_put]
      unfold updB
      by_cases e : a = W.at_
      · rw [if_pos e, if_pos e]; rfl
      · rw [if_neg e, if_neg e]; exact hW.bl a
def sp_Walk_strip (C : Addr) : Sp := fun vs H Q _ => ∃ (F : Hp) (o d : Addr) (k : Nat) (L : DI (Tup Int)) (W : Wk), vs = [.ref o] ∧ Same F H ∧ WkAt C F H o d k L W ∧ 1 ≤ k ∧ k ≤ 10 ∧ L.length ≤ 5000 ∧ (∀ a, (W.B a).length = k) ∧
  ∀ (F' H' : Hp) (l : Addr) (xs : List V) (z : List PI), Gr mu0 F H F' H' → Ow H F' H' l (.lst xs) → IsAll F' xs z → IsSt z (fB k W.B) → Q (.ref l) H'
theorem lkD_of {β : Type} {L : DI β} {x : Int} (h : x ∈ L.map (·.1)) : ∃ d, lkD L x = some d := by
  cases e : lkD L x with
  | none => exact absurd e (lkD_mem.mp h)
  | some d => exact ⟨d, rfl⟩
theorem piece_take {s : List Int} {base : Int} {j : Nat} {v : Int} (h : s[j]? = some v) : piece base (s.take (j + 1)) = piece base (s.take j) ++ (if v ≠ 0 then [⟨base + j, v⟩] else []) := by
  have l := (List.getElem?_eq_some_iff.mp h).1
  rw [List.take_add_one, h]
  show piece base (s.take j ++ [v]) = _
  rw [piece_snoc, List.length_take, Nat.min_eq_left (by omega)]
theorem stripO_snoc (k : Nat) (B : Int → List Int) (ys : List Int) (a : Int) : stripO k B (ys ++ [a]) = stripO k B ys ++ piece (a * k) (B a) := by
  unfold stripO
  rw [List.flatMap_append]
  congr 1
  show piece (a * k) (B a) ++ [] = _
  rw [List.append_nil]
theorem len_stripO {k : Nat} {B : Int → List Int} (hB : ∀ a, (B a).length = k) : ∀ ys : List Int, (stripO k B ys).length ≤ k * ys.length
  | [] => Nat.zero_le _
  | y :: ys => by
    have ih := len_stripO hB ys
    have lp : ∀ (s : List Int) (b : Int), (piece b s).length ≤ s.length := fun s => by
      induction s with
      | nil => intro b; exact Nat.zero_le _
      | cons x s ih => intro b; rw [piece, List.length_append]; have := ih (b + 1); split <;> simp <;> omega
    have h := lp (B y) (y * k)
    rw [hB] at h
    show (piece (y * k) (B y) ++ stripO k B ys).length ≤ _
    rw [List.length_append, List.length_cons, Nat.mul_add, Nat.mul_one]
    omega
theorem ok_Walk_strip (t : Tx K mg) : FnOk P w K mg base CX0 1 t.a_Walk_strip t.fd_Walk_strip ["self"] (sp_Walk_strip t.C_Walk) := by
  refine t.F_Walk_strip.ok sc_Walk_strip (fun vs H Q E h => ?_) (fun cdv A outer s H vs Q E hr h => ?_)
  · obtain ⟨F, o, d, k, L, W, rfl, _⟩ := h
    rfl
  · obtain ⟨F, o, d, k, L, W, rfl, sF, hW, k1, k10, hL, hB, q⟩ := h
    refine ⟨_, (pss_cons (ps_set (i := 1) sc_Walk_strip.nd rfl (by first | exact Or.inl rfl | exact Or.inr rfl) (pe_lst pa_nil))
      (pss_cons (ps_for PassesOwn.never rfl (pi_list (pe_callB (id := "sorted") (call_sortDI rfl) (by rfl) t.n_sorted (by decide +kernel) (pa_cons (pe_fld (pv 0) rfl) pa_nil))) (pg_name (i := 2) sc_Walk_strip.nd rfl (by first | exact Or.inl rfl | exact Or.inr rfl)) (pss_one (ps_for PassesOwn.never rfl (pi_enT (by rfl) t.n_enumerate (pa_cons (pe_dget (hu_of hr) (pe_fld (pv 0) rfl) (pv 2) (fun _ _ => rfl)) pa_nil)) (pg_tup rfl (pgs_cons (pg_name (i := 3) sc_Walk_strip.nd rfl (by first | exact Or.inl rfl | exact Or.inr rfl)) (pgs_cons (pg_name (i := 4) sc_Walk_strip.nd rfl (by first | exact Or.inl rfl | exact Or.inr rfl)) pgs_nil))) (pss_one (ps_if (pt_cmpR op_ne (pv 4) pe_int (nomark _)) (pss_one (ps_expr (pe_bm PySem.F.plainAttrs_list PySem.F.slot_list_append PySem.F.type_list_append mt_append (pv 1) (pa_cons (pe_tup (pa_cons (pe_op op_add (pe_op op_mul (pv 2) (pe_fld (pv 0) rfl)) (pv 3)) (pa_cons (pv 4) pa_nil))) pa_nil)))) pss_nil)))))
      (pss_one (ps_ret (pv 1))))), ?_⟩
    obtain ⟨dx, ho⟩ := hW.ob
    have g0 : Gr mu0 F H F H := Gr.refl sF
    refine ⟨nil_le, fun D nD => ?_⟩
    have g1 := g0.own (o := .lst []) nD
    have w1 : Ow H F (upd H D (.lst [])) D (.lst []) := Ow.mk1 g0 nD
    have W1 := hW.gr ((Gr.refl (mu := mu0) sF).own (o := .lst []) nD) (fun z => z) (fun z => z)
    generalize upd H D (.lst []) = H1 at g1 w1 W1 ⊢
    obtain ⟨dx, ho1⟩ := W1.ob
    refine ⟨_, rfl, o, t.C_Walk, dx, _, _, rfl, ho1, t.cl_Walk, t.nA_Walk_blocks, Walk_get_blocks, ?_⟩
    unfold rSortDI
    refine ⟨d, diK L, L.map (·.1), rfl, .inl W1.dd, by unfold diK; rw [List.map_map, List.map_map]; rfl, fun ys p hperm hsort np => ?_⟩
    have g2 := g1.own (o := .lst (ys.map V.int)) np
    have w2 := w1.own (u := .lst (ys.map V.int)) np
    have W2 := W1.gr ((Gr.refl (mu := mu0) g1.fh).own (o := .lst (ys.map V.int)) np) (fun z => z) (fun z => z)
    have Dp' : D ≠ p := w1.ne np
    have hp2 : (upd H1 p (.lst (ys.map V.int))) p = some (.lst (ys.map V.int)) := upd_same
    generalize upd H1 p (.lst (ys.map V.int)) = H2 at g2 w2 W2 hp2 ⊢
    have ylen : ys.length ≤ 5000 := by rw [hperm.length_eq, List.length_map]; exact hL
    have ynd : ys.Nodup := hperm.nodup_iff.mpr W1.nd
    have yst : ys.Pairwise (· < ·) := by
      have z : ys.Pairwise (fun a b => a ≤ b ∧ a ≠ b) := List.Pairwise.and hsort ynd
      exact z.imp fun {a b} h => by omega
    refine ⟨p, rfl, ⟨_, SqL.of hp2⟩, for_list (K := K) (a := p) (xs := ys.map V.int) (fun i σ G => ∃ (F1 : Hp) (xs : List V) (v2 v3 v4 : Option V), σ = [some (.ref o), some (.ref D), v2, v3, v4] ∧ Gr mu0 F H F1 G ∧ WkAt t.C_Walk F1 G o d k L W ∧ Ow H F1 G D (.lst xs) ∧ IsAll F1 xs (stripO k W.B (ys.take i)) ∧ G p = some (.lst (ys.map V.int)) ∧ F1 p = none)
      ⟨F, [], none, none, none, rfl, g2, W2, w2, All2.nil, hp2, g1.fh.free np⟩ (fun i σ G _ ⟨F1, xs, v2, v3, v4, _, _, _, _, _, hp, _⟩ => SqL.of hp) ?_ ?_⟩
    · rintro i x σ G hi ⟨F1, xs, v2, v3, v4, rfl, g, Wg, w, al, hp, fp⟩
      rw [List.getElem?_map] at hi
      obtain ⟨a, hy, rfl⟩ := Option.map_eq_some_iff.mp hi
      have il : i < ys.length := (List.getElem?_eq_some_iff.mp hy).1
      obtain ⟨dx, ho⟩ := Wg.ob
      obtain ⟨s, el⟩ := lkD_of (L := L) (x := a) (hperm.mem_iff.mp (List.mem_of_getElem? hy))
      obtain ⟨v, h1, h2⟩ := di_get el
      obtain ⟨ra, es, e3, h3, h4⟩ := Wg.is _ h2
      have e3 : v = .ref ra := e3
      subst e3
      have es' := ints_of h4
      have eB : W.B a = s.l := by rw [Wg.bl, el]; rfl
      subst es'
      have ls : s.l.length = k := by rw [← eB]; exact hB a
      refine ⟨_, rfl, o, t.C_Walk, dx, _, _, rfl, ho, t.cl_Walk, t.nA_Walk_blocks, Walk_get_blocks, _, rfl, d, _, rfl, (by have z := DGet.k (k := Sum.inl a) Wg.dd; rw [h1] at z; exact z), ra, _, rfl, SqT.of (g.fh _ _ h3), ?_⟩
      refine for_it (walk_enT (K := K) (a := ra) (xs := s.l.map V.int)) (fun j σ G => ∃ (F2 : Hp) (xs2 : List V) (v3 v4 : Option V), σ = [some (.ref o), some (.ref D), some (.int a), v3, v4] ∧ Gr mu0 F H F2 G ∧ Same F1 F2 ∧ WkAt t.C_Walk F2 G o d k L W ∧ Ow H F2 G D (.lst xs2) ∧ IsAll F2 xs2 (stripO k W.B (ys.take i) ++ piece (a * k) (s.l.take j)) ∧ G p = some (.lst (ys.map V.int)) ∧ F2 p = none)
        ⟨F1, xs, _, _, rfl, g, Same.refl F1, Wg, w, by rw [List.take_zero]; show IsAll F1 xs (_ ++ []); rw [List.append_nil]; exact al, hp, fp⟩ (fun j σ G _ ⟨F2, xs2, v3, v4, _, g2, s2, _⟩ => SqT.of (g2.fh _ _ (s2 _ _ h3))) ?_ ?_
      · rintro j x σ G G' hj ⟨F2, xs2, v3, v4, rfl, g2, s2, Wg2, w2, al2, hp2, fp2⟩ ⟨T, x1, x2, rfl, nT, rfl, hx1, hx2⟩
        rw [List.length_map] at hj
        have hx2 : (s.l.map V.int)[j]? = some x2 := hx2
        rw [List.getElem?_map] at hx2
        obtain ⟨u, hu, rfl⟩ := Option.map_eq_some_iff.mp hx2
        cases hx1
        have g3 := g2.own (o := .tup [.int j, .int u]) nT
        have w3 := w2.own (u := .tup [.int j, .int u]) nT
        have W3 := Wg2.gr ((Gr.refl (mu := mu0) g2.fh).own (o := .tup [.int j, .int u]) nT) (fun z => z) (fun z => z)
        have hp3 := ln (u := .tup [.int j, .int u]) nT hp2
        have hT : (upd G T (.tup [.int j, .int u])) T = some (.tup [.int j, .int u]) := upd_same
        generalize upd G T (.tup [.int j, .int u]) = G3 at g3 w3 W3 hp3 hT ⊢
        refine ⟨T, _, rfl, SqT.of hT, rfl, _, _, rfl, _, _, rfl, rfl, _, rfl, rfl, _, rfl, ?_⟩
        have len2 : xs2.length ≤ 60000 := by
          have e1 := len_stripO hB (ys.take i)
          have e2 : (piece (a * k) (s.l.take j)).length ≤ k := by
            have z := len_stripO (k := k) (B := fun _ => s.l) (fun _ => ls) [a]
            have z2 : (piece (a * k) (s.l.take j)).length ≤ (piece (a * k) s.l).length := by
              rw [← List.take_append_drop j s.l]
              have : ∀ (x y : List Int) (b : Int), (piece b x).length ≤ (piece b (x ++ y)).length := fun x y => by
                induction x with
                | nil => intro b; exact Nat.zero_le _
                | cons c x ih => intro b; rw [List.cons_append, piece, piece, List.length_append, List.length_append]; have := ih (b + 1); omega
              rw [List.take_append_drop]
              have := this (s.l.take j) (s.l.drop j) (a * k)
              rw [List.take_append_drop] at this
              exact this
            have z3 : (stripO k (fun _ => s.l) [a]).length = (piece (a * k) s.l).length := by
              show (piece (a * k) s.l ++ []).length = _
              rw [List.append_nil]
            rw [z3] at z
            simp only [List.length_cons, List.length_nil, Nat.zero_add, Nat.mul_one] at z
            omega
          rw [List.length_take] at e1
          have e3 : k * min i ys.length ≤ 10 * 5000 := Nat.mul_le_mul k10 (by omega)
          have := al2.1
          rw [List.length_append] at this
          omega
        by_cases uz : u = 0
        · refine ifF (by rw [uz]; rfl) ⟨F2, xs2, _, _, rfl, g3, s2, W3, w3, ?_, hp3, fp2⟩
          rw [piece_take hu, if_neg (by omega), List.append_nil]
          exact al2
        · refine ifT (by
            show (!decide (V.int u = V.int 0)) = true
            rw [int_eq2, decide_eq_false uz]; rfl) ?_
          obtain ⟨dx, ho3⟩ := W3.ob
          refine ⟨_, rfl, .inl ⟨rfl, _, SqL.of w3.h⟩, _, rfl, _, rfl, o, t.C_Walk, dx, _, _, rfl, ho3, t.cl_Walk, t.nA_Walk_long, Walk_get_long, _, _, rfl, rfl, .inr ⟨by omega, by omega⟩, _, rfl, _, _, rfl, rfl, _, rfl, two_le, fun y ny => ⟨D, xs2, _, rfl, rfl, ln ny w3.h, lt_size (by omega), ?_⟩⟩
          have g4 := g3.new (o := .tup [.int (a * k + j), .int u]) ny
          have w4 := w3.new (u := .tup [.int (a * k + j), .int u]) ny
          have W4 := W3.gr ((Gr.refl (mu := mu0) g3.fh).new (o := .tup [.int (a * k + j), .int u]) ny) (fun z => z) (fun z => z)
          have s4 : Same F2 (upd F2 y (.tup [.int (a * k + j), .int u])) := sm_new (Same.refl F2) (g3.fh.free ny)
          have hp4 := ln (u := .tup [.int (a * k + j), .int u]) ny hp3
          have fp4 : (upd F2 y (.tup [.int (a * k + j), .int u])) p = none := by
            rw [upd_ne (ne_of_none hp3 ny)]; exact fp2
          have iy : Is (upd F2 y (.tup [.int (a * k + j), .int u])) (.ref y) (⟨a * k + j, u⟩ : PI) := ⟨y, _, _, rfl, upd_same, rfl, rfl⟩
          have D1 : D ≠ o := fun e => by have := w4.n; rw [e] at this; obtain ⟨dx, hh⟩ := hW.ob; rw [hh] at this; cases this
          have D2 : D ≠ d := fun e => by have := w4.n; rw [e] at this; rw [hW.dd] at this; cases this
          refine ⟨_, xs2 ++ [.ref y], _, _, rfl, g4.set w4.f (.inl w4.n), fun c o h => s4 c o (s2 c o h), ?_, w4.set, ?_, by rw [upd_ne Dp'.symm]; exact hp4, fp4⟩
          · obtain ⟨dx, e⟩ := W4.ob
            exact ⟨⟨dx, by rw [upd_ne D1.symm]; exact e⟩, by rw [upd_ne D2.symm]; exact W4.dd, W4.is, W4.nd, W4.bl⟩
          · rw [piece_take hu, if_pos uz, ← List.append_assoc]
            exact (al2.up s4).app (All2.one iy)
      · rintro σ G ⟨F2, xs2, v3, v4, rfl, g2, s2, Wg2, w2, al2, hp2, fp2⟩
        refine ⟨F2, xs2, _, _, _, rfl, g2, Wg2, w2, ?_, hp2, fp2⟩
        rw [List.length_map, List.take_length] at al2
        rw [List.take_add_one, hy]
        show IsAll F2 xs2 (stripO k W.B (ys.take i ++ [a]))
        rw [stripO_snoc, eB]
        exact al2
    · rintro σ G ⟨F1, xs, v2, v3, v4, rfl, g, Wg, w, al, hp, fp⟩
      rw [List.length_map, List.take_length] at al
      refine ⟨_, rfl, q F1 G D xs _ g w al (strip_ok k1 hB yst fun a na v m => ?_)⟩
      rw [hW.bl a] at m
      cases el : lkD L a with
      | none => rw [el] at m; exact (List.mem_replicate.mp m).2
      | some s => exact absurd (hperm.mem_iff.mpr (lkD_mem.mpr (by rw [el]; exact fun z => nomatch z))) na
/-! ### by blocks -/
theorem sdB_dec (b : Bool) : decide (sdB b = 1) = b := by cases b <;> decide
def sp_by_blocks : Sp := fun vs H Q _ => ∃ (F : Hp) (m : V) (M : Mach) (R S k n : Nat), vs = [m, .int k, .int n] ∧ Same F H ∧ Is F m M ∧ MOk M R S ∧ 1 ≤ k ∧ k ≤ 4 ∧ n ≤ 1000 ∧
  ∀ (F' H' : Hp) (v l : Addr) (xs : List V) (z : List PI) (Y : ByR), byB M R S k n (W0 k) = Y → Gr mu0 F H F' H' → F' v = some (.tup [.str Y.w.x, .int Y.st, .int Y.row, .int Y.pl, .ref l]) → Ow H F' H' l (.lst xs) → IsAll F' xs z → IsSt z (fB k Y.B) → Q (.ref v) H'
theorem ok_by_blocks (t : Tx K mg) : FnOk P w K mg base CX0 5 t.a_by_blocks t.fd_by_blocks ["machine", "k", "many"] sp_by_blocks := by
  refine t.F_by_blocks.ok sc_by_blocks (fun vs H Q E h => ?_) (fun cdv A outer s H vs Q E hr h => ?_)
  · obtain ⟨F, m, M, R, S, k, n, rfl, _⟩ := h
    rfl
  · obtain ⟨F, m, M, R, S, k, n, rfl, sF, hm, hM, k1, k4, hn, q⟩ := h
    refine ⟨_, (pss_cons (ps_expr (pe_call (ok_must_machine t) (hr.mono (by decide)) (by rfl) t.m_must_machine t.F_must_machine.kp t.b_must_machine .nil pass0 (pa_cons (pv 0) pa_nil)))
      (pss_cons (ps_set (i := 3) sc_by_blocks.nd rfl (by first | exact Or.inl rfl | exact Or.inr rfl) (pe_make t.M_Walk (ok_Walk_init t) (hr.mono (by decide)) (by rfl) t.m_Walk t.b_Walk_init .nil pass0 (pa_cons (pv 1) pa_nil)))
      (pss_cons (ps_for PassesOwn.never rfl (pi_range1 (by rfl) t.n_range (pa_cons (pv 2) pa_nil)) (pg_name (i := 4) sc_by_blocks.nd rfl (by first | exact Or.inl rfl | exact Or.inr rfl)) (pss_cons (ps_set (i := 5) sc_by_blocks.nd rfl (by first | exact Or.inl rfl | exact Or.inr rfl) (pe_call (ok_through t) (hr.mono (by decide)) (by rfl) t.m_through t.F_through.kp t.b_through .nil pass0 (pa_cons (pv 0) (pa_cons (pe_meth0 (pv 3) t.cl_Walk t.M_Walk_block (ok_Walk_block t) (hr.mono (by decide)) t.b_Walk_block .nil pass0) (pa_cons (pe_fld (pv 3) rfl) (pa_cons (pe_fld (pv 3) rfl) pa_nil))))))
      (pss_cons (ps_if (pt_cmpR op_eq (pe_ix ix_tup (pv 5) pe_int (fun _ _ => rfl)) pe_str (nomark _)) (pss_one (ps_ret (pe_tup (pa_cons pe_str (pa_cons (pe_fld (pv 3) rfl) (pa_cons (pe_fld (pv 3) rfl) (pa_cons (pe_meth0 (pv 3) t.cl_Walk t.M_Walk_place (ok_Walk_place t) (hr.mono (by decide)) t.b_Walk_place .nil pass0) (pa_cons (pe_meth0 (pv 3) t.cl_Walk t.M_Walk_strip (ok_Walk_strip t) (hr.mono (by decide)) t.b_Walk_strip .nil pass0) pa_nil)))))))) pss_nil)
      (pss_cons (ps_if (pt_cmpR op_eq (pe_ix ix_tup (pv 5) pe_int (fun _ _ => rfl)) pe_str (nomark _)) (pss_cons (ps_asg (pv 5) (pg_tup rfl (pgs_cons (pg_name (i := 6) sc_by_blocks.nd rfl (by first | exact Or.inl rfl | exact Or.inr rfl)) (pgs_cons (pg_name (i := 7) sc_by_blocks.nd rfl (by first | exact Or.inl rfl | exact Or.inr rfl)) (pgs_cons (pg_name (i := 8) sc_by_blocks.nd rfl (by first | exact Or.inl rfl | exact Or.inr rfl)) (pgs_cons (pg_name (i := 9) sc_by_blocks.nd rfl (by first | exact Or.inl rfl | exact Or.inr rfl)) (pgs_cons (pg_name (i := 10) sc_by_blocks.nd rfl (by first | exact Or.inl rfl | exact Or.inr rfl)) pgs_nil)))))))
      (pss_cons (ps_dput (hu_of hr) (pe_fld (pv 3) rfl) (pe_fld (pv 3) rfl) (pv 7) rfl)
      (pss_one (ps_ret (pe_tup (pa_cons pe_str (pa_cons (pe_op op_add (pe_fld (pv 3) rfl) (pv 10)) (pa_cons (pv 8) (pa_cons (pe_op op_add (pe_op op_mul (pe_fld (pv 3) rfl) (pv 1)) (pv 9)) (pa_cons (pe_meth0 (pv 3) t.cl_Walk t.M_Walk_strip (ok_Walk_strip t) (hr.mono (by decide)) t.b_Walk_strip .nil pass0) pa_nil)))))))))) pss_nil)
      (pss_one (ps_expr (pe_meth (pv 3) t.cl_Walk t.M_Walk_out (ok_Walk_out t) (hr.mono (by decide)) t.b_Walk_out .nil pass0 (pa_cons (pv 5) pa_nil))))))))
      (pss_one (ps_ret (pe_tup (pa_cons pe_str (pa_cons (pe_fld (pv 3) rfl) (pa_cons (pe_fld (pv 3) rfl) (pa_cons (pe_meth0 (pv 3) t.cl_Walk t.M_Walk_place (ok_Walk_place t) (hr.mono (by decide)) t.b_Walk_place .nil pass0) (pa_cons (pe_meth0 (pv 3) t.cl_Walk t.M_Walk_strip (ok_Walk_strip t) (hr.mono (by decide)) t.b_Walk_strip .nil pass0) pa_nil))))))))))), ?_⟩
    refine ⟨_, rfl, F, m, M, R, S, rfl, sF, hm, hM, fun H1 g1 => ?_⟩
    have S1 : 1 ≤ S := by have := hM.s2; omega
    refine ⟨_, rfl, fun o do' no ndo neo => ?_⟩
    have g2 := g1.own (o := .own o) ndo
    have no2 : (upd H1 do' (.own o)) o = none := by rw [upd_ne neo.symm]; exact no
    have g3 := g2.own (o := .ins t.C_Walk do' []) no2
    have hno : H o = none := g1.th _ no
    refine ⟨F, o, do', k, rfl, upd_same, g1.fh.free no, g3.fh, fun d H4 nd g4 W4 => ⟨rfl, ?_⟩⟩
    have hnd : H d = none := g3.th _ nd
    have g5 := g3.thn g4 fun c z => .inr (by rw [show c = o from z]; exact hno)
    have fo : F o = none := g1.fh.free no
    have fd : F d = none := g3.fh.free nd
    clear g1 g2 g3 g4 no2
    have kw : ∀ {F1 G F2 G2 : Hp} {L : DI (Tup Int)} {W : Wk}, WkAt t.C_Walk F1 G o d k L W → Gr mu0 F1 G F2 G2 → WkAt t.C_Walk F2 G2 o d k L W := fun W1 g => W1.gr g (fun z => z) (fun z => z)
    have no' : ∀ {F1 G F2 G2 : Hp} {L : DI (Tup Int)} {W : Wk}, WkAt t.C_Walk F1 G o d k L W → Gr mu0 F1 G F2 G2 → F1 o = none → F1 d = none → F2 o = none ∧ F2 d = none := fun W1 g h1 h2 => by
      obtain ⟨dx, e⟩ := W1.ob
      exact ⟨g.pf0 h1 e, g.pf0 h2 W1.dd⟩
    -- what is told at the end of it
    have fin : ∀ {F1 G : Hp} {L : DI (Tup Int)} {W : Wk} (Y : ByR), Gr mu0 F H F1 G → byB M R S k n (W0 k) = Y → Y.B = W.B → ∀ {F4 G4 : Hp} {l : Addr} {xs : List V} {z : List PI}, Gr mu0 F1 G F4 G4 → Ow G F4 G4 l (.lst xs) → IsAll F4 xs z → IsSt z (fB k W.B) →
        ∀ u, G4 u = none → Q (.ref u) (upd G4 u (.tup [.str Y.w.x, .int Y.st, .int Y.row, .int Y.pl, .ref l])) := by
      intro F1 G L W Y g e eB F4 G4 l xs z g4 wl al st u nu
      have g6 := g.trans g4
      have wl' : Ow H F4 G4 l (.lst xs) := ⟨g.th _ wl.n, wl.f, wl.h⟩
      have s6 : Same F4 (upd F4 u (.tup [.str Y.w.x, .int Y.st, .int Y.row, .int Y.pl, .ref l])) := sm_new (Same.refl F4) (g6.fh.free nu)
      exact q _ _ u l xs z Y e (g6.new nu) upd_same (wl'.new nu) (al.up s6) (by rw [eB]; exact st)
    refine ⟨_, rfl, (n : Int), rfl, by omega, by omega, for_range (lo := 0) (n := ((n : Int)).toNat) (fun i σ G => ∃ (F1 : Hp) (L : DI (Tup Int)) (W : Wk) (v4 v5 v6 v7 v8 v9 v10 : Option V), σ = [some m, some (.int k), some (.int n), some (.ref o), v4, v5, v6, v7, v8, v9, v10] ∧
      Gr mu0 F H F1 G ∧ Is F1 m M ∧ WkAt t.C_Walk F1 G o d k L W ∧ OkW R S k W ∧ L.length ≤ i ∧ i ≤ n ∧ byB M R S k n (W0 k) = byB M R S k (n - i) W ∧ F1 o = none ∧ F1 d = none)
      ⟨F, [], W0 k, none, none, none, none, none, none, none, rfl, g5, hm, W4, W0_ok hM.r1 S1, Nat.le_refl 0, by omega, rfl, fo, fd⟩ ?_ ?_⟩
    · rintro i σ G hi ⟨F1, L, W, v4, v5, v6, v7, v8, v9, v10, rfl, g, hmF, Wg, ok, lL, hin, es, fo1, fd1⟩
      have i1 : i < n := by omega
      rw [show n - i = (n - (i + 1)) + 1 by omega] at es
      obtain ⟨dx, ho⟩ := Wg.ob
      refine ⟨_, rfl, _, rfl, o, dx, _, rfl, ho, Walk_no (by decide +kernel) (by decide +kernel) (by decide +kernel) (by decide +kernel) (by decide +kernel) (by decide +kernel), F1, o, d, k, L, W, rfl, g.fh, Wg, k1, by omega, fun F2 G2 b g2 hb => ?_⟩
      have W2 := kw Wg g2
      obtain ⟨dx, ho2⟩ := W2.ob
      have lB : (W.B W.at_).length = k := ok.len _
      refine ⟨_, rfl, o, t.C_Walk, dx, _, _, rfl, ho2, t.cl_Walk, t.nA_Walk_row, Walk_get_row, _, rfl, o, t.C_Walk, dx, _, _, rfl, ho2, t.cl_Walk, t.nA_Walk_side, Walk_get_side, F2, m, b, M, R, S, W.B W.at_, W.row, sdB W.far, rfl, g2.fh, hmF.up g2.ff, hM, hb, ok.s _, by omega, by omega, ok.r0, ok.r1, fun F3 G3 v g3 iv => ?_⟩
      rw [sdB_dec] at iv
      have gg := (g.trans g2).trans g3
      have W3 := kw W2 g3
      obtain ⟨fo2, fd2⟩ := no' Wg g2 fo1 fd1
      obtain ⟨fo3, fd3⟩ := no' W2 g3 fo2 fd2
      have hm3 := (hmF.up g2.ff).up g3.ff
      obtain ⟨dx, ho3⟩ := W3.ob
      cases et : thr M R S (W.B W.at_) W.row W.far with
      | stay =>
        rw [et] at iv
        obtain ⟨p, rfl, hp⟩ := iv
        refine ⟨_, rfl, p, _, _, _, rfl, rfl, SqT.of (gg.fh _ _ hp), atI_nat (j := 0) rfl, rfl, _, rfl, ifT (decide_eq_true rfl) ?_⟩
        rw [byB_stay et] at es
        refine ⟨_, rfl, o, t.C_Walk, dx, _, _, rfl, ho3, t.cl_Walk, t.nA_Walk_steps, Walk_get_steps, _, rfl, o, t.C_Walk, dx, _, _, rfl, ho3, t.cl_Walk, t.nA_Walk_row, Walk_get_row, _, rfl, o, dx, _, rfl, ho3, Walk_no (by decide +kernel) (by decide +kernel) (by decide +kernel) (by decide +kernel) (by decide +kernel) (by decide +kernel), F3, o, d, k, L, W, rfl, W3, by omega, ?_⟩
        refine ⟨_, rfl, o, dx, _, rfl, ho3, Walk_no (by decide +kernel) (by decide +kernel) (by decide +kernel) (by decide +kernel) (by decide +kernel) (by decide +kernel), F3, o, d, k, L, W, rfl, gg.fh, W3, k1, by omega, by omega, ok.len, fun F4 G4 l xs z g4 wl al st => ⟨five_le, fun u nu => ?_⟩⟩
        exact fin (L := L) (W := W) _ gg es rfl g4 wl al st u nu
      | fin wd s r x mm =>
        rw [et] at iv
        obtain ⟨p, b', rfl, hp, hb'⟩ := iv
        obtain ⟨hw, ls, ss, hr', hmm, hx1, hx2⟩ := thr_ok hM (ok.s _) (by rw [lB]; exact k1) ok.r0 ok.r1 et
        have hp3 := SqT.of (K := K) (gg.fh _ _ hp)
        refine ⟨_, rfl, p, _, _, _, rfl, rfl, hp3, atI_nat (j := 0) rfl, rfl, _, rfl, ifF (by rcases hw with rfl | rfl <;> decide +kernel) ?_⟩
        rcases hw with rfl | rfl
        · rw [byB_end et] at es
          refine ⟨_, rfl, p, _, _, _, rfl, rfl, hp3, atI_nat (j := 0) rfl, rfl, _, rfl, ifT (decide_eq_true rfl) ?_⟩
          refine ⟨_, rfl, p, _, rfl, hp3, rfl, _, _, rfl, _, _, rfl, _, _, rfl, _, _, rfl, _, _, rfl, rfl, ?_⟩
          refine ⟨_, rfl, _, rfl, o, t.C_Walk, dx, _, _, rfl, ho3, t.cl_Walk, t.nA_Walk_blocks, Walk_get_blocks, _, rfl, o, t.C_Walk, dx, _, _, rfl, ho3, t.cl_Walk, t.nA_Walk_at, Walk_get_at, d, _, rfl, DPut.k (k := Sum.inl W.at_) W3.dd (by rw [diK_len]; exact lt_size (by omega)), ?_⟩
          rw [di_put L W.at_ (.ref b') (⟨s⟩ : Tup Int)]
          have od := W3.ne
          have g6 := gg.set (o := .dK (diK (ptD L W.at_ (.ref b') (⟨s⟩ : Tup Int)))) fd3 (.inl hnd)
          have ho6 := (upd_ne (H := G3) (o := .dK (diK (ptD L W.at_ (.ref b') (⟨s⟩ : Tup Int)))) od).trans ho3
          have W6 : WkAt t.C_Walk F3 (upd G3 d (.dK (diK (ptD L W.at_ (.ref b') (⟨s⟩ : Tup Int))))) o d k (ptD L W.at_ (.ref b') (⟨s⟩ : Tup Int)) ⟨updB W.B W.at_ s, W.at_, W.row, W.far, W.st⟩ :=
            ⟨⟨dx, ho6⟩, upd_same, W3.is.put ⟨b', _, rfl, hb', all_ints s⟩, W3.nd.put, fun a => by
              show updB W.B W.at_ s a = _
              rw [lkD_put]
              unfold updB
              by_cases e : a = W.at_
              · rw [if_pos e, if_pos e]; rfl
              · rw [if_neg e, if_neg e]; exact W3.bl a⟩
          generalize upd G3 d (.dK (diK (ptD L W.at_ (.ref b') (⟨s⟩ : Tup Int)))) = G6 at g6 ho6 W6 ⊢
          have lp := ptD_len L W.at_ (.ref b') (⟨s⟩ : Tup Int)
          refine ⟨_, rfl, o, t.C_Walk, dx, _, _, rfl, ho6, t.cl_Walk, t.nA_Walk_steps, Walk_get_steps, _, rfl, _, _, rfl, rfl, _, rfl, _, rfl, o, t.C_Walk, dx, _, _, rfl, ho6, t.cl_Walk, t.nA_Walk_at, Walk_get_at, _, rfl, _, _, rfl, rfl, .inr ⟨by omega, by omega⟩, _, rfl, _, _, rfl, rfl, ?_⟩
          refine ⟨_, rfl, o, dx, _, rfl, ho6, Walk_no (by decide +kernel) (by decide +kernel) (by decide +kernel) (by decide +kernel) (by decide +kernel) (by decide +kernel), F3, o, d, k, _, ⟨updB W.B W.at_ s, W.at_, W.row, W.far, W.st⟩, rfl, g6.fh, W6, k1, by omega, by omega, fun a => ?_, fun F4 G4 l xs z g4 wl al st => ⟨five_le, fun u nu => ?_⟩⟩
          · show (updB W.B W.at_ s a).length = k
            unfold updB
            split
            · rw [ls]; exact lB
            · exact ok.len a
          · exact fin (L := L) (W := ⟨updB W.B W.at_ s, W.at_, W.row, W.far, W.st⟩) _ g6 es rfl g4 wl al st u nu
        · rw [byB_out et] at es
          refine ⟨_, rfl, p, _, _, _, rfl, rfl, hp3, atI_nat (j := 0) rfl, rfl, _, rfl, ifF (by decide +kernel) ?_⟩
          refine ⟨_, rfl, o, dx, _, rfl, ho3, Walk_no (by decide +kernel) (by decide +kernel) (by decide +kernel) (by decide +kernel) (by decide +kernel) (by decide +kernel), _, rfl, F3, o, d, p, b', k, L, W, tOut, s, r, x, mm, rfl, gg.fh, W3, fo3, fd3, by omega, (hx2 rfl).1, hp, hb', fun G5 g5' W5 => ?_⟩
          have lp := ptD_len L W.at_ (.ref b') (⟨s⟩ : Tup Int)
          refine ⟨F3, _, _, _, _, _, _, _, _, _, rfl, gg.thn g5' fun c z => .inr (by rcases z with rfl | rfl <;> assumption), hm3, W5, ok.out hM k1 et, by omega, by omega, es, fo3, fd3⟩
    · rintro σ G ⟨F1, L, W, v4, v5, v6, v7, v8, v9, v10, rfl, g, hmF, Wg, ok, lL, hin, es, fo1, fd1⟩
      rw [show n - ((n : Int)).toNat = 0 by omega] at es
      have lL : L.length ≤ n := by rw [Int.toNat_natCast] at lL; exact lL
      obtain ⟨dx, ho3⟩ := Wg.ob
      refine ⟨_, rfl, o, t.C_Walk, dx, _, _, rfl, ho3, t.cl_Walk, t.nA_Walk_steps, Walk_get_steps, _, rfl, o, t.C_Walk, dx, _, _, rfl, ho3, t.cl_Walk, t.nA_Walk_row, Walk_get_row, _, rfl, o, dx, _, rfl, ho3, Walk_no (by decide +kernel) (by decide +kernel) (by decide +kernel) (by decide +kernel) (by decide +kernel) (by decide +kernel), F1, o, d, k, L, W, rfl, Wg, by omega, ?_⟩
      refine ⟨_, rfl, o, dx, _, rfl, ho3, Walk_no (by decide +kernel) (by decide +kernel) (by decide +kernel) (by decide +kernel) (by decide +kernel) (by decide +kernel), F1, o, d, k, L, W, rfl, g.fh, Wg, k1, by omega, by omega, ok.len, fun F4 G4 l xs z g4 wl al st => ⟨five_le, fun u nu => ?_⟩⟩
      exact fin (L := L) (W := W) ⟨tOnB, W.st, W.row, plB k W, W.B⟩ g es rfl g4 wl al st u nu
/-! ### what a machine does -/
structure Cfg where
  r : Int
  s : Int
  l : List PI
def entOf (M : Mach) (c : Cfg) : Ent := ((M[c.r.toNat]?.getD [])[((look c.l c.s).getD 0).toNat]?).getD .emp
def stepC (M : Mach) (c : Cfg) : Option Cfg := match entOf M c with
  | .emp => none
  | .go p w r => some ⟨r, c.s + w, put c.l c.s p⟩
structure CfOk (R S : Nat) (c : Cfg) : Prop where
  r0 : 0 ≤ c.r
  r1 : c.r < R
  nd : Nd c.l
  sg : ∀ q ∈ c.l, 0 ≤ q.b ∧ q.b < S
theorem CfOk.look {R S : Nat} {c : Cfg} (h : CfOk R S c) (s1 : 1 ≤ S) (x : Int) : 0 ≤ (look c.l x).getD 0 ∧ (look c.l x).getD 0 < S := by
  cases e : E.look c.l x with
  | none => simp only [Option.getD_none]; omega
  | some v => exact h.sg _ (mem_look e)
theorem CfOk.ent {M : Mach} {R S : Nat} {c : Cfg} (hM : MOk M R S) (h : CfOk R S c) : ∃ row, M[c.r.toNat]? = some row ∧ 0 ≤ (E.look c.l c.s).getD 0 ∧ row[((E.look c.l c.s).getD 0).toNat]? = some (entOf M c) ∧ EOk R S (entOf M c) := by
  have hr : c.r.toNat < M.length := by have := h.r0; have := h.r1; have := hM.len; omega
  have h1 : M[c.r.toNat]? = some M[c.r.toNat] := List.getElem?_eq_getElem hr
  have m1 := List.mem_of_getElem? h1
  obtain ⟨s0, s1⟩ := h.look (by have := hM.s2; omega) c.s
  have hs : ((E.look c.l c.s).getD 0).toNat < M[c.r.toNat].length := by rw [hM.row _ m1]; omega
  have h2 : M[c.r.toNat][((E.look c.l c.s).getD 0).toNat]? = some _ := List.getElem?_eq_getElem hs
  have e : entOf M c = M[c.r.toNat][((E.look c.l c.s).getD 0).toNat] := by
    unfold entOf
    rw [h1, Option.getD_some, h2, Option.getD_some]
  exact ⟨_, h1, s0, by rw [e]; exact h2, by rw [e]; exact hM.ent _ m1 _ (List.mem_of_getElem? h2)⟩
theorem CfOk.step {M : Mach} {R S : Nat} {c c' : Cfg} (hM : MOk M R S) (h : CfOk R S c) (e : stepC M c = some c') : CfOk R S c' := by
  obtain ⟨row, _, _, _, eo⟩ := h.ent hM
  unfold stepC at e
  split at e
  · cases e
  · rename_i p w r he
    cases e
    obtain ⟨o1, _, o3, o4⟩ := eo.ok _ _ _ he
    refine ⟨o3, o4, nd_put h.nd _ _, fun q m => ?_⟩
    rcases mem_put m with m | rfl
    · exact h.sg q m
    · exact o1
/-- the setups behind 0, 1, .. n steps, up to the end -/
def trace (M : Mach) : Nat → Cfg → List Cfg
  | 0, c => [c]
  | n + 1, c => c :: (match stepC M c with | none => [] | some c' => trace M n c')
/-- a setup with its signs in a dict -/
def cfAt (H : Hp) (v : V) (c : Cfg) : Prop := ∃ t d, v = .ref t ∧ H t = some (.tup [.int c.r, .int c.s, .ref d]) ∧ H d = some (.dK (dI c.l))
theorem cfAt.up {H H' : Hp} {v : V} {c : Cfg} (h : cfAt H v c) (s : Same H H') : cfAt H' v c := by
  obtain ⟨t, d, e, h1, h2⟩ := h
  exact ⟨t, d, e, s _ _ h1, s _ _ h2⟩
theorem dict_copy {H : Hp} {a : Addr} {l : List PI} (h : H a = some (.dK (dI l))) : Rd H a (.dK (dI l)) := .inl h
theorem stepC_none {M : Mach} {c : Cfg} : stepC M c = none ↔ entOf M c = .emp := by
  unfold stepC
  cases entOf M c with
  | emp => exact ⟨fun _ => rfl, fun _ => rfl⟩
  | go p w r => exact ⟨(fun h => nomatch h), (fun h => nomatch h)⟩
theorem stepC_go {M : Mach} {c : Cfg} {p w r : Int} (h : entOf M c = .go p w r) : stepC M c = some ⟨r, c.s + w, put c.l c.s p⟩ := by
  unfold stepC
  rw [h]
theorem mach_ent {F : Hp} {m : V} {M : Mach} {i j : Nat} {row : List Ent} {e : Ent} (hm : Is F m M) (h1 : M[i]? = some row) (h2 : row[j]? = some e) : ∃ am rs ra es v, m = .ref am ∧ F am = some (.lst rs) ∧ rs[i]? = some (.ref ra) ∧ F ra = some (.lst es) ∧ es[j]? = some v ∧ Is F v e := by
  obtain ⟨am, rs, e1, ham, hrs⟩ := hm
  obtain ⟨x, hx, ra, es, rfl, hra, hes⟩ := hrs.get h1
  obtain ⟨v, hv, hve⟩ := hes.get h2
  exact ⟨am, rs, ra, es, v, e1, ham, hx, hra, hv, hve⟩
theorem getD_int (o : Option Int) (x : Int) : (o.map V.int).getD (.int x) = .int (o.getD x) := by cases o <;> rfl
theorem trace_end {M : Mach} {c : Cfg} (h : stepC M c = none) : ∀ n, trace M n c = [c]
  | 0 => rfl
  | n + 1 => by
    unfold trace
    rw [h]
theorem trace_go {M : Mach} {c c' : Cfg} (h : stepC M c = some c') (n : Nat) : trace M (n + 1) c = c :: trace M n c' := by
  show c :: (match stepC M c with | none => [] | some c' => trace M n c') = _
  rw [h]
theorem size_dI {l : List PI} {n : Nat} (h : l.length ≤ n) (k : n ≤ 1000000) : (dI l).length < sizeLine := by
  unfold dI; rw [List.length_map]; exact lt_size (by omega)
/-! ### runs from the empty strip -/
def c0 : Cfg := ⟨0, 0, []⟩
def stepsC (M : Mach) : Nat → Option Cfg
  | 0 => some c0
  | k + 1 => (stepsC M k).bind (stepC M)
theorem stepsC_next {M : Mach} {k : Nat} {c : Cfg} (h : stepsC M k = some c) : stepsC M (k + 1) = stepC M c := by
  show (stepsC M k).bind (stepC M) = _
  rw [h]; rfl
theorem stepsC_back {M : Mach} {k : Nat} {c : Cfg} (h : stepsC M (k + 1) = some c) : ∃ b, stepsC M k = some b ∧ stepC M b = some c := Option.bind_eq_some_iff.mp h
theorem stepsC_end {M : Mach} {k : Nat} {c : Cfg} (h : stepsC M k = some c) (e : stepC M c = none) : ∀ j, stepsC M (k + 1 + j) = none
  | 0 => by rw [Nat.add_zero, stepsC_next h]; exact e
  | j + 1 => by
    show (stepsC M (k + 1 + j)).bind (stepC M) = _
    rw [stepsC_end h e j]; rfl
theorem c0_ok {R S : Nat} (r1 : 1 ≤ R) : CfOk R S c0 := ⟨Int.le_refl _, by show (0 : Int) < R; omega, nd_nil, fun z m => nomatch m⟩
theorem stepC_len {M : Mach} {c c' : Cfg} (e : stepC M c = some c') : c'.l.length ≤ c.l.length + 1 := by
  unfold stepC at e
  split at e
  · cases e
  · cases e
    exact put_len _ _ _
theorem stepsC_ok {M : Mach} {R S : Nat} (hM : MOk M R S) : ∀ {k : Nat} {c : Cfg}, stepsC M k = some c → CfOk R S c ∧ c.l.length ≤ k
  | 0, c, h => by
    cases h
    exact ⟨c0_ok hM.r1, Nat.le_refl _⟩
  | k + 1, c, h => by
    obtain ⟨b, hb, e⟩ := stepsC_back h
    obtain ⟨i1, i2⟩ := stepsC_ok hM hb
    have := stepC_len e
    exact ⟨i1.step hM e, by omega⟩
/-- where a run of at most n steps stands: behind k of them, at c -/
structure Gone (M : Mach) (n k : Nat) (c : Cfg) : Prop where
  le : k ≤ n
  stp : stepsC M k = some c
  fin : stepC M c = none ∨ k = n
theorem Gone.lt {M : Mach} {n k k' : Nat} {c c' : Cfg} (a : Gone M n k c) (b : Gone M n k' c') : ¬ k < k' := fun l => by
  rcases a.fin with e | e
  · have h := stepsC_end a.stp e (k' - (k + 1))
    rw [show k + 1 + (k' - (k + 1)) = k' by omega, b.stp] at h
    cases h
  · have := b.le; omega
theorem Gone.uniq {M : Mach} {n k k' : Nat} {c c' : Cfg} (a : Gone M n k c) (b : Gone M n k' c') : k = k' ∧ c = c' := by
  have e : k = k' := by have := a.lt b; have := b.lt a; omega
  subst e
  have h := a.stp
  rw [b.stp] at h
  cases h
  exact ⟨rfl, rfl⟩
/-! ### a strip without noughts -/
def pop (l : List PI) (x : Int) : List PI := l.filter fun p => decide (p.a ≠ x)
theorem dI_pop (l : List PI) (x : Int) : dropK (dI l) (Sum.inl x) = dI (pop l x) := by
  unfold dropK dI pop
  rw [List.filter_map]
  congr 2
  funext p
  have e : ((Sum.inl p.a : Key) ≠ Sum.inl x) = (p.a ≠ x) := propext ⟨fun h z => h (by rw [z]), fun h z => h (Sum.inl.inj z)⟩
  simp only [Function.comp, e]
theorem look_pop (x y : Int) : ∀ l : List PI, look (pop l x) y = if y = x then none else look l y
  | [] => by show look [] y = _; rw [look_nil]; split <;> rfl
  | p :: l => by
    have ih := look_pop x y l
    unfold pop at ih ⊢
    rw [List.filter_cons, look_cons]
    by_cases e : p.a = x
    · rw [if_neg (by simp [e]), ih]
      by_cases f : y = x
      · rw [if_pos f, if_pos f]
      · rw [if_neg f, if_neg f, if_neg (by rw [e]; exact fun z => f z.symm)]
    · rw [if_pos (by simp [e]), look_cons, ih]
      by_cases f : p.a = y
      · rw [if_pos f, if_pos f, if_neg (by rw [← f]; exact e)]
      · rw [if_neg f, if_neg f]
theorem nd_pop {l : List PI} (h : Nd l) (x : Int) : Nd (pop l x) := List.Sublist.nodup (List.Sublist.map _ List.filter_sublist) h
theorem nd_nodup {l : List PI} (h : Nd l) : l.Nodup := (List.pairwise_map.mp h).imp fun z e => z (by rw [e])
structure ZRel (l l' : List PI) : Prop where
  n : Nd l
  n' : Nd l'
  z : ∀ q ∈ l', q.b ≠ 0
  lk : ∀ x, (look l x).getD 0 = (look l' x).getD 0
theorem ZRel.nil : ZRel [] [] := ⟨nd_nil, nd_nil, fun q m => (nomatch m), fun x => rfl⟩
theorem ZRel.put {l l' : List PI} (h : ZRel l l') (x : Int) {v : Int} (e : v ≠ 0) : ZRel (put l x v) (put l' x v) := by
  refine ⟨nd_put h.n _ _, nd_put h.n' _ _, fun q m => ?_, fun y => ?_⟩
  · rcases mem_put m with m | rfl
    · exact h.z q m
    · exact e
  · rw [look_put, look_put]
    split
    · rfl
    · exact h.lk y
theorem ZRel.pop {l l' : List PI} (h : ZRel l l') (x : Int) : ZRel (E.put l x 0) (pop (E.put l' x 0) x) := by
  refine ⟨nd_put h.n _ _, nd_pop (nd_put h.n' _ _) _, fun q m => ?_, fun y => ?_⟩
  · obtain ⟨m, e⟩ := List.mem_filter.mp m
    have e : q.a ≠ x := of_decide_eq_true e
    rcases mem_put m with m | rfl
    · exact h.z q m
    · exact absurd rfl e
  · rw [look_put, look_pop, look_put]
    split
    · rfl
    · exact h.lk y
theorem ZRel.perm {l l' : List PI} (h : ZRel l l') : (l.filter nz).Perm l' := by
  refine (List.perm_ext_iff_of_nodup (List.Sublist.nodup List.filter_sublist (nd_nodup h.n)) (nd_nodup h.n')).mpr fun q => ?_
  have k := h.lk q.a
  rw [List.mem_filter]
  constructor
  · rintro ⟨m, e⟩
    have e : q.b ≠ 0 := of_decide_eq_true e
    rw [look_mem h.n m, Option.getD_some] at k
    cases f : look l' q.a with
    | none => rw [f] at k; exact absurd k e
    | some z =>
      rw [f, Option.getD_some] at k
      have m' := mem_look f
      rw [← k] at m'
      exact m'
  · intro m
    have e := h.z q m
    rw [look_mem h.n' m, Option.getD_some] at k
    cases f : look l q.a with
    | none => rw [f] at k; exact absurd k.symm e
    | some z =>
      rw [f, Option.getD_some] at k
      have m' := mem_look f
      rw [k] at m'
      exact ⟨m', decide_eq_true e⟩
theorem ZRel.told {l l' : List PI} (h : ZRel l l') : told l = srt l' :=
  srt_uniq (srt_srt _) (srt_srt _) (((srt_perm _).trans h.perm).trans (srt_perm _).symm)
theorem ZRel.len {l l' : List PI} (h : ZRel l l') : l'.length ≤ l.length := by
  rw [← h.perm.length_eq]; exact List.length_filter_le _ _
/-- a setup with its signs other than 0 in a dict -/
def zAt (H : Hp) (v : V) (c : Cfg) : Prop := ∃ t d l', v = .ref t ∧ H t = some (.tup [.int c.r, .int c.s, .ref d]) ∧ H d = some (.dK (dI l')) ∧ ZRel c.l l'
theorem zAt.up {H H' : Hp} {v : V} {c : Cfg} (h : zAt H v c) (s : Same H H') : zAt H' v c := by
  obtain ⟨t, d, l', e, h1, h2, h3⟩ := h
  exact ⟨t, d, l', e, s _ _ h1, s _ _ h2, h3⟩
/-- the setups behind 0, 1, .. k steps -/
def ZAll (H : Hp) (M : Mach) (xs : List V) (k : Nat) : Prop := xs.length = k + 1 ∧ ∀ i v, xs[i]? = some v → ∃ c, stepsC M i = some c ∧ zAt H v c
theorem ZAll.up {H H' : Hp} {M : Mach} {xs : List V} {k : Nat} (h : ZAll H M xs k) (s : Same H H') : ZAll H' M xs k :=
  ⟨h.1, fun i v e => by obtain ⟨c, a, b⟩ := h.2 i v e; exact ⟨c, a, b.up s⟩⟩
theorem ZAll.one {H : Hp} {M : Mach} {v : V} (h : zAt H v c0) : ZAll H M [v] 0 := ⟨rfl, fun i u e => by
  cases i with
  | zero => cases e; exact ⟨c0, rfl, h⟩
  | succ n => cases e⟩
theorem ZAll.app {H : Hp} {M : Mach} {xs : List V} {k : Nat} {v : V} {c : Cfg} (h : ZAll H M xs k) (e : stepsC M (k + 1) = some c) (z : zAt H v c) : ZAll H M (xs ++ [v]) (k + 1) := by
  refine ⟨by rw [List.length_append, h.1]; rfl, fun i u hu => ?_⟩
  by_cases l : i < xs.length
  · rw [List.getElem?_append_left l] at hu
    exact h.2 i u hu
  · rw [List.getElem?_append_right (by omega)] at hu
    cases j : i - xs.length with
    | zero =>
      rw [j] at hu
      cases hu
      have := h.1
      rw [show i = k + 1 by omega]
      exact ⟨c, e, z⟩
    | succ n => rw [j] at hu; cases hu
theorem ZAll.get {H : Hp} {M : Mach} {xs : List V} {k i : Nat} {c : Cfg} (h : ZAll H M xs k) (l : i ≤ k) (e : stepsC M i = some c) : ∃ v, xs[i]? = some v ∧ zAt H v c := by
  have l' : i < xs.length := by rw [h.1]; omega
  obtain ⟨c', e', z⟩ := h.2 i _ (List.getElem?_eq_getElem l')
  rw [e] at e'
  cases e'
  exact ⟨_, List.getElem?_eq_getElem l', z⟩
/-- the entry at c, looked up by a strip of the same signs -/
theorem CfOk.ent' {M : Mach} {R S : Nat} {c : Cfg} {l' : List PI} (hM : MOk M R S) (h : CfOk R S c) (z : ZRel c.l l') : ∃ row, M[c.r.toNat]? = some row ∧ 0 ≤ (E.look l' c.s).getD 0 ∧ row[((E.look l' c.s).getD 0).toNat]? = some (entOf M c) ∧ EOk R S (entOf M c) := by
  rw [← z.lk]
  exact h.ent hM
/-- what is read at a place -/
def gz (l : List PI) (x : Int) : Int := (look l x).getD 0
theorem ZRel.filt {l : List PI} (h : Nd l) : ZRel l (l.filter nz) := by
  refine ⟨h, List.Sublist.nodup (List.Sublist.map _ List.filter_sublist) h, fun q m => of_decide_eq_true (List.mem_filter.mp m).2, fun x => ?_⟩
  have hf : Nd (l.filter nz) := List.Sublist.nodup (List.Sublist.map _ List.filter_sublist) h
  cases e : look (l.filter nz) x with
  | some v =>
    have m := (List.mem_filter.mp (mem_look e)).1
    rw [show look l x = some v from look_mem h m]
  | none =>
    cases f : look l x with
    | none => rfl
    | some v =>
      by_cases z : v = 0
      · rw [z]; rfl
      · have m : (⟨x, v⟩ : PI) ∈ l.filter nz := List.mem_filter.mpr ⟨mem_look f, decide_eq_true z⟩
        rw [show look (l.filter nz) x = some v from look_mem hf m] at e
        cases e
/-! ### strides told, and runs -/
theorem look_perm {l m : List PI} (h : Nd l) (p : l.Perm m) (x : Int) : look l x = look m x := by
  have hm : Nd m := (p.map (fun q : PI => q.a)).nodup_iff.mp h
  cases e : look m x with
  | some v => exact look_mem h (p.mem_iff.mpr (mem_look e))
  | none =>
    cases f : look l x with
    | none => rfl
    | some v =>
      have : look m x = some v := look_mem hm (p.mem_iff.mp (mem_look f))
      rw [e] at this; cases this
theorem gz_told {l : List PI} (h : Nd l) (x : Int) : gz (told l) x = gz l x := by
  have hf : Nd (l.filter nz) := List.Sublist.nodup (List.Sublist.map _ List.filter_sublist) h
  unfold gz
  rw [(ZRel.filt h).lk x]
  unfold told
  rw [look_perm (nd_srt hf) (srt_perm _) x]
theorem told_nd {l : List PI} (h : Nd l) : Nd (told l) := nd_srt (List.Sublist.nodup (List.Sublist.map _ List.filter_sublist) h)
theorem told_len {l : List PI} : (told l).length ≤ l.length := by
  show (srt _).length ≤ _
  rw [(srt_perm _).length_eq]
  exact List.length_filter_le _ _
theorem told_mem {l : List PI} {q : PI} (m : q ∈ told l) : q ∈ l := (List.mem_filter.mp (mem_srt.mp m)).1
theorem leP_a {p q : PI} (h : LeP p q) : p.a ≤ q.a := by
  rcases leP_iff.mp h with h | h
  · omega
  · omega
theorem told_first {l : List PI} {x : PI} (h : (told l)[0]? = some x) : ∀ q ∈ told l, x.a ≤ q.a := fun q m => by
  have pw : (told l).Pairwise LeP := srt_srt (l.filter nz)
  obtain ⟨i, hi⟩ := List.getElem?_of_mem m
  obtain ⟨li, ei⟩ := List.getElem?_eq_some_iff.mp hi
  obtain ⟨l0, e0⟩ := List.getElem?_eq_some_iff.mp h
  by_cases c : i = 0
  · subst c
    rw [e0] at ei
    rw [ei]; exact Int.le_refl _
  · have := List.pairwise_iff_getElem.mp pw 0 i l0 li (by omega)
    rw [e0, ei] at this
    exact leP_a this
theorem told_last {l : List PI} {x : PI} (h : (told l)[(told l).length - 1]? = some x) : ∀ q ∈ told l, q.a ≤ x.a := fun q m => by
  have pw : (told l).Pairwise LeP := srt_srt (l.filter nz)
  obtain ⟨i, hi⟩ := List.getElem?_of_mem m
  obtain ⟨li, ei⟩ := List.getElem?_eq_some_iff.mp hi
  obtain ⟨l0, e0⟩ := List.getElem?_eq_some_iff.mp h
  by_cases c : i = (told l).length - 1
  · subst c
    rw [e0] at ei
    rw [ei]; exact Int.le_refl _
  · have := List.pairwise_iff_getElem.mp pw i ((told l).length - 1) li l0 (by omega)
    rw [ei, e0] at this
    exact leP_a this
theorem spot_bound {M : Mach} {R S : Nat} (hM : MOk M R S) : ∀ {k : Nat} {c : Cfg}, stepsC M k = some c → (-(k : Int) ≤ c.s ∧ c.s ≤ k) ∧ ∀ q ∈ c.l, -(k : Int) ≤ q.a ∧ q.a ≤ k
  | 0, c, h => by
    cases h
    exact ⟨⟨Int.le_refl _, Int.le_refl _⟩, fun q m => nomatch m⟩
  | k + 1, c, h => by
    obtain ⟨b, hb, e⟩ := stepsC_back h
    obtain ⟨⟨i1, i2⟩, i3⟩ := spot_bound hM hb
    obtain ⟨_, _, _, _, eo⟩ := (stepsC_ok hM hb).1.ent hM
    unfold stepC at e
    split at e
    · cases e
    · rename_i p w r he
      cases e
      obtain ⟨_, wo, _⟩ := eo.ok _ _ _ he
      refine ⟨⟨by show _ ≤ b.s + w; omega, by show b.s + w ≤ _; omega⟩, fun q m => ?_⟩
      rcases mem_put m with m | rfl
      · have := i3 q m
        omega
      · exact ⟨by show _ ≤ b.s; omega, by show b.s ≤ _; omega⟩
/-! ### walks by blocks, and steps -/
theorem told_st {l : List PI} (h : Nd l) : IsSt (told l) (gz l) := by
  refine ⟨?_, fun x s => ?_⟩
  · have hn := told_nd h
    have hs : (told l).Pairwise LeP := srt_srt _
    have hn2 : (told l).Pairwise (fun p q => p.a ≠ q.a) := List.pairwise_map.mp hn
    refine (List.Pairwise.and hs hn2).imp fun {p q} z => ?_
    have := leP_a z.1
    have := z.2
    omega
  · show _ ∈ srt (l.filter nz) ↔ _
    rw [mem_srt, List.mem_filter]
    constructor
    · rintro ⟨m, z⟩
      have e := look_mem h m
      refine ⟨?_, of_decide_eq_true z⟩
      show (look l x).getD 0 = s
      rw [show look l x = some s from e]; rfl
    · rintro ⟨e, z⟩
      refine ⟨?_, decide_eq_true z⟩
      have e : (look l x).getD 0 = s := e
      cases f : look l x with
      | none => rw [f] at e; exact absurd e.symm z
      | some v => rw [f] at e; have e : v = s := e; rw [← e]; exact mem_look f
/-- a setup of the machine within a block at a -/
structure RepB (k : Nat) (c : Cfg) (B : Int → List Int) (a : Int) (b : Bs) : Prop where
  r : c.r = b.r
  s : c.s = a * k + b.p
  f : ∀ x, gz c.l x = fB k (updB B a b.s) x
section
variable {M : Mach} {R S k : Nat} {c : Cfg} {B : Int → List Int} {a : Int} {b b' : Bs}
theorem dm {k : Nat} (k1 : 1 ≤ k) {a p : Int} (p0 : 0 ≤ p) (p1 : p < k) : (a * k + p) / (k : Int) = a ∧ (a * k + p) % (k : Int) = p :=
  (Int.ediv_emod_unique (by omega)).mpr ⟨by rw [Int.mul_comm]; omega, p0, p1⟩
theorem fB_at (k1 : 1 ≤ k) (s : List Int) {p : Int} (p0 : 0 ≤ p) (p1 : p < k) : fB k (updB B a s) (a * k + p) = (s[p.toNat]?).getD 0 := by
  obtain ⟨e1, e2⟩ := dm (a := a) k1 p0 p1
  unfold fB
  rw [e1, e2, updB_same]
theorem fB_set (k1 : 1 ≤ k) {s : List Int} (ls : s.length = k) {p v : Int} (p0 : 0 ≤ p) (p1 : p < k) (x : Int) : fB k (updB B a (s.set p.toNat v)) x = if x = a * k + p then v else fB k (updB B a s) x := by
  have hd := Int.mul_ediv_add_emod x k
  have h0 := Int.emod_nonneg x (show (k : Int) ≠ 0 by omega)
  have hc := Int.mul_comm (x / (k : Int)) k
  by_cases e : x = a * k + p
  · rw [if_pos e, e, fB_at k1 _ p0 p1, List.getElem?_set_self (show p.toNat < s.length by omega)]; rfl
  · rw [if_neg e]
    unfold fB updB
    by_cases ea : x / (k : Int) = a
    · rw [if_pos ea, if_pos ea]
      have : p.toNat ≠ (x % (k : Int)).toNat := fun z => e (by rw [ea] at hc hd; omega)
      rw [List.getElem?_set_ne this]
    · rw [if_neg ea, if_neg ea]
theorem gz_put {l : List PI} {x v y : Int} : gz (put l x v) y = if y = x then v else gz l y := by
  unfold gz
  rw [look_put]
  split
  · rfl
  · rfl
theorem RepB.ent (k1 : 1 ≤ k) (h : RepB k c B a b) (ok : BOk R S k b) : entOf M c = entAt M b.r (sgB b) := by
  have e : gz c.l c.s = sgB b := by
    rw [h.f, h.s, fB_at k1 _ ok.p0 ok.p1]; rfl
  show (((M[c.r.toNat]?.getD [])[(gz c.l c.s).toNat]?).getD .emp) = _
  rw [e, h.r]; rfl
theorem RepB.put (k1 : 1 ≤ k) (h : RepB k c B a b) (ok : BOk R S k b) (v : Int) : ∀ x, gz (put c.l c.s v) x = fB k (updB B a (b.s.set b.p.toNat v)) x := fun x => by
  rw [gz_put, fB_set k1 ok.len ok.p0 ok.p1, h.s, h.f]
theorem RepB.nxt (k1 : 1 ≤ k) (h : RepB k c B a b) (ok : BOk R S k b) (e : bn M b = .nxt b') : ∃ c', stepC M c = some c' ∧ RepB k c' B a b' := by
  have he := h.ent (M := M) k1 ok
  cases ee : entAt M b.r (sgB b) with
  | emp => rw [bn_emp ee] at e; cases e
  | go pu wa to =>
    by_cases z : 0 ≤ b.p + wa ∧ b.p + wa < (b.s.length : Int)
    · rw [bn_go ee z] at e
      cases e
      exact ⟨_, stepC_go (he.trans ee), rfl, by show c.s + wa = a * k + (b.p + wa); rw [h.s]; omega, h.put k1 ok pu⟩
    · rw [bn_out ee z] at e; cases e
theorem updB_updB {B : Int → List Int} {a : Int} {s : List Int} (x : Int) : fB k (updB (updB B a s) a s) x = fB k (updB B a s) x := by
  unfold fB updB
  split <;> rfl
theorem fB_id {B : Int → List Int} {a : Int} (x : Int) : fB k (updB B a (B a)) x = fB k B x := by
  unfold fB updB
  split
  · rename_i h; rw [h]
  · rfl
theorem RepB.out (k1 : 1 ≤ k) (hM : MOk M R S) (h : RepB k c B a b) (ok : BOk R S k b) {s : List Int} {r wa d : Int} (hB : ∀ x, (B x).length = k) (e : bn M b = .lv tOut s r wa d) :
    d = 1 ∧ (wa = -1 ∨ wa = 1) ∧ ∃ c', stepC M c = some c' ∧ RepB k c' (updB B a s) (a + wa) (st0 (updB B a s (a + wa)) r (decide (-wa = 1))) := by
  have he := h.ent (M := M) k1 ok
  have eo := ok.ent hM
  cases ee : entAt M b.r (sgB b) with
  | emp =>
    exfalso
    rw [bn_emp ee] at e
    injection e with e1
    exact absurd e1 (by decide +kernel)
  | go pu wa' to =>
    rw [ee] at eo
    obtain ⟨o1, o2, o3⟩ := eo.ok _ _ _ rfl
    by_cases z : 0 ≤ b.p + wa' ∧ b.p + wa' < (b.s.length : Int)
    · rw [bn_go ee z] at e; cases e
    · rw [bn_out ee z] at e
      cases e
      have l := ok.len; have p0 := ok.p0; have p1 := ok.p1
      refine ⟨rfl, o2, _, stepC_go (he.trans ee), rfl, ?_, fun x => ?_⟩
      · show c.s + wa = (a + wa) * k + (if decide (-wa = 1) then ((updB B a (b.s.set b.p.toNat pu) (a + wa)).length : Int) - 1 else 0)
        have lu : (updB B a (b.s.set b.p.toNat pu) (a + wa)).length = k := by
          unfold updB
          split
          · rw [List.length_set]; exact l
          · exact hB _
        rw [lu, h.s, Int.add_mul]
        rcases o2 with rfl | rfl
        · rw [if_pos (by decide)]; omega
        · rw [if_neg (by decide)]; omega
      · show gz (E.put c.l c.s pu) x = fB k (updB (updB B a (b.s.set b.p.toNat pu)) (a + wa) (updB B a (b.s.set b.p.toNat pu) (a + wa))) x
        rw [fB_id]
        exact h.put k1 ok pu x
theorem RepB.fin (k1 : 1 ≤ k) (h : RepB k c B a b) (ok : BOk R S k b) {s : List Int} {r x d : Int} (e : bn M b = .lv tEnd s r x d) : d = 0 ∧ stepC M c = none ∧ s = b.s ∧ r = b.r ∧ x = b.p := by
  have he := h.ent (M := M) k1 ok
  cases ee : entAt M b.r (sgB b) with
  | emp => rw [bn_emp ee] at e; cases e; exact ⟨rfl, stepC_none.mpr (he.trans ee), rfl, rfl, rfl⟩
  | go pu wa to =>
    exfalso
    by_cases z : 0 ≤ b.p + wa ∧ b.p + wa < (b.s.length : Int)
    · rw [bn_go ee z] at e; cases e
    · rw [bn_out ee z] at e
      injection e with e1
      exact absurd e1 (by decide +kernel)
theorem tj_rep (k1 : 1 ≤ k) (hM : MOk M R S) : ∀ (i j : Nat) (b b' : Bs) (c : Cfg), BOk R S k b → tj M i b = some b' → RepB k c B a b → stepsC M j = some c → ∃ c', stepsC M (j + i) = some c' ∧ RepB k c' B a b'
  | 0, j, b, b', c, ok, t, h, st => by cases t; exact ⟨c, st, h⟩
  | i + 1, j, b, b', c, ok, t, h, st => by
    cases eb : bn M b with
    | nxt b1 =>
      rw [tj_nxt eb] at t
      obtain ⟨c1, e1, h1⟩ := h.nxt k1 ok eb
      obtain ⟨c2, e2, h2⟩ := tj_rep k1 hM i (j + 1) b1 b' c1 (bn_ok ok hM eb) t h1 ((stepsC_next st).trans e1)
      exact ⟨c2, by rw [show j + (i + 1) = j + 1 + i by omega]; exact e2, h2⟩
    | lv w s r x d => rw [tj_lv eb] at t; cases t
theorem steps_le : ∀ {j i : Nat}, i ≤ j → stepsC M j ≠ none → stepsC M i ≠ none := fun {j i} l h z => by
  obtain ⟨d, rfl⟩ := Nat.le.dest l
  have : ∀ d, stepsC M (i + d) = none := fun d => by
    induction d with
    | zero => exact z
    | succ d ih =>
      show (stepsC M (i + d)).bind (stepC M) = none
      rw [ih]; rfl
  exact h (this d)
end
theorem word_of' {M : Mach} {c : Bs} {s : List Int} {w : TStr} {r x d : Int} (e : bn M c = .lv w s r x d) : w = tEnd ∨ w = tOut := by
  cases ee : entAt M c.r (sgB c) with
  | emp => rw [bn_emp ee] at e; cases e; exact .inl rfl
  | go pu wa to =>
    by_cases z : 0 ≤ c.p + wa ∧ c.p + wa < (c.s.length : Int)
    · rw [bn_go ee z] at e; cases e
    · rw [bn_out ee z] at e; cases e; exact .inr rfl
/-- a walk by blocks stands where the run does -/
structure WRep (M : Mach) (k : Nat) (W : Wk) (j : Nat) (c : Cfg) : Prop where
  st : stepsC M j = some c
  n : W.st = j
  rep : RepB k c W.B W.at_ (st0 (W.B W.at_) W.row W.far)
structure YRep (M : Mach) (k : Nat) (Y : ByR) (j : Nat) (c : Cfg) : Prop where
  st : stepsC M j = some c
  n : Y.st = j
  r : c.r = Y.row
  s : c.s = Y.pl
  f : ∀ x, gz c.l x = fB k Y.B x
  e : Y.w = tEnd → stepC M c = none
  v : Y.w = tStay → ∀ i, stepsC M i ≠ none
  w : Y.w = tEnd ∨ Y.w = tStay ∨ Y.w = tOnB
theorem tEnd_on : tEnd ≠ tOnB ∧ tEnd ≠ tStay ∧ tStay ≠ tOnB := by decide +kernel
theorem byB_rep {M : Mach} {R S k : Nat} (k1 : 1 ≤ k) (hM : MOk M R S) : ∀ (n : Nat) (W : Wk) (j : Nat) (c : Cfg), OkW R S k W → WRep M k W j c → ∃ j' c', j ≤ j' ∧ YRep M k (byB M R S k n W) j' c'
  | 0, W, j, c, ok, h => by
    refine ⟨j, c, Nat.le_refl j, h.st, h.n, h.rep.r, ?_, fun x => ?_, fun z => absurd z.symm tEnd_on.1, fun z => absurd z.symm tEnd_on.2.2, .inr (.inr rfl)⟩
    · show c.s = W.at_ * k + (if W.far then (k : Int) - 1 else 0)
      rw [h.rep.s]
      show W.at_ * k + (if W.far then ((W.B W.at_).length : Int) - 1 else 0) = _
      rw [ok.len]
    · rw [h.rep.f]; exact fB_id x
  | n + 1, W, j, c, ok, h => by
    have lB : (W.B W.at_).length = k := ok.len _
    have okb : BOk R S k (st0 (W.B W.at_) W.row W.far) := by
      have := st0_ok (R := R) (row := W.row) (far := W.far) (ok.s W.at_) (by omega) ok.r0 ok.r1
      rw [lB] at this; exact this
    cases et : thr M R S (W.B W.at_) W.row W.far with
    | stay =>
      rw [byB_stay et]
      have nv := thr_stay hM (ok.s _) (by omega) ok.r0 ok.r1 et
      refine ⟨j, c, Nat.le_refl j, h.st, h.n, h.rep.r, ?_, fun x => ?_, fun z => absurd z.symm tEnd_on.2.1, fun _ i => ?_, .inr (.inl rfl)⟩
      · show c.s = W.at_ * k + (if W.far then (k : Int) - 1 else 0)
        rw [h.rep.s]
        show W.at_ * k + (if W.far then ((W.B W.at_).length : Int) - 1 else 0) = _
        rw [lB]
      · rw [h.rep.f]; exact fB_id x
      · refine steps_le (j := j + i) (by omega) ?_
        cases t : tj M i (st0 (W.B W.at_) W.row W.far) with
        | none => exact absurd t (nv i)
        | some b' =>
          obtain ⟨c', e', _⟩ := tj_rep k1 hM i j _ b' c okb t h.rep h.st
          rw [e']; exact fun z => nomatch z
    | fin w s r x m =>
      obtain ⟨i, b', d, t1, t2, t3⟩ := thr_fin et
      obtain ⟨c1, e1, h1⟩ := tj_rep k1 hM i j _ b' c okb t1 h.rep h.st
      have okb' := tj_ok hM i _ b' okb t1
      rcases word_of' t2 with rfl | rfl
      · rw [byB_end et]
        obtain ⟨rfl, hs, rfl, rfl, rfl⟩ := h1.fin k1 okb' t2
        refine ⟨j + i, c1, by omega, e1, ?_, h1.r, h1.s, h1.f, fun _ => hs, fun z => absurd z tEnd_on.2.1, .inl rfl⟩
        show W.st + m = ((j + i : Nat) : Int)
        rw [h.n, t3]; omega
      · rw [byB_out et]
        obtain ⟨rfl, ww, c2, e2, h2⟩ := h1.out k1 hM okb' ok.len t2
        obtain ⟨j', c', lj, y⟩ := byB_rep k1 hM n (W.out s r x m) (j + i + 1) c2 (ok.out hM k1 et) ⟨(stepsC_next e1).trans e2, by show W.st + m = ((j + i + 1 : Nat) : Int); rw [h.n, t3]; omega, h2⟩
        exact ⟨j', c', by omega, y⟩
theorem W0_rep {M : Mach} {k : Nat} (k1 : 1 ≤ k) : WRep M k (W0 k) 0 c0 := by
  refine ⟨rfl, rfl, rfl, by show (0 : Int) = 0 * k + 0; omega, fun x => ?_⟩
  show (0 : Int) = fB k (updB (fun _ => List.replicate k 0) 0 (List.replicate k 0)) x
  unfold fB updB
  have e : (if x / (k : Int) = 0 then List.replicate k (0 : Int) else List.replicate k 0) = List.replicate k 0 := by split <;> rfl
  rw [e, List.getElem?_replicate]
  split <;> rfl
theorem byB_more {M : Mach} {R S k : Nat} (d : Nat) : ∀ (n : Nat) (W : Wk), (byB M R S k n W).w ≠ tOnB → byB M R S k (n + d) W = byB M R S k n W
  | 0, W, h => absurd rfl h
  | n + 1, W, h => by
    rw [show n + 1 + d = (n + d) + 1 by omega]
    cases et : thr M R S (W.B W.at_) W.row W.far with
    | stay => rw [byB_stay et, byB_stay et]
    | fin w s r x m =>
      by_cases e : w = tEnd
      · subst e; rw [byB_end et, byB_end et]
      · have e2 : ∀ n, byB M R S k (n + 1) W = byB M R S k n (W.out s r x m) := fun n => by rw [byB, et]; exact if_neg e
        rw [e2] at h ⊢
        rw [e2]
        exact byB_more d n _ h
/-- a count that is greater tells no fewer steps -/
theorem byB_mono {M : Mach} {R S k : Nat} (k1 : 1 ≤ k) (hM : MOk M R S) : ∀ (n : Nat) (W : Wk), OkW R S k W → W.st ≤ (byB M R S k n W).st
  | 0, W, _ => Int.le_refl _
  | n + 1, W, ok => by
    cases et : thr M R S (W.B W.at_) W.row W.far with
    | stay => rw [byB_stay et]; exact Int.le_refl _
    | fin w s r x m =>
      have z := thr_ok hM (ok.s _) (by rw [ok.len]; exact k1) ok.r0 ok.r1 et
      rcases z.1 with rfl | rfl
      · rw [byB_end et]; show W.st ≤ W.st + m; have := z.2.2.2.2.1; omega
      · rw [byB_out et]
        have := byB_mono k1 hM n (W.out s r x m) (ok.out hM k1 et)
        have e : (W.out s r x m).st = W.st + m := rfl
        have := z.2.2.2.2.1
        omega
theorem byB_grow {M : Mach} {R S k : Nat} (k1 : 1 ≤ k) (hM : MOk M R S) (d : Nat) : ∀ (n : Nat) (W : Wk), OkW R S k W → (byB M R S k n W).st ≤ (byB M R S k (n + d) W).st
  | 0, W, ok => by rw [Nat.zero_add]; exact byB_mono k1 hM d W ok
  | n + 1, W, ok => by
    rw [show n + 1 + d = (n + d) + 1 by omega]
    cases et : thr M R S (W.B W.at_) W.row W.far with
    | stay => rw [byB_stay et, byB_stay et]; exact Int.le_refl _
    | fin w s r x m =>
      have z := thr_ok hM (ok.s _) (by rw [ok.len]; exact k1) ok.r0 ok.r1 et
      rcases z.1 with rfl | rfl
      · rw [byB_end et, byB_end et]; exact Int.le_refl _
      · rw [byB_out et, byB_out et]
        exact byB_grow k1 hM d n _ (ok.out hM k1 et)
/-- a block of one place is left by each step -/
theorem byB_one {M : Mach} {R S : Nat} (hM : MOk M R S) : ∀ (n : Nat) (W : Wk), OkW R S 1 W → (byB M R S 1 n W).w ≠ tStay ∧ ((byB M R S 1 n W).w = tOnB → (byB M R S 1 n W).st = W.st + n)
  | 0, W, _ => ⟨fun z => absurd z.symm tEnd_on.2.2, fun _ => by show W.st = W.st + (0 : Nat); omega⟩
  | n + 1, W, ok => by
    have lB : (W.B W.at_).length = 1 := ok.len _
    have okb := st0_ok (R := R) (row := W.row) (far := W.far) (ok.s W.at_) (by omega) ok.r0 ok.r1
    have first : ∀ b', bn M (st0 (W.B W.at_) W.row W.far) ≠ .nxt b' := fun b' e => by
      cases ee : entAt M (st0 (W.B W.at_) W.row W.far).r (sgB (st0 (W.B W.at_) W.row W.far)) with
      | emp => rw [bn_emp ee] at e; cases e
      | go pu wa to =>
        have eo := okb.ent hM
        rw [ee] at eo
        obtain ⟨_, o2, _⟩ := eo.ok _ _ _ rfl
        have p0 := okb.p0
        have p1 := okb.p1
        have z : ¬ (0 ≤ (st0 (W.B W.at_) W.row W.far).p + wa ∧ (st0 (W.B W.at_) W.row W.far).p + wa < ((st0 (W.B W.at_) W.row W.far).s.length : Int)) := by
          have : ((st0 (W.B W.at_) W.row W.far).s.length : Int) = 1 := by show ((W.B W.at_).length : Int) = 1; rw [lB]; rfl
          rw [this]
          rw [lB] at p1
          omega
        rw [bn_out ee z] at e; cases e
    cases et : thr M R S (W.B W.at_) W.row W.far with
    | stay =>
      exfalso
      have nv := thr_stay hM (ok.s _) (by omega) ok.r0 ok.r1 et
      cases eb : bn M (st0 (W.B W.at_) W.row W.far) with
      | nxt b' => exact first b' eb
      | lv w s r x d => exact nv 1 (tj_lv eb)
    | fin w s r x m =>
      obtain ⟨i, b', d, t1, t2, t3⟩ := thr_fin et
      have i0 : i = 0 := by
        cases i with
        | zero => rfl
        | succ i =>
          cases eb : bn M (st0 (W.B W.at_) W.row W.far) with
          | nxt b2 => exact absurd eb (first b2)
          | lv w s r x d => rw [tj_lv eb] at t1; cases t1
      subst i0
      rcases word_of' t2 with rfl | rfl
      · rw [byB_end et]
        exact ⟨fun z => absurd z tEnd_on.2.1, fun z => absurd z tEnd_on.1⟩
      · rw [byB_out et]
        obtain ⟨h1, h2⟩ := byB_one hM n (W.out s r x m) (ok.out hM (Nat.le_refl 1) et)
        refine ⟨h1, fun z => (h2 z).trans ?_⟩
        have okb' := tj_ok hM 0 _ b' okb t1
        have hd : d = 1 := by
          cases ee : entAt M b'.r (sgB b') with
          | emp =>
            rw [bn_emp ee] at t2
            injection t2 with e1
            exact absurd e1 (by decide +kernel)
          | go pu wa to =>
            by_cases z : 0 ≤ b'.p + wa ∧ b'.p + wa < (b'.s.length : Int)
            · rw [bn_go ee z] at t2; cases t2
            · rw [bn_out ee z] at t2; cases t2; rfl
        show W.st + m + (n : Int) = W.st + ((n + 1 : Nat) : Int)
        rw [t3, hd]; omega
def sp_L_kept : Sp := fun vs H Q _ => ∃ (F : Hp) (v : V) (M : Mach), vs = [v] ∧ Same F H ∧ Is F v M ∧ M.length ≤ 10 ∧ ∀ (F' H' : Hp) (u : V), Gr mu0 F H F' H' → Is F' u M → Q u H'
theorem ok_L_kept (t : Tx K mg) : FnOk P w K mg base CX0 1 t.a_L_kept t.fd_L_kept ["_law_machine_here"] sp_L_kept := by
  refine t.F_L_kept.ok sc_L_kept (fun vs H Q E h => ?_) (fun cdv A outer s H vs Q E hr h => ?_)
  · obtain ⟨F, v, M, rfl, _⟩ := h
    rfl
  · obtain ⟨F, v, M, rfl, sF, hv, hl, q⟩ := h
    refine ⟨_, (pss_one (ps_ret (pe_lc (own := [("_law_row", 1)]) (g := gName 1) (tt := tYes) rfl sc_L_kept.nd (pi_list (pv 0)) (blkOk_by (N := N_L_kept) (sc := defScope s_L_kept) (by decide +kernel)) (fun _ _ _ _ _ => (pg_name (i := 1) sc_L_kept.nd rfl (by first | exact Or.inl rfl | exact Or.inr rfl))) (fun _ _ _ _ _ => pts_nil) (fun _ _ _ _ _ => (pe_callTy (T := "list") (crK (K := K) (r := rListQ) rfl call_listQ) (by rfl) t.n_list (by decide +kernel) (pa_cons (pv 1) pa_nil)))))), ?_⟩
    obtain ⟨m, rv, rfl, ham, hrs⟩ := hv
    have g0 : Gr mu0 F H F H := Gr.refl sF
    refine ⟨_, rfl, m, rfl, ⟨_, SqL.of (sF _ _ ham)⟩, fun D nD => lc_list (K := K) (a := m) (xs := rv) (fun i G => ∃ (F4 : Hp) (xs : List V), Gr mu0 F H F4 G ∧ Ow H F4 G D (.lst xs) ∧ IsAll F4 xs (M.take i))
      ⟨F, [], g0.own nD, Ow.mk1 g0 nD, All2.nil⟩ (fun i G _ ⟨F4, xs, g, _⟩ => SqL.of (g.fh _ _ (g.ff _ _ ham))) ?_ ?_⟩
    · rintro i y G hi ⟨F4, xs, g, w, al⟩
      obtain ⟨row, hMi, ra, es, rfl, hra, hes⟩ := hrs.get' hi
      have il : i < rv.length := (List.getElem?_eq_some_iff.mp hi).1
      have hl' := hrs.1
      have lx : xs.length = i := by rw [al.1, List.length_take, ← hrs.1]; omega
      refine ⟨rfl, yes ⟨_, rfl, ra, es, rfl, .inl (SqL.of (g.fh _ _ (g.ff _ _ hra))), fun l nl => ⟨xs, (w.new nl).h, lt_size (by omega), ?_⟩⟩⟩
      have g4 := g.new (o := .lst es) nl
      have w4 := w.new (u := .lst es) nl
      have s4 : Same F4 (upd F4 l (.lst es)) := sm_new (Same.refl F4) (g.fh.free nl)
      refine ⟨_, xs ++ [.ref l], g4.set w4.f (.inl w4.n), w4.set, ?_⟩
      rw [List.take_add_one, hMi]
      exact (al.up s4).app (All2.one ⟨l, es, rfl, upd_same, IsAll.up (IsAll.up hes g.ff) s4⟩)
    · rintro G ⟨F4, xs, g, w, al⟩
      rw [hrs.1, List.take_length] at al
      exact q (upd F4 D (.lst xs)) G _ (g.frz w.h w.n w.f) ⟨D, xs, rfl, upd_same, al.up (sm_new (Same.refl F4) w.f)⟩
/-! ### five -/
structure T5 (α β γ δ ε : Type) where
  a : α
  b : β
  c : γ
  d : δ
  e : ε
  deriving DecidableEq
instance [Dat α] [Dat β] [Dat γ] [Dat δ] [Dat ε] : Dat (T5 α β γ δ ε) where
  rep := fun H v q => ∃ p x1 x2 x3 x4 x5, v = .ref p ∧ H p = some (.tup [x1, x2, x3, x4, x5]) ∧ Is H x1 q.a ∧ Is H x2 q.b ∧ Is H x3 q.c ∧ Is H x4 q.d ∧ Is H x5 q.e
  mono := fun s h => by
    obtain ⟨p, x1, x2, x3, x4, x5, e, h, i1, i2, i3, i4, i5⟩ := h
    exact ⟨p, x1, x2, x3, x4, x5, e, s _ _ h, Is.up i1 s, Is.up i2 s, Is.up i3 s, Is.up i4 s, Is.up i5 s⟩
  py := fun q => .tuple [Dat.py q.a, Dat.py q.b, Dat.py q.c, Dat.py q.d, Dat.py q.e]
  dp := fun h => by
    obtain ⟨p, x1, x2, x3, x4, x5, rfl, h, i1, i2, i3, i4, i5⟩ := h
    exact .tup (SqT.of h) (.cons (Dat.dp i1) (.cons (Dat.dp i2) (.cons (Dat.dp i3) (.cons (Dat.dp i4) (.cons (Dat.dp i5) .nil)))))
  can := fun q => by
    show (PyData.canLay0 (Dat.py q.a) && (PyData.canLay0 (Dat.py q.b) && (PyData.canLay0 (Dat.py q.c) && (PyData.canLay0 (Dat.py q.d) && (PyData.canLay0 (Dat.py q.e) && true))))) = true
    rw [Dat.can, Dat.can, Dat.can, Dat.can, Dat.can]; rfl
  dep := max (Dat.dep α) (max (Dat.dep β) (max (Dat.dep γ) (max (Dat.dep δ) (Dat.dep ε)))) + 1
  depth := fun q => by
    have h1 := Dat.depth q.a
    have h2 := Dat.depth q.b
    have h3 := Dat.depth q.c
    have h4 := Dat.depth q.d
    have h5 := Dat.depth q.e
    show max (PyData.depth (Dat.py q.a)) (max (PyData.depth (Dat.py q.b)) (max (PyData.depth (Dat.py q.c)) (max (PyData.depth (Dat.py q.d)) (max (PyData.depth (Dat.py q.e)) 0)))) + 1 ≤ _
    omega
  eqv := fun a b => by
    obtain ⟨a1, a2, a3, a4, a5⟩ := a; obtain ⟨b1, b2, b3, b4, b5⟩ := b
    simp [PyData.eqv, PyData.eqvAll, Dat.eqv]
/-! ### the law's own strips -/
theorem gr_same {F H H1 : Hp} (f : Same F H) (s : Same H H1) : Gr mu0 F H F H1 := ⟨fun _ _ h => h, fun c o h => s _ _ (f _ _ h), fun _ _ h => .inl h, fun c o h _ => s _ _ h, fun c h => s.free h⟩
theorem fB_one (f : Int → Int) : fB 1 (fun x => [f x]) = f := by
  funext x
  unfold fB
  rw [show ((1 : Nat) : Int) = 1 from rfl, Int.ediv_one, Int.emod_one]
  rfl
theorem gz_out {l : List PI} {x : Int} (h : x ∉ l.map (·.a)) : gz l x = 0 := by
  unfold gz
  rw [look_none.mpr h]; rfl
theorem dI_at {l : List PI} (h : Nd l) {x : Int} (m : x ∈ l.map (·.a)) : valV (dI l) (Sum.inl x) = some (V.int (gz l x)) := by
  rw [dI_val]
  cases e : look l x with
  | none => exact absurd m (look_none.mp e)
  | some v =>
    unfold gz
    rw [e]; rfl
def sp_L_strip : Sp := fun vs H Q _ => ∃ (F : Hp) (d : Addr) (l : List PI), vs = [.ref d] ∧ Same F H ∧ H d = some (.dK (dI l)) ∧ Nd l ∧ l.length ≤ 100000 ∧
  ∀ (F' H' : Hp) (D : Addr) (xs : List V) (z : List PI), Gr mu0 F H F' H' → Ow H F' H' D (.lst xs) → IsAll F' xs z → IsSt z (gz l) → Q (.ref D) H'
theorem ok_L_strip (t : Tx K mg) : FnOk P w K mg base CX0 1 t.a_L_strip t.fd_L_strip ["_law_signs"] sp_L_strip := by
  refine t.F_L_strip.ok sc_L_strip (fun vs H Q E h => ?_) (fun cdv A outer s H vs Q E hr h => ?_)
  · obtain ⟨F, d, l, rfl, _⟩ := h
    rfl
  · obtain ⟨F, d, l, rfl, sF, hd, nd, ll, q⟩ := h
    refine ⟨_, (pss_one (ps_ret (pe_lc (own := [("_law_place", 1)]) (g := gName 1) rfl sc_L_strip.nd (pi_list (pe_callB (id := "sorted") (call_sortDI rfl) (by rfl) t.n_sorted (by decide +kernel) (pa_cons (pv 0) pa_nil))) (blkOk_by (N := N_L_strip) (sc := defScope s_L_strip) (by decide +kernel)) (fun _ _ _ _ _ => (pg_name (i := 1) sc_L_strip.nd rfl (by first | exact Or.inl rfl | exact Or.inr rfl))) (fun _ _ _ _ _ => (pts_one (pt_cmpR op_ne (pe_dget (hu_of hr) (pv 0) (pv 1) (fun _ _ => rfl)) pe_int (nomark _)))) (fun _ _ _ _ _ => (pe_tup (pa_cons (pv 1) (pa_cons (pe_dget (hu_of hr) (pv 0) (pv 1) (fun _ _ => rfl)) pa_nil))))))), ?_⟩
    have g0 : Gr mu0 F H F H := Gr.refl sF
    refine ⟨_, rfl, ?_⟩
    unfold rSortDI
    refine ⟨d, dI l, l.map (·.a), rfl, .inl hd, by unfold dI; rw [List.map_map, List.map_map]; rfl, fun ys p hperm hsort np => ?_⟩
    have g1 := g0.own (o := .lst (ys.map V.int)) np
    have hd1 := ln (u := .lst (ys.map V.int)) np hd
    have hp1 : (upd H p (.lst (ys.map V.int))) p = some (.lst (ys.map V.int)) := upd_same
    generalize upd H p (.lst (ys.map V.int)) = H1 at g1 hd1 hp1 ⊢
    have ylen : ys.length = l.length := by rw [hperm.length_eq, List.length_map]
    have ynd : ys.Nodup := hperm.nodup_iff.mpr nd
    have yst : ys.Pairwise (· < ·) := by
      have z : ys.Pairwise (fun a b => a ≤ b ∧ a ≠ b) := List.Pairwise.and hsort ynd
      exact z.imp fun {a b} h => by omega
    refine ⟨p, rfl, ⟨_, SqL.of hp1⟩, fun D nD => ?_⟩
    have hpD : p ≠ D := ne_of_none hp1 nD
    refine lc_list (K := K) (a := p) (xs := ys.map V.int) (fun i G => ∃ (F1 : Hp) (xs : List V), Gr mu0 F H F1 G ∧ Ow H F1 G D (.lst xs) ∧ IsAll F1 xs (stripO 1 (fun x => [gz l x]) (ys.take i)) ∧ G p = some (.lst (ys.map V.int)) ∧ G d = some (.dK (dI l)))
      ⟨F, [], g1.own nD, Ow.mk1 g1 nD, All2.nil, ln nD hp1, ln nD hd1⟩ (fun i G _ ⟨F1, xs, _, _, _, hp, _⟩ => SqL.of hp) ?_ ?_
    · rintro i x G hi ⟨F1, xs, g, w, al, hp, hd⟩
      rw [List.getElem?_map] at hi
      obtain ⟨a, hy, rfl⟩ := Option.map_eq_some_iff.mp hi
      have hv := dI_at nd (hperm.mem_iff.mp (List.mem_of_getElem? hy))
      have hg : ∀ {H2 : Hp}, H2 d = some (.dK (dI l)) → DGet H2 d (.int a) (some (V.int (gz l a))) := fun {H2} h => by
        have z := DGet.k (k := Sum.inl a) h
        rw [hv] at z; exact z
      have es : stripO 1 (fun x => [gz l x]) (ys.take (i + 1)) = stripO 1 (fun x => [gz l x]) (ys.take i) ++ (if gz l a ≠ 0 then [⟨a, gz l a⟩] else []) := by
        rw [List.take_add_one, hy]
        show stripO 1 _ (ys.take i ++ [a]) = _
        rw [stripO_snoc]
        congr 1
        show (if gz l a ≠ 0 then ([⟨a * ((1 : Nat) : Int), gz l a⟩] : List PI) else []) ++ [] = _
        rw [List.append_nil, show a * ((1 : Nat) : Int) = a by rw [show ((1 : Nat) : Int) = 1 from rfl, Int.mul_one]]
      refine ⟨rfl, _, rfl, _, rfl, d, _, rfl, hg hd, rfl, _, rfl, ?_⟩
      have len : xs.length ≤ 100000 := by
        have e1 := len_stripO (k := 1) (B := fun x => [gz l x]) (fun _ => rfl) (ys.take i)
        rw [List.length_take] at e1
        have := al.1
        omega
      by_cases z : gz l a = 0
      · refine ifF (by
          show (!decide (V.int (gz l a) = V.int 0)) = false
          rw [z]; rfl) ⟨F1, xs, g, w, ?_, hp, hd⟩
        rw [es, if_neg (fun h => h z), List.append_nil]
        exact al
      · refine ifT (by
          show (!decide (V.int (gz l a) = V.int 0)) = true
          rw [int_eq2, decide_eq_false z]; rfl) ?_
        refine ⟨_, rfl, _, rfl, _, rfl, d, _, rfl, hg hd, two_le, fun T nT => ⟨xs, (w.new nT).h, lt_size (by omega), ?_⟩⟩
        have g4 := g.new (o := .tup [.int a, .int (gz l a)]) nT
        have w4 := w.new (u := .tup [.int a, .int (gz l a)]) nT
        have s4 : Same F1 (upd F1 T (.tup [.int a, .int (gz l a)])) := sm_new (Same.refl F1) (g.fh.free nT)
        have Dp' : p ≠ D := hpD
        have Dd : d ≠ D := fun e => by rw [e, w.h] at hd; cases hd
        refine ⟨_, xs ++ [.ref T], g4.set w4.f (.inl w4.n), w4.set, ?_, by rw [upd_ne Dp']; exact ln nT hp, by rw [upd_ne Dd]; exact ln nT hd⟩
        rw [es, if_pos z]
        exact (al.up s4).app (All2.one ⟨T, _, _, rfl, upd_same, rfl, rfl⟩)
    · rintro G ⟨F1, xs, g, w, al, hp, hd⟩
      rw [List.length_map, List.take_length] at al
      refine q F1 G D xs _ g w al ?_
      have z := strip_ok (k := 1) (Nat.le_refl 1) (B := fun x => [gz l x]) (fun _ => rfl) yst fun a na v m => by
        rw [List.mem_singleton.mp m]
        exact gz_out fun h => na (hperm.mem_iff.mpr h)
      rw [fB_one] at z
      exact z
def sp_L_around : Sp := fun vs H Q _ => ∃ (F : Hp) (d : Addr) (l : List PI) (x : Int) (k : Nat), vs = [.ref d, .int x, .int k] ∧ Same F H ∧ H d = some (.dK (dI l)) ∧ 1 ≤ k ∧ k ≤ 10 ∧
  ∀ (F' H' : Hp) (b : Addr), Gr mu0 F H F' H' → F' b = some (.tup (((List.range k).map fun (j : Nat) => gz l (x / k * k + (j : Int))).map V.int)) → Q (.ref b) H'
theorem ok_L_around (t : Tx K mg) : FnOk P w K mg base CX0 1 t.a_L_around t.fd_L_around ["_law_signs", "_law_place", "_law_k"] sp_L_around := by
  refine t.F_L_around.ok sc_L_around (fun vs H Q E h => ?_) (fun cdv A outer s H vs Q E hr h => ?_)
  · obtain ⟨F, d, l, x, k, rfl, _⟩ := h
    rfl
  · obtain ⟨F, d, l, x, k, rfl, sF, hd, k1, k10, q⟩ := h
    refine ⟨_, (pss_cons (ps_set (i := 3) sc_L_around.nd rfl (by first | exact Or.inl rfl | exact Or.inr rfl) (pe_op op_mul (pe_op op_fdiv (pv 1) (pv 2)) (pv 2)))
      (pss_one (ps_ret (pe_callTy (T := "tuple") call_tupQ (by rfl) t.n_tuple (by decide +kernel) (pa_cons (pe_lc (own := [("_law_j", 4)]) (g := gName 4) (tt := tYes) rfl sc_L_around.nd (pi_range1 (by rfl) t.n_range (pa_cons (pv 2) pa_nil)) (blkOk_by (N := N_L_around) (sc := defScope s_L_around) (by decide +kernel)) (fun _ _ _ _ _ => (pg_name (i := 4) sc_L_around.nd rfl (by first | exact Or.inl rfl | exact Or.inr rfl))) (fun _ _ _ _ _ => pts_nil) (fun _ _ _ _ _ => (pe_dget2 (hu_of hr) (pv 0) (pe_op op_add (pv 3) (pv 4)) pe_int ⟨by rfl, by rfl, by rfl, by rfl⟩))) pa_nil))))), ?_⟩
    have g0 : Gr mu0 F H F H := Gr.refl sF
    refine ⟨_, rfl, _, rfl, _, _, rfl, rfl, ⟨by omega, by omega⟩, _, rfl, _, _, rfl, rfl, .inr ⟨by omega, by omega⟩, ?_⟩
    refine ⟨_, rfl, (k : Int), rfl, by omega, by omega, fun D nD => lc_range (lo := 0) (n := ((k : Int)).toNat) (fun i G => Gr mu0 F H F G ∧ G d = some (.dK (dI l)) ∧ Ow H F G D (.lst (((List.range i).map fun (j : Nat) => gz l (x / k * k + (j : Int))).map V.int)))
      ⟨g0.own nD, ln nD hd, Ow.mk1 g0 nD⟩ ?_ ?_⟩
    · rintro i G hi ⟨g, hd, w⟩
      refine ⟨rfl, yes ⟨_, rfl, d, rfl, .inl ⟨_, .inl hd⟩, _, rfl, _, rfl, _, _, rfl, rfl, _, DGet.k (k := Sum.inl (x / k * k + (0 + (i : Int)))) hd, ?_⟩⟩
      have hD : d ≠ D := fun e => by rw [e, w.h] at hd; cases hd
      rw [dI_val, getD_int]
      refine ⟨_, w.h, by rw [List.length_map, List.length_map, List.length_range]; exact lt_size (by omega), g.set w.f (.inl w.n), by rw [upd_ne hD]; exact hd, ?_⟩
      rw [List.range_succ, List.map_append, List.map_append, show (0 + (i : Int)) = (i : Int) by omega]
      exact w.set
    · rintro G ⟨g, hd, w⟩
      refine ⟨D, _, rfl, .inl ⟨SqL.of w.h, fun b nb => ?_⟩⟩
      rw [Int.toNat_natCast] 
      exact q _ _ b (g.new nb) upd_same
/-! ### what is told, looked at -/
abbrev Y5 := T5 TStr Int Int Int (List PI)
theorem inV_rep (n : Nat) : inV (V.bl false) (List.replicate n (V.bl true)) = false := by
  unfold inV
  rw [List.any_eq_false]
  intro x z
  rw [(List.mem_replicate.mp z).2]
  decide
theorem flat_rep (n : Nat) : (List.replicate n (V.bl true)).all flatV = true := by
  rw [List.all_eq_true]
  intro x z
  rw [(List.mem_replicate.mp z).2]
  rfl
def sp_L_is_strip : Sp := fun vs H Q _ => ∃ (F : Hp) (v : V) (z : List PI), vs = [v] ∧ Same F H ∧ Is F v z ∧ Q (.bl true) H
theorem ok_L_is_strip (t : Tx K mg) : FnOk P w K mg base CX0 2 t.a_L_is_strip t.fd_L_is_strip ["_law_strip_here"] sp_L_is_strip := by
  refine t.F_L_is_strip.ok sc_L_is_strip (fun vs H Q E h => ?_) (fun cdv A outer s H vs Q E hr h => ?_)
  · obtain ⟨F, v, z, rfl, _⟩ := h
    rfl
  · obtain ⟨F, v, z, rfl, sF, hv, q⟩ := h
    refine ⟨_, (pss_cons (ps_if (pt_not (pt_val (pe_callB (id := "isinstance") call_isi (by rfl) t.n_isinstance (by decide +kernel) (pa_cons (pv 0) (pa_cons (pe_bltn (v := .ty "list") (by rfl) t.n_list (by decide +kernel) rfl) pa_nil))))) (pss_one (ps_ret pe_bl)) pss_nil)
      (pss_cons (ps_for PassesOwn.never rfl (pi_list (pv 0)) (pg_name (i := 1) sc_L_is_strip.nd rfl (by first | exact Or.inl rfl | exact Or.inr rfl)) (pss_one (ps_if (PW.pt (pw_or (pt_not (pt_val (pe_callB (id := "isinstance") call_isi (by rfl) t.n_isinstance (by decide +kernel) (pa_cons (pv 1) (pa_cons (pe_bltn (v := .ty "tuple") (by rfl) t.n_tuple (by decide +kernel) rfl) pa_nil))))) (pw_or (pt_cmpR op_ne (pe_callB (id := "len") call_lenQ (by rfl) t.n_len (by decide +kernel) (pa_cons (pv 1) pa_nil)) pe_int (nomark _)) (pw_or (pt_not (pt_val (pe_call (ok_L_whole t) (hr.mono (by decide)) (by rfl) t.m_L_whole t.F_L_whole.kp t.b_L_whole .nil pass0 (pa_cons (pe_ix ix_tup (pv 1) pe_int (fun _ _ => rfl)) pa_nil)))) (pw_or1 (pt_not (pt_val (pe_call (ok_L_whole t) (hr.mono (by decide)) (by rfl) t.m_L_whole t.F_L_whole.kp t.b_L_whole .nil pass0 (pa_cons (pe_ix ix_tup (pv 1) pe_int (fun _ _ => rfl)) pa_nil))))))))) (pss_one (ps_ret pe_bl)) pss_nil)))
      (pss_one (ps_ret pe_bl)))), ?_⟩
    obtain ⟨a, xs, rfl, ha, hxs⟩ := hv
    have ha := sF _ _ ha
    refine ⟨_, rfl, _, _, _, _, true, rfl, .ty "list", .base (.lst ha), kt_list, _, rfl, ifF rfl ?_⟩
    refine ⟨_, rfl, a, rfl, ⟨_, SqL.of ha⟩, for_list (K := K) (a := a) (xs := xs) (fun i σ G => ∃ v1 : Option V, σ = [some (.ref a), v1] ∧ G = H) ⟨none, rfl, rfl⟩ (fun i σ G _ ⟨_, _, e⟩ => by rw [e]; exact SqL.of ha) ?_ ?_⟩
    · rintro i x σ G hi ⟨v1, rfl, rfl⟩
      obtain ⟨d, hd, p, y1, y2, rfl, hp, f1, f2⟩ := hxs.get' hi
      have f1 : y1 = .int d.a := f1
      have f2 : y2 = .int d.b := f2
      subst f1
      subst f2
      have hp := sF _ _ hp
      refine ⟨_, rfl, _, _, _, _, true, rfl, .ty "tuple", .base (.tup hp), kt_tup, _, rfl, ifF rfl ?_⟩
      refine ⟨_, rfl, p, _, rfl, .inr (SqT.of hp), rfl, _, rfl, ifF rfl ?_⟩
      refine ⟨_, rfl, p, _, _, _, rfl, rfl, SqT.of hp, atI_nat (j := 0) rfl, d.a, rfl, _, rfl, ifF rfl ?_⟩
      refine ⟨_, rfl, p, _, _, _, rfl, rfl, SqT.of hp, atI_nat (j := 1) rfl, d.b, rfl, _, rfl, ifF rfl ?_⟩
      exact ⟨_, rfl, rfl⟩
    · rintro σ G ⟨v1, rfl, rfl⟩
      exact q
def sp_L_good : Sp := fun vs H Q _ => ∃ (v u : V) (y : Y5), vs = [v, u] ∧ Is H v y ∧ Is H u y ∧ ∀ H' : Hp, Same H H' → Q (.bl true) H'
theorem ok_L_good (t : Tx K mg) : FnOk P w K mg base CX0 3 t.a_L_good t.fd_L_good ["_law_found", "_law_due"] sp_L_good := by
  refine t.F_L_good.ok sc_L_good (fun vs H Q E h => ?_) (fun cdv A outer s H vs Q E hr h => ?_)
  · obtain ⟨v, u, y, rfl, _⟩ := h
    rfl
  · obtain ⟨v, u, y, rfl, hv, hu, q⟩ := h
    refine ⟨_, (pss_cons (ps_if (PW.pt (pw_or (pt_not (pt_val (pe_callB (id := "isinstance") call_isi (by rfl) t.n_isinstance (by decide +kernel) (pa_cons (pv 0) (pa_cons (pe_bltn (v := .ty "tuple") (by rfl) t.n_tuple (by decide +kernel) rfl) pa_nil))))) (pw_or (pt_cmpR op_ne (pe_callB (id := "len") call_lenQ (by rfl) t.n_len (by decide +kernel) (pa_cons (pv 0) pa_nil)) pe_int (nomark _)) (pw_or (pt_cmpR (op_neD hr.units) (pv 0) (pv 1) (nomark _)) (pw_or1 (pt_not (pt_val (pe_call (ok_L_is_strip t) (hr.mono (by decide)) (by rfl) t.m_L_is_strip t.F_L_is_strip.kp t.b_L_is_strip .nil pass0 (pa_cons (pe_ix ix_tup (pv 0) pe_int (fun _ _ => rfl)) pa_nil))))))))) (pss_one (ps_ret pe_bl)) pss_nil)
      (pss_one (ps_ret (pe_cmpR op_notIn_seq pe_bl (pe_lc (own := [("_law_number", 2)]) (g := gName 2) (tt := tYes) rfl sc_L_good.nd (pi_tup (pe_slice sl_tupQ (pv 0) (po_some pe_int) (po_some pe_int))) (blkOk_by (N := N_L_good) (sc := defScope s_L_good) (by decide +kernel)) (fun _ _ _ _ _ => (pg_name (i := 2) sc_L_good.nd rfl (by first | exact Or.inl rfl | exact Or.inr rfl))) (fun _ _ _ _ _ => pts_nil) (fun _ _ _ _ _ => (pe_call (ok_L_whole t) (hr.mono (by decide)) (by rfl) t.m_L_whole t.F_L_whole.kp t.b_L_whole .nil pass0 (pa_cons (pv 2) pa_nil)))) (by rfl))))), ?_⟩
    obtain ⟨p, x1, x2, x3, x4, x5, rfl, hp, i1, i2, i3, i4, i5⟩ := id hv
    have i1 : x1 = .str y.a.x := i1
    have i2 : x2 = .int y.b := i2
    have i3 : x3 = .int y.c := i3
    have i4 : x4 = .int y.d := i4
    subst i1
    subst i2
    subst i3
    subst i4
    refine ⟨_, rfl, _, _, _, _, true, rfl, .ty "tuple", .base (.tup hp), kt_tup, _, rfl, ifF rfl ?_⟩
    refine ⟨_, rfl, p, _, rfl, .inr (SqT.of hp), rfl, _, rfl, ifF rfl ?_⟩
    refine ⟨_, rfl, _, rfl, ne_dat (a := y) (b := y) hv hu ⟨_, rfl, ifF (by rw [decide_eq_true rfl]; rfl) ?_⟩⟩
    refine ⟨_, rfl, p, _, _, _, rfl, rfl, SqT.of hp, atI_nat (j := 4) rfl, H, x5, y.e, rfl, Same.refl H, i5, _, rfl, ifF rfl ?_⟩
    refine ⟨_, rfl, _, rfl, _, rfl, slA_cut (SqT.of hp) (by show ¬ (HT.sIx 5 _ _ = 0 ∧ HT.sIx 5 5 _ = 5); decide) fun c nc => ?_⟩
    have ec : cutV [V.str y.a.x, .int y.b, .int y.c, .int y.d, x5] (some 1) (some 4) = [y.b, y.c, y.d].map V.int := rfl
    rw [ec]
    have s1 : Same H (upd H c (.tup ([y.b, y.c, y.d].map V.int))) := sm_up nc
    have hc : (upd H c (.tup ([y.b, y.c, y.d].map V.int))) c = some (.tup ([y.b, y.c, y.d].map V.int)) := upd_same
    generalize upd H c (.tup ([y.b, y.c, y.d].map V.int)) = H1 at s1 hc ⊢
    refine ⟨c, rfl, ⟨_, SqT.of hc⟩, fun D nD => lc_tup (K := K) (a := c) (xs := [y.b, y.c, y.d].map V.int) (fun i G => Same H1 G ∧ H1 D = none ∧ G D = some (.lst (List.replicate i (V.bl true))))
      ⟨sm_up nD, nD, upd_same⟩ (fun i G _ z => SqT.of (z.1 _ _ hc)) ?_ ?_⟩
    · rintro i x G hx ⟨sG, nD, hD⟩
      rw [List.getElem?_map] at hx
      obtain ⟨z, hz, rfl⟩ := Option.map_eq_some_iff.mp hx
      have il : i < 3 := (List.getElem?_eq_some_iff.mp hz).1
      refine ⟨rfl, yes ⟨_, rfl, z, rfl, _, hD, by rw [List.length_replicate]; exact lt_size (by omega), ?_⟩⟩
      rw [rep_snoc]
      exact ⟨fun b o e => by rw [upd_ne (ne_of_none e nD)]; exact sG b o e, nD, upd_same⟩
    · rintro G ⟨sG, nD, hD⟩
      refine ⟨D, _, rfl, .inl (SqL.of hD), rfl, flat_rep _, ?_⟩
      rw [inV_rep]
      exact q G fun b o e => sG b o (s1 b o e)
/-! ### the law's own walk -/
abbrev Mk3 := T3 Int Int (Tup Int)
theorem int_len {lo : Int} {n : Nat} {l : List Int} (nd : l.Nodup) (h : ∀ x ∈ l, lo ≤ x ∧ x < lo + n) : l.length ≤ n := by
  rcases Nat.lt_or_ge n l.length with z | z
  · exfalso
    obtain ⟨i, j, ij, jn, q⟩ := pig n (fun i => ((l[i]?).getD lo - lo).toNat) fun i li => by
      have e : l[i]? = some l[i] := List.getElem?_eq_getElem (by omega)
      have hx := h l[i] (List.getElem_mem _)
      show ((l[i]?).getD lo - lo).toNat < n
      rw [e]
      show (l[i] - lo).toNat < n
      omega
    have li : i < l.length := by omega
    have lj : j < l.length := by omega
    have q : ((l[i]?).getD lo - lo).toNat = ((l[j]?).getD lo - lo).toNat := q
    rw [List.getElem?_eq_getElem li, List.getElem?_eq_getElem lj] at q
    have q : (l[i] - lo).toNat = (l[j] - lo).toNat := q
    have hi := h l[i] (List.getElem_mem _)
    have hj := h l[j] (List.getElem_mem _)
    exact List.pairwise_iff_getElem.mp nd i j li lj ij (by omega)
  · exact z
def bsM (k : Nat) (a : Int) (b : Bs) : Mk3 := ⟨b.r, a * k + b.p, ⟨b.s⟩⟩
theorem bsM_inj {k : Nat} {a : Int} {b b' : Bs} (h : bsM k a b = bsM k a b') : b = b' := by
  obtain ⟨s, p, r⟩ := b
  obtain ⟨s', p', r'⟩ := b'
  simp only [bsM, T3.mk.injEq, Tup.mk.injEq] at h
  obtain ⟨h1, h2, h3⟩ := h
  rw [h1, h3, show p = p' by omega]
theorem around_eq {R S k : Nat} {c : Cfg} {B : Int → List Int} {a : Int} {b : Bs} (k1 : 1 ≤ k) (h : RepB k c B a b) (ok : BOk R S k b) : ((List.range k).map fun (j : Nat) => gz c.l (c.s / k * k + (j : Int))) = b.s := by
  refine List.ext_getElem? fun j => ?_
  have ea : c.s / (k : Int) = a := by rw [h.s]; exact (dm k1 ok.p0 ok.p1).1
  by_cases l : j < k
  · rw [List.getElem?_map, List.getElem?_range l, ea]
    show some (gz c.l (a * k + j)) = _
    rw [h.f, fB_at k1 _ (by omega) (by omega), Int.toNat_natCast, List.getElem?_eq_getElem (by rw [ok.len]; exact l)]
    rfl
  · rw [List.getElem?_eq_none (by rw [List.length_map, List.length_range]; omega), List.getElem?_eq_none (by rw [ok.len]; omega)]
/-- states that are told apart are few -/
theorem few {M : Mach} {R S k i : Nat} {b : Bs} (hM : MOk M R S) (ok : BOk R S k b) (hs : ∀ j, j < i → tj M j b ≠ none) (nd : ∀ j1 j2, j1 < j2 → j2 < i → tj M j1 b ≠ tj M j2 b) : i ≤ R * k * S ^ k := by
  rcases Nat.lt_or_ge (R * k * S ^ k) i with z | z
  · exfalso
    have a : ∀ j, j ≤ R * k * S ^ k → ∃ c, tj M j b = some c := fun j lj => by
      cases e : tj M j b with
      | none => exact absurd e (hs j (by omega))
      | some c => exact ⟨c, rfl⟩
    obtain ⟨j1, j2, l, l2, q⟩ := pig (R * k * S ^ k) (fun j => code R S k ((tj M j b).getD b)) fun j lj => by
      obtain ⟨c, ec⟩ := a j lj
      show code R S k ((tj M j b).getD b) < _
      rw [ec]
      exact code_lt (tj_ok hM j b c ok ec)
    obtain ⟨c1, e1⟩ := a j1 (by omega)
    obtain ⟨c2, e2⟩ := a j2 l2
    have q : code R S k ((tj M j1 b).getD b) = code R S k ((tj M j2 b).getD b) := q
    rw [e1, e2] at q
    have e := code_inj (tj_ok hM j1 b c1 ok e1) (tj_ok hM j2 b c2 ok e2) q
    exact nd j1 j2 l (by omega) (by rw [e1, e2, e])
  · exact z
theorem cx_prog {CX : CXT} {P : Program} {w : World} {K : PySem.W.Frag} {mg : Str → Option Value} {base : Heap} {N : List Str} {qual : Str} {scope : Scope} {f : Addr} {cd : Value} {A : Around} {outer : List Env} {s : Shared} {H : Hp} {E : XK} : (cxOf CX P w K mg base N qual scope f cd A outer s H E).nox.prog = P := rfl
theorem cx_w {CX : CXT} {P : Program} {w : World} {K : PySem.W.Frag} {mg : Str → Option Value} {base : Heap} {N : List Str} {qual : Str} {scope : Scope} {f : Addr} {cd : Value} {A : Around} {outer : List Env} {s : Shared} {H : Hp} {E : XK} : (cxOf CX P w K mg base N qual scope f cd A outer s H E).nox.w = w := rfl
def sp_L_walked (P : Program) (w : World) : Sp := fun vs H Q _ => ∃ (F : Hp) (m : V) (M : Mach) (R S k N : Nat), vs = [m, .int k, .int N] ∧ Same F H ∧ Is F m M ∧ MOk M R S ∧ 1 ≤ k ∧ k ≤ 4 ∧ N ≤ 400 ∧
  ∀ (F' H' : Hp) (v : V) (z : List PI) (Y : ByR), byB M R S k N (W0 k) = Y → Gr mu0 F H F' H' → Is F' v (⟨Y.w, Y.st, Y.row, Y.pl, z⟩ : Y5) → IsSt z (fB k Y.B) → Q v H'
theorem ok_L_walked (t : Tx K mg) : FnOk P w K mg base CX0 2 t.a_L_walked t.fd_L_walked ["_law_machine_here", "_law_k", "_law_many"] (sp_L_walked P w) := by
  refine t.F_L_walked.ok sc_L_walked (fun vs H Q E h => ?_) (fun cdv A outer s H vs Q E hr h => ?_)
  · obtain ⟨F, m, M, R, S, k, N, rfl, _⟩ := h
    rfl
  · obtain ⟨F, m, M, R, S, k, N, rfl, sF, hm, hM, k1, k4, hN, q⟩ := h
    refine ⟨_, (pss_cons (ps_set (i := 3) sc_L_walked.nd rfl (by first | exact Or.inl rfl | exact Or.inr rfl) pe_int)
      (pss_cons (ps_set (i := 4) sc_L_walked.nd rfl (by first | exact Or.inl rfl | exact Or.inr rfl) pe_int)
      (pss_cons (ps_set (i := 5) sc_L_walked.nd rfl (by first | exact Or.inl rfl | exact Or.inr rfl) pe_int)
      (pss_cons (ps_set (i := 6) sc_L_walked.nd rfl (by first | exact Or.inl rfl | exact Or.inr rfl) pe_dnewK)
      (pss_cons (ps_set (i := 7) sc_L_walked.nd rfl (by first | exact Or.inl rfl | exact Or.inr rfl) (pe_callTy (T := "int") call_int1 (by rfl) t.n_int (by decide +kernel) (pa_cons (pe_cmpR op_gt (pv 2) pe_int (nomark _)) pa_nil)))
      (pss_cons (ps_set (i := 8) sc_L_walked.nd rfl (by first | exact Or.inl rfl | exact Or.inr rfl) pe_nnew)
      (pss_cons (ps_set (i := 9) sc_L_walked.nd rfl (by first | exact Or.inl rfl | exact Or.inr rfl) (pe_tup (pa_cons pe_int (pa_cons pe_int (pa_cons pe_int (pa_cons (pe_lst pa_nil) pa_nil))))))
      (pss_cons (ps_while PassesOwn.never (pt_cmpR op_gt (pv 2) pe_int (nomark _)) (pss_cons (ps_set (i := 10) sc_L_walked.nd rfl (by first | exact Or.inl rfl | exact Or.inr rfl) (pe_tup (pa_cons (pv 3) (pa_cons (pv 4) (pa_cons (pe_call (ok_L_around t) (hr.mono (by decide)) (by rfl) t.m_L_around t.F_L_around.kp t.b_L_around .nil pass0 (pa_cons (pv 6) (pa_cons (pv 4) (pa_cons (pv 1) pa_nil)))) pa_nil)))))
      (pss_cons (ps_if (pt_cmp (pc_nin (units9 hr) (pv 10) (pv 8))) (pss_one (ps_ret (pe_op op_catQ (pe_tup (pa_cons pe_str pa_nil)) (pv 9)))) pss_nil)
      (pss_cons (ps_nput (units9 hr) (pv 8) (pv 10) pe_bl rfl)
      (pss_cons (ps_set (i := 11) sc_L_walked.nd rfl (by first | exact Or.inl rfl | exact Or.inr rfl) (pe_ix ix_list (pe_ix ix_list (pv 0) (pv 3) (fun _ _ => rfl)) (pe_dget2 (hu_of hr) (pv 6) (pv 4) pe_int ⟨by rfl, by rfl, by rfl, by rfl⟩) (fun _ _ => rfl)))
      (pss_cons (ps_if (pt_cmpR (op_eqD hr.units) (pv 11) (pe_tup pa_nil) (nomark _)) (pss_one (ps_ret (pe_tup (pa_cons pe_str (pa_cons (pv 5) (pa_cons (pv 3) (pa_cons (pv 4) (pa_cons (pe_call (ok_L_strip t) (hr.mono (by decide)) (by rfl) t.m_L_strip t.F_L_strip.kp t.b_L_strip .nil pass0 (pa_cons (pv 6) pa_nil)) pa_nil)))))))) pss_nil)
      (pss_cons (ps_set (i := 12) sc_L_walked.nd rfl (by first | exact Or.inl rfl | exact Or.inr rfl) (pe_op op_fdiv (pv 4) (pv 1)))
      (pss_cons (ps_dput (hu_of hr) (pv 6) (pv 4) (pe_ix ix_tup (pv 11) pe_int (fun _ _ => rfl)) rfl)
      (pss_cons (ps_set (i := 4) sc_L_walked.nd rfl (by first | exact Or.inl rfl | exact Or.inr rfl) (pe_op op_add (pv 4) (pe_ix ix_tup (pv 11) pe_int (fun _ _ => rfl))))
      (pss_cons (ps_set (i := 3) sc_L_walked.nd rfl (by first | exact Or.inl rfl | exact Or.inr rfl) (pe_ix ix_tup (pv 11) pe_int (fun _ _ => rfl)))
      (pss_cons (ps_set (i := 5) sc_L_walked.nd rfl (by first | exact Or.inl rfl | exact Or.inr rfl) (pe_op op_add (pv 5) pe_int))
      (pss_one (ps_if (pt_cmpR op_ne (pe_op op_fdiv (pv 4) (pv 1)) (pv 12) (nomark _)) (pss_cons (ps_if (pt_cmpR op_eq (pv 7) (pv 2) (nomark _)) (pss_one (ps_ret (pe_tup (pa_cons pe_str (pa_cons (pv 5) (pa_cons (pv 3) (pa_cons (pv 4) (pa_cons (pe_call (ok_L_strip t) (hr.mono (by decide)) (by rfl) t.m_L_strip t.F_L_strip.kp t.b_L_strip .nil pass0 (pa_cons (pv 6) pa_nil)) pa_nil)))))))) pss_nil)
      (pss_cons (ps_set (i := 7) sc_L_walked.nd rfl (by first | exact Or.inl rfl | exact Or.inr rfl) (pe_op op_add (pv 7) pe_int))
      (pss_cons (ps_set (i := 8) sc_L_walked.nd rfl (by first | exact Or.inl rfl | exact Or.inr rfl) pe_nnew)
      (pss_one (ps_set (i := 9) sc_L_walked.nd rfl (by first | exact Or.inl rfl | exact Or.inr rfl) (pe_tup (pa_cons (pv 5) (pa_cons (pv 3) (pa_cons (pv 4) (pa_cons (pe_call (ok_L_strip t) (hr.mono (by decide)) (by rfl) t.m_L_strip t.F_L_strip.kp t.b_L_strip .nil pass0 (pa_cons (pv 6) pa_nil)) pa_nil)))))))))) pss_nil)))))))))))))
      (pss_one (ps_ret (pe_tup (pa_cons pe_str (pa_cons pe_int (pa_cons pe_int (pa_cons pe_int (pa_cons (pe_lst pa_nil) pa_nil)))))))))))))))), ?_⟩
    have g0 : Gr mu0 F H F H := Gr.refl sF
    have S1 : 1 ≤ S := by have := hM.s2; omega
    have N0 : R * k * S ^ k ≤ 4096 := by
      have a : S ^ k ≤ 4 ^ 4 := Nat.le_trans (Nat.pow_le_pow_left hM.s4 _) (Nat.pow_le_pow_right (by decide) (by omega))
      have b : R * k ≤ 4 * 4 := Nat.mul_le_mul hM.r4 k4
      exact Nat.le_trans (Nat.mul_le_mul b a) (by decide)
    -- what is told: five things
    have fin : ∀ (Y : ByR), byB M R S k N (W0 k) = Y → ∀ (F1 G : Hp) (l : Addr) (xs : List V) (z : List PI), Gr mu0 F H F1 G → F1 l = some (.lst xs) → IsAll F1 xs z → IsSt z (fB k Y.B) → ∀ u, G u = none → Q (.ref u) (upd G u (.tup [.str Y.w.x, .int Y.st, .int Y.row, .int Y.pl, .ref l])) := by
      intro Y eY F1 G l xs z g hl al st u nu
      have s1 : Same F1 (upd F1 u (.tup [.str Y.w.x, .int Y.st, .int Y.row, .int Y.pl, .ref l])) := sm_new (Same.refl F1) (g.fh.free nu)
      exact q _ _ _ z Y eY (g.new nu) ⟨u, _, _, _, _, _, rfl, upd_same, rfl, rfl, rfl, rfl, l, xs, rfl, s1 _ _ hl, IsAll.up al s1⟩ st
    refine fun d nd => ?_
    have g1 := g0.own (o := .dK []) nd
    have w1 : Ow H F (upd H d (.dK [])) d (.dK (dI [])) := Ow.mk1 g0 nd
    generalize upd H d (.dK []) = H1 at g1 w1 ⊢
    refine ⟨_, rfl, _, _, rfl, rfl, .inr ⟨_, rfl, ?_⟩⟩
    rw [cx_prog, cx_w]
    refine fun sn nsn => ?_
    rw [show DictN P w sn [] = DictD P w sn ([] : DL Mk3) from rfl]
    have g2 := g1.own (o := DictD P w sn ([] : DL Mk3)) nsn
    have w2 := w1.own (u := DictD P w sn ([] : DL Mk3)) nsn
    have ws2 : Ow H F (upd H1 sn (DictD P w sn ([] : DL Mk3))) sn (DictD P w sn ([] : DL Mk3)) := Ow.mk1 g1 nsn
    have dsn : d ≠ sn := w1.ne nsn
    generalize upd H1 sn (DictD P w sn ([] : DL Mk3)) = H2 at g2 w2 ws2 ⊢
    refine ⟨nil_le, fun bl nbl => ⟨by show 4 ≤ sizeLine; decide, fun bg nbg => ?_⟩⟩
    have g3 := g2.new (o := .lst []) nbl
    have w3 := w2.new (u := .lst []) nbl
    have ws3 := ws2.new (u := .lst []) nbl
    have hbl : (upd F bl (.lst [])) bl = some (.lst []) := upd_same
    generalize upd F bl (.lst []) = F3 at g3 w3 ws3 hbl
    generalize upd H2 bl (.lst []) = H3 at g3 w3 ws3 nbg ⊢
    have g4 := g3.new (o := .tup [.int 0, .int 0, .int 0, .ref bl]) nbg
    have w4 := w3.new (u := .tup [.int 0, .int 0, .int 0, .ref bl]) nbg
    have ws4 := ws3.new (u := .tup [.int 0, .int 0, .int 0, .ref bl]) nbg
    have hbl4 := ln (u := .tup [.int 0, .int 0, .int 0, .ref bl]) (g3.fh.free nbg) hbl
    have hbg : (upd F3 bg (.tup [.int 0, .int 0, .int 0, .ref bl])) bg = some (.tup [.int 0, .int 0, .int 0, .ref bl]) := upd_same
    generalize upd F3 bg (.tup [.int 0, .int 0, .int 0, .ref bl]) = F4 at g4 w4 ws4 hbl4 hbg
    generalize upd H3 bg (.tup [.int 0, .int 0, .int 0, .ref bl]) = H4 at g4 w4 ws4 ⊢
    have st0f : IsSt [] (fB k (W0 k).B) := by
      refine ⟨.nil, fun x s => ⟨fun z => (nomatch z), fun z => ?_⟩⟩
      have e : fB k (W0 k).B x = 0 := by
        show ((List.replicate k (0 : Int))[(x % (k : Int)).toNat]?).getD 0 = 0
        rw [List.getElem?_replicate]; split <;> rfl
      exact absurd (z.1.symm.trans e) z.2
    by_cases nz : N = 0
    · subst nz
      refine ⟨fun n σ G => n = 0 ∧ σ = [some m, some (.int k), some (.int 0), some (.int 0), some (.int 0), some (.int 0), some (.ref d), some (.int (if decide ((0 : Int) < (0 : Nat)) = true then 1 else 0)), some (.ref sn), some (.ref bg), none, none, none] ∧ G = H4, ⟨0, rfl, rfl, rfl⟩, ?_⟩
      rintro n σ G ⟨rfl, rfl, rfl⟩
      refine ⟨_, rfl, _, _, rfl, rfl, _, rfl, ifF (by decide) ?_⟩
      refine ⟨nil_le, fun l nl => ⟨five_le, fun u nu => ?_⟩⟩
      have g5 := g4.new (o := .lst []) nl
      have e0 : byB M R S k 0 (W0 k) = ⟨tOnB, 0, 0, 0, (W0 k).B⟩ := by
        show (⟨tOnB, 0, 0, 0 * (k : Int) + 0, (W0 k).B⟩ : ByR) = _
        rw [Int.zero_mul]; rfl
      exact fin _ e0 _ _ l [] [] g5 upd_same All2.nil st0f u nu
    have tI : (if decide ((0 : Int) < (N : Int)) = true then (1 : Int) else 0) = ((1 : Nat) : Int) := by rw [if_pos (decide_eq_true (by omega))]; rfl
    have okW0 : OkW R S k (W0 k) := W0_ok hM.r1 S1
    refine ⟨fun n σ G => ∃ (F1 : Hp) (W : Wk) (t j i : Nat) (b : Bs) (c : Cfg) (L : DL Mk3) (sn bg bl : Addr) (xb : List V) (zb : List PI) (v10 v11 v12 : Option V),
        σ = [some m, some (.int k), some (.int N), some (.int c.r), some (.int c.s), some (.int (W.st + i)), some (.ref d), some (.int t), some (.ref sn), some (.ref bg), v10, v11, v12] ∧
        n = (N - t) * 5000 + (5000 - i) ∧ Gr mu0 F H F1 G ∧ Is F1 m M ∧ Ow H F1 G d (.dK (dI c.l)) ∧ Ow H F1 G sn (DictD P w sn L) ∧ d ≠ sn ∧ KeysD F1 L ∧ L.length ≤ i ∧
        F1 bg = some (.tup [.int W.st, .int W.row, .int (plB k W), .ref bl]) ∧ F1 bl = some (.lst xb) ∧ IsAll F1 xb zb ∧ IsSt zb (fB k W.B) ∧
        1 ≤ t ∧ t ≤ N ∧ OkW R S k W ∧ byB M R S k N (W0 k) = byB M R S k (N - t + 1) W ∧ (1 - (t : Int) ≤ W.at_ ∧ W.at_ < t) ∧
        tj M i (st0 (W.B W.at_) W.row W.far) = some b ∧ RepB k c W.B W.at_ b ∧ stepsC M j = some c ∧ (∀ x ∈ c.l, -((N : Int) * k) ≤ x.a ∧ x.a < N * k) ∧
        (∀ x, hasD L x = true → ∃ j, j < i ∧ ∃ b', tj M j (st0 (W.B W.at_) W.row W.far) = some b' ∧ x = bsM k W.at_ b') ∧
        (∀ j b', j < i → tj M j (st0 (W.B W.at_) W.row W.far) = some b' → hasD L (bsM k W.at_ b') = true) ∧ (∀ j1 j2, j1 < j2 → j2 < i → tj M j1 (st0 (W.B W.at_) W.row W.far) ≠ tj M j2 (st0 (W.B W.at_) W.row W.far)),
      ⟨_, F4, W0 k, 1, 0, 0, st0 ((W0 k).B 0) 0 false, c0, [], sn, bg, bl, [], [], none, none, none, ?_, rfl, g4, (hm.up g4.ff), w4, ws4, dsn, fun t z => (nomatch z), Nat.le_refl 0, ?_, hbl4, All2.nil, st0f, Nat.le_refl 1, by omega, okW0, by rw [show N - 1 + 1 = N by omega], ⟨by show (1 : Int) - 1 ≤ 0; decide, by show (0 : Int) < 1; decide⟩, rfl, (W0_rep (M := M) k1).rep, rfl, fun x z => (nomatch z), fun x z => (nomatch z), fun j b' l => absurd l (Nat.not_lt_zero j), fun j1 j2 l1 l2 => absurd l2 (Nat.not_lt_zero j2)⟩, ?_⟩
    · rw [← tI]; rfl
    · show _ = some (HO.tup [.int 0, .int 0, .int (0 * (k : Int) + 0), .ref bl])
      rw [Int.zero_mul]; exact hbg
    rintro n σ G ⟨F1, W, t, j, i, b, c, L, sn, bg, bl, xb, zb, v10, v11, v12, rfl, rfl, g, hm1, wd, ws, dsn, kd, lL, hbg, hbl, alb, stb, t1, tN, ok, es, hat, tk, rep, stc, hpl, hs1, hs2, hs3⟩
    refine ⟨_, rfl, _, _, rfl, rfl, _, rfl, ifT (decide_eq_true (by omega)) ⟨_, fun σ' G' z => z, ?_⟩⟩
    have lB : (W.B W.at_).length = k := ok.len _
    have ok0 : BOk R S k (st0 (W.B W.at_) W.row W.far) := by
      have := st0_ok (R := R) (row := W.row) (far := W.far) (ok.s W.at_) (by omega) ok.r0 ok.r1
      rw [lB] at this; exact this
    have okb := tj_ok hM i _ b ok0 tk
    obtain ⟨okc, _⟩ := stepsC_ok hM stc
    have lenl : c.l.length ≤ 5000 := by
      have z := int_len (lo := -((N : Int) * k)) (n := 2 * (N * k)) (l := c.l.map T2.a) (show (c.l.map T2.a).Nodup from okc.nd) fun x hx => by
        obtain ⟨y, hy, rfl⟩ := List.mem_map.mp hx
        have := hpl y hy
        refine ⟨this.1, ?_⟩
        have e : ((2 * (N * k) : Nat) : Int) = 2 * ((N : Int) * k) := by rw [Int.natCast_mul, Int.natCast_mul]; rfl
        rw [e]; omega
      rw [List.length_map] at z
      have : N * k ≤ 400 * 4 := Nat.mul_le_mul hN k4
      omega
    have eat : c.s / (k : Int) = W.at_ := by rw [rep.s]; exact (dm k1 okb.p0 okb.p1).1
    have esg : gz c.l c.s = sgB b := by rw [rep.f, rep.s, fB_at k1 _ okb.p0 okb.p1]; rfl
    -- the mark
    refine ⟨_, rfl, _, rfl, _, rfl, _, rfl, _, rfl, F1, d, c.l, c.s, k, rfl, g.fh, wd.h, k1, by omega, fun F2 G2 ab g2 hab => ⟨three_le, fun mk nmk => ?_⟩⟩
    rw [around_eq k1 rep okb] at hab
    have gg := g.trans g2
    have wd2 := wd.call g2 (fun z => z)
    have ws2 := ws.call g2 (fun z => z)
    have g3 := gg.new (o := .tup [.int c.r, .int c.s, .ref ab]) nmk
    have wd3 := wd2.new (u := .tup [.int c.r, .int c.s, .ref ab]) nmk
    have ws3 := ws2.new (u := .tup [.int c.r, .int c.s, .ref ab]) nmk
    have s3 : Same F2 (upd F2 mk (.tup [.int c.r, .int c.s, .ref ab])) := sm_new (Same.refl F2) (gg.fh.free nmk)
    have s13 : Same F1 (upd F2 mk (.tup [.int c.r, .int c.s, .ref ab])) := fun z o e => s3 z o (g2.ff z o e)
    have emk : (⟨c.r, c.s, ⟨b.s⟩⟩ : Mk3) = bsM k W.at_ b := by unfold bsM; rw [rep.r, rep.s]
    have imk : Is (upd F2 mk (.tup [.int c.r, .int c.s, .ref ab])) (.ref mk) (bsM k W.at_ b) := by
      rw [← emk]
      exact ⟨mk, _, _, _, rfl, upd_same, rfl, rfl, ab, _, rfl, s3 _ _ hab, all_ints _⟩
    have kd3 := kd.up s13
    have hbg3 := s13 _ _ hbg
    have hbl3 := s13 _ _ hbl
    have alb3 := IsAll.up alb s13
    have hm3 := hm1.up s13
    generalize upd F2 mk (.tup [.int c.r, .int c.s, .ref ab]) = F3 at g3 wd3 ws3 imk kd3 hbg3 hbl3 alb3 hm3
    generalize upd G2 mk (.tup [.int c.r, .int c.s, .ref ab]) = G3 at g3 wd3 ws3 ⊢
    clear g2 gg wd2 ws2 s3 s13 hab wd ws g kd hbg hbl alb hm1
    refine ⟨_, rfl, _, rfl, sn, valN (neL L) (keyD (Dat.py (bsM k W.at_ b))), rfl, NGet.d ws3.h (kd3.up g3.fh) (imk.up g3.fh), _, rfl, ?_⟩
    rw [valN_neL]
    by_cases hin : hasD L (bsM k W.at_ b) = true
    · refine ifT hin ⟨one_le, fun q0 n0 => ⟨_, rfl, ?_⟩⟩
      obtain ⟨jj, lj, b', tj', eb⟩ := hs1 _ hin
      have eb := bsM_inj eb
      subst eb
      have nv := NV.two lj tj' tk
      rw [byB_stay (thr_nv nv)] at es
      have g4 := g3.own (o := .tup [.str "stay"]) n0
      refine catA_new (SqT.of upd_same) (SqT.of (ln n0 (g3.fh _ _ hbg3))) five_le (fun z => nomatch z) (fun z => nomatch z) fun u nu => ?_
      exact fin _ es F3 _ bl xb zb g4 hbl3 alb3 stb u nu
    · refine ifF (Bool.eq_false_iff.mpr hin) ?_
      -- no state twice yet
      have hs3' : ∀ j1 j2, j1 < j2 → j2 < i + 1 → tj M j1 (st0 (W.B W.at_) W.row W.far) ≠ tj M j2 (st0 (W.B W.at_) W.row W.far) := fun j1 j2 l1 l2 e => by
        by_cases z : j2 < i
        · exact hs3 j1 j2 l1 z e
        · have : j2 = i := by omega
          subst this
          rw [tk] at e
          exact hin (hs2 j1 b l1 e)
      have i4096 := few (i := i + 1) hM ok0 (fun j lj => tj_le (n := i) (by omega) (by rw [tk]; exact fun z => nomatch z)) hs3'
      refine ⟨_, rfl, _, rfl, sn, _, rfl, NPut.d (x := bsM k W.at_ b) ws3.h (kd3.up g3.fh) (imk.up g3.fh) (lt_size (by omega)), ?_⟩
      have g4 := g3.set (o := DictD P w sn (putD L mk (bsM k W.at_ b) (.bl true))) ws3.f (.inl ws3.n)
      have wd4 := wd3.other (u := DictD P w sn (putD L mk (bsM k W.at_ b) (.bl true))) dsn
      have ws4 := ws3.set (u := DictD P w sn (putD L mk (bsM k W.at_ b) (.bl true)))
      have kd4 : KeysD F3 (putD L mk (bsM k W.at_ b) (.bl true)) := kd3.put imk
      have lL4 := putD_len L mk (bsM k W.at_ b) (.bl true)
      have hs1' : ∀ x, hasD (putD L mk (bsM k W.at_ b) (.bl true)) x = true → ∃ j, j < i + 1 ∧ ∃ b', tj M j (st0 (W.B W.at_) W.row W.far) = some b' ∧ x = bsM k W.at_ b' := fun x z => by
        rw [hasD_put, Bool.or_eq_true] at z
        rcases z with z | z
        · exact ⟨i, by omega, b, tk, (of_decide_eq_true z).symm⟩
        · obtain ⟨j, h1, h2⟩ := hs1 x z
          exact ⟨j, by omega, h2⟩
      have hs2' : ∀ j b', j < i + 1 → tj M j (st0 (W.B W.at_) W.row W.far) = some b' → hasD (putD L mk (bsM k W.at_ b) (.bl true)) (bsM k W.at_ b') = true := fun j b' lj e => by
        rw [hasD_put, Bool.or_eq_true]
        by_cases z : j < i
        · exact .inr (hs2 j b' z e)
        · have : j = i := by omega
          subst this
          rw [tk] at e
          cases e
          exact .inl (decide_eq_true rfl)
      generalize putD L mk (bsM k W.at_ b) (.bl true) = L2 at g4 wd4 ws4 kd4 lL4 hs1' hs2' ⊢
      generalize upd G3 sn (DictD P w sn L2) = G4 at g4 wd4 ws4 ⊢
      -- the entry
      obtain ⟨rw', hrw, he, eo⟩ := ent_of hM okb.r0 okb.r1 okb.sgB.2.1 okb.sgB.2.2
      obtain ⟨am, rs, rfl, ha, hrs⟩ := id hm3
      obtain ⟨y, hy, bm, es', rfl, hbm, hes⟩ := hrs.get hrw
      obtain ⟨z, hz, hze⟩ := hes.get he
      have hrr : c.r = ((b.r.toNat : Nat) : Int) := by rw [rep.r]; exact (Int.toNat_of_nonneg okb.r0).symm
      refine ⟨_, rfl, _, rfl, am, rs, _, _, rfl, rfl, SqL.of (g4.fh _ _ ha), at_of hrr hy, _, rfl, d, rfl, .inl ⟨_, .inl wd4.h⟩, _, rfl, _, DGet.k (k := Sum.inl c.s) wd4.h, ?_⟩
      rw [dI_val, getD_int]
      have egz : (look c.l c.s).getD 0 = ((sgB b).toNat : Int) := by
        rw [show (look c.l c.s).getD 0 = gz c.l c.s from rfl, esg]
        exact (Int.toNat_of_nonneg okb.sgB.2.1).symm
      refine ⟨bm, es', _, _, rfl, rfl, SqL.of (g4.fh _ _ hbm), at_of egz hz, ?_⟩
      refine ⟨_, rfl, nil_le, fun e1 ne1 => ?_⟩
      have g5 := g4.own (o := .tup []) ne1
      have wd5 := wd4.own (u := .tup []) ne1
      have ws5 := ws4.own (u := .tup []) ne1
      refine eq_dat (a := entAt M b.r (sgB b)) (b := Ent.emp) (hze.up g5.fh) ⟨e1, rfl, upd_same⟩ ⟨_, rfl, ?_⟩
      generalize upd G4 e1 (.tup []) = G5 at g5 wd5 ws5 ⊢
      have ent := rep.ent (M := M) k1 okb
      cases ee : entAt M b.r (sgB b) with
      | emp =>
        refine ifT (decide_eq_true rfl) ?_
        have et := thr_of (far := W.far) hM (ok.s W.at_) (by rw [lB]; exact k1) ok.r0 ok.r1 tk (bn_emp ee)
        rw [byB_end et] at es
        refine ⟨_, rfl, _, rfl, _, rfl, _, rfl, F3, d, c.l, rfl, g5.fh, wd5.h, okc.nd, by omega, fun F6 G6 l xs zz g6 wl al st => ⟨five_le, fun u nu => ?_⟩⟩
        have g7 := g5.trans g6
        have g8 := g7.frz wl.h (g5.th _ wl.n) wl.f
        have s8 : Same F6 (upd F6 l (.lst xs)) := sm_new (Same.refl F6) wl.f
        have ep : (W.at_ * (k : Int) + b.p) = c.s := rep.s.symm
        have er : b.r = c.r := rep.r.symm
        rw [ep, er, show W.st + ((i : Int) + 0) = W.st + i by omega] at es
        exact fin _ es _ _ l xs zz g8 upd_same (IsAll.up al s8) (by
          show IsSt zz (fB k (updB W.B W.at_ b.s))
          rw [← funext rep.f]; exact st) u nu
      | go pu wa to =>
        rw [ee] at hze eo ent
        obtain ⟨o1, o2, o3⟩ := eo.ok _ _ _ rfl
        obtain ⟨ae, rfl, hae⟩ := hze
        have stp := stepC_go ent
        have stn := (stepsC_next stc).trans stp
        refine ifF (decide_eq_false (by intro z; cases z)) ?_
        refine ⟨_, rfl, _, rfl, _, _, rfl, rfl, ⟨by omega, by omega⟩, ?_⟩
        refine ⟨_, rfl, ae, _, _, _, rfl, rfl, SqT.of (g5.fh _ _ hae), atI_nat (j := 0) rfl, _, rfl, _, rfl, d, _, rfl, DPut.k (k := Sum.inl c.s) wd5.h (size_dI (n := 5000) lenl (by decide)), ?_⟩
        rw [dI_put]
        have g6 := g5.set (o := .dK (dI (put c.l c.s pu))) wd5.f (.inl wd5.n)
        have wd6 := wd5.set (u := .dK (dI (put c.l c.s pu)))
        have ws6 := ws5.other (u := .dK (dI (put c.l c.s pu))) dsn.symm
        generalize upd G5 d (.dK (dI (put c.l c.s pu))) = G6 at g6 wd6 ws6 ⊢
        have hae6 := SqT.of (K := K) (g6.fh _ _ hae)
        refine ⟨_, rfl, _, rfl, ae, _, _, _, rfl, rfl, hae6, atI_nat (j := 1) rfl, _, _, rfl, rfl, ?_⟩
        refine ⟨_, rfl, ae, _, _, _, rfl, rfl, hae6, atI_nat (j := 2) rfl, ?_⟩
        refine ⟨_, rfl, _, _, rfl, rfl, ?_⟩
        refine ⟨_, rfl, _, rfl, _, _, rfl, rfl, ⟨by omega, by omega⟩, _, rfl, rfl, _, rfl, ?_⟩
        dsimp only
        have hpl' : ∀ x ∈ put c.l c.s pu, -((N : Int) * k) ≤ x.a ∧ x.a < N * k := fun x mx => by
          rcases mem_put mx with mx | rfl
          · exact hpl x mx
          · have h1 : (1 - (N : Int)) * k ≤ W.at_ * k := Int.mul_le_mul_of_nonneg_right (by omega) (by omega)
            have h2 : W.at_ * (k : Int) ≤ ((N : Int) - 1) * k := Int.mul_le_mul_of_nonneg_right (by omega) (by omega)
            rw [Int.sub_mul, Int.one_mul] at h1 h2
            have p0 := okb.p0
            have p1 := okb.p1
            show -((N : Int) * k) ≤ c.s ∧ c.s < N * k
            rw [rep.s]
            omega
        rw [int_eq2, eat]
        by_cases zz : 0 ≤ b.p + wa ∧ b.p + wa < (b.s.length : Int)
        · -- within the block
          obtain ⟨c', e1', rep'⟩ := rep.nxt k1 okb (bn_go ee zz)
          rw [stp] at e1'
          cases e1'
          have okb' := bn_ok okb hM (bn_go ee zz)
          have eat' : (c.s + wa) / (k : Int) = W.at_ := by
            have := rep'.s
            rw [show c.s + wa = W.at_ * k + (b.p + wa) from this]
            exact (dm k1 okb'.p0 okb'.p1).1
          refine ifF (by rw [eat', decide_eq_true rfl]; rfl) ?_
          refine ⟨_, ?_, F3, W, t, j + 1, i + 1, ⟨b.s.set b.p.toNat pu, b.p + wa, to⟩, ⟨to, c.s + wa, put c.l c.s pu⟩, L2, sn, bg, bl, xb, zb, some (.ref mk), some (.ref ae), some (.int W.at_), ?_, rfl, g6, hm3, wd6, ws6, dsn, kd4, by omega, hbg3, hbl3, alb3, stb, t1, tN, ok, es, hat, ?_, rep', stn, hpl', hs1', hs2', hs3'⟩
          · show (N - t) * 5000 + (5000 - (i + 1)) < (N - t) * 5000 + (5000 - i)
            omega
          · rw [show W.st + ((i + 1 : Nat) : Int) = W.st + (i : Int) + 1 by omega]
            rfl
          · rw [tj_at tk, tj_nxt (bn_go ee zz)]; rfl
        · -- out of it
          have et := thr_of (far := W.far) hM (ok.s W.at_) (by rw [lB]; exact k1) ok.r0 ok.r1 tk (bn_out ee zz)
          obtain ⟨_, ww, c', e1', rep'⟩ := rep.out k1 hM okb ok.len (bn_out ee zz)
          rw [stp] at e1'
          cases e1'
          have okW' := ok.out hM k1 et
          have lB' : (updB W.B W.at_ (b.s.set b.p.toNat pu) (W.at_ + wa)).length = k := okW'.len (W.at_ + wa)
          have ok0' : BOk R S k (st0 (updB W.B W.at_ (b.s.set b.p.toNat pu) (W.at_ + wa)) to (decide (-wa = 1))) := by
            have := st0_ok (R := R) (row := to) (far := decide (-wa = 1)) (okW'.s (W.at_ + wa)) (by show 1 ≤ (updB W.B W.at_ (b.s.set b.p.toNat pu) (W.at_ + wa)).length; omega) o3.1 o3.2
            rw [show ((W.out (b.s.set b.p.toNat pu) to wa (↑i + 1)).B (W.at_ + wa)).length = k from lB'] at this
            exact this
          have eat' : (c.s + wa) / (k : Int) = W.at_ + wa := by
            rw [show c.s + wa = (W.at_ + wa) * k + _ from rep'.s]
            exact (dm k1 ok0'.p0 ok0'.p1).1
          rw [byB_out et] at es
          refine ifT (by rw [eat', decide_eq_false (by omega)]; rfl) ?_
          have epl : c.s + wa = plB k (W.out (b.s.set b.p.toNat pu) to wa (↑i + 1)) := by
            show c.s + wa = (W.at_ + wa) * k + (if decide (-wa = 1) then (k : Int) - 1 else 0)
            rw [show c.s + wa = (W.at_ + wa) * k + _ from rep'.s]
            show (W.at_ + wa) * (k : Int) + (if decide (-wa = 1) then ((updB W.B W.at_ (b.s.set b.p.toNat pu) (W.at_ + wa)).length : Int) - 1 else 0) = _
            rw [lB']
          have efB : gz (put c.l c.s pu) = fB k (W.out (b.s.set b.p.toNat pu) to wa (↑i + 1)).B := by
            funext x
            rw [show gz (put c.l c.s pu) x = _ from rep'.f x]
            exact fB_id x
          have okn : CfOk R S ⟨to, c.s + wa, put c.l c.s pu⟩ := okc.step hM stp
          have lenp : (put c.l c.s pu).length ≤ 5001 := by have := put_len c.l c.s pu; omega
          refine ⟨_, rfl, _, rfl, rfl, _, rfl, ?_⟩
          rw [int_eq2]
          by_cases last : t = N
          · refine ifT (decide_eq_true (by rw [last])) ?_
            refine ⟨_, rfl, _, rfl, _, rfl, _, rfl, F3, d, put c.l c.s pu, rfl, g6.fh, wd6.h, okn.nd, by omega, fun F7 G7 l xs zz g7 wl al st => ⟨five_le, fun u nu => ?_⟩⟩
            have g8 := (g6.trans g7).frz wl.h (g6.th _ wl.n) wl.f
            have s8 : Same F7 (upd F7 l (.lst xs)) := sm_new (Same.refl F7) wl.f
            rw [show N - t = 0 by omega] at es
            have es : byB M R S k N (W0 k) = ⟨tOnB, W.st + ↑i + 1, to, c.s + wa, (W.out (b.s.set b.p.toNat pu) to wa (↑i + 1)).B⟩ := by
              rw [es, epl]
              show (⟨tOnB, W.st + (↑i + 1), to, _, _⟩ : ByR) = ⟨tOnB, W.st + ↑i + 1, to, _, _⟩
              rw [show W.st + ((i : Int) + 1) = W.st + i + 1 by omega]
            exact fin _ es _ _ l xs zz g8 upd_same (IsAll.up al s8) (by rw [← efB]; exact st) u nu
          · refine ifF (decide_eq_false (by omega)) ?_
            refine ⟨_, rfl, _, _, rfl, rfl, ?_⟩
            refine fun sn2 nsn2 => ?_
            rw [show DictN P w sn2 [] = DictD P w sn2 ([] : DL Mk3) from rfl]
            have g7 := g6.own (o := DictD P w sn2 ([] : DL Mk3)) nsn2
            have wd7 := wd6.own (u := DictD P w sn2 ([] : DL Mk3)) nsn2
            have ws7 : Ow H F3 (upd G6 sn2 (DictD P w sn2 ([] : DL Mk3))) sn2 (DictD P w sn2 ([] : DL Mk3)) := Ow.mk1 g6 nsn2
            have dsn2 : d ≠ sn2 := wd6.ne nsn2
            generalize upd G6 sn2 (DictD P w sn2 ([] : DL Mk3)) = G7 at g7 wd7 ws7 ⊢
            refine ⟨_, rfl, _, rfl, _, rfl, _, rfl, F3, d, put c.l c.s pu, rfl, g7.fh, wd7.h, okn.nd, by omega, fun F8 G8 l xs zz g8 wl al st => ⟨by show 4 ≤ sizeLine; decide, fun bg2 nbg2 => ?_⟩⟩
            have g9 := (g7.trans g8).frz wl.h (g7.th _ wl.n) wl.f
            have dl : d ≠ l := fun e => by have := wl.n; rw [← e, wd7.h] at this; cases this
            have sl : sn2 ≠ l := fun e => by have := wl.n; rw [← e, ws7.h] at this; cases this
            have wd9 := (wd7.call g8 (fun z => z)).frz' (u := .lst xs) dl
            have ws9 := (ws7.call g8 (fun z => z)).frz' (u := .lst xs) sl
            have s9 : Same F8 (upd F8 l (.lst xs)) := sm_new (Same.refl F8) wl.f
            have hl9 : (upd F8 l (.lst xs)) l = some (.lst xs) := upd_same
            have al9 := IsAll.up al s9
            have hm9 := (hm3.up g8.ff).up s9
            generalize upd F8 l (.lst xs) = F9 at g9 wd9 ws9 hl9 al9 hm9
            have g10 := g9.new (o := .tup [.int (W.st + ↑i + 1), .int to, .int (c.s + wa), .ref l]) nbg2
            have s10 : Same F9 (upd F9 bg2 (.tup [.int (W.st + ↑i + 1), .int to, .int (c.s + wa), .ref l])) := sm_new (Same.refl F9) (g9.fh.free nbg2)
            refine ⟨_, ?_, _, W.out (b.s.set b.p.toNat pu) to wa (↑i + 1), t + 1, j + 1, 0, st0 (updB W.B W.at_ (b.s.set b.p.toNat pu) (W.at_ + wa)) to (decide (-wa = 1)), ⟨to, c.s + wa, put c.l c.s pu⟩, [], sn2, bg2, l, xs, zz, some (.ref mk), some (.ref ae), some (.int W.at_), ?_, rfl, g10, hm9.up s10, wd9.new nbg2, ws9.new nbg2, dsn2, fun t z => (nomatch z), Nat.le_refl 0, ?_, s10 _ _ hl9, IsAll.up al9 s10, ?_, by omega, by omega, okW', ?_, ?_, rfl, rep', stn, hpl', fun x z => (nomatch z), fun j b' l => absurd l (Nat.not_lt_zero j), fun j1 j2 l1 l2 => absurd l2 (Nat.not_lt_zero j2)⟩
            · show (N - (t + 1)) * 5000 + (5000 - 0) < (N - t) * 5000 + (5000 - i)
              omega
            · show _ = [some (V.ref am), some (.int k), some (.int N), some (.int to), some (.int (c.s + wa)), some (.int (W.st + (↑i + 1) + ((0 : Nat) : Int))), some (.ref d), some (.int ((t + 1 : Nat) : Int)), some (.ref sn2), some (.ref bg2), some (.ref mk), some (.ref ae), some (.int W.at_)]
              rw [show W.st + ((i : Int) + 1) + ((0 : Nat) : Int) = W.st + i + 1 by omega, show ((t + 1 : Nat) : Int) = (t : Int) + 1 by omega]
              rfl
            · rw [← epl]
              show _ = some (HO.tup [.int (W.st + (↑i + 1)), .int to, .int (c.s + wa), .ref l])
              rw [show W.st + ((i : Int) + 1) = W.st + i + 1 by omega]
              exact upd_same
            · rw [← efB]; exact st
            · rw [es, show N - (t + 1) + 1 = N - t by omega]
            · show 1 - ((t + 1 : Nat) : Int) ≤ W.at_ + wa ∧ W.at_ + wa < ((t + 1 : Nat) : Int)
              omega
def sp_law (K : PySem.W.Frag) : Sp := fun vs H Q _ => ∃ (a : Addr) (ns : List Int), vs = [.ref a] ∧ SqL K H a (ns.map V.int) ∧ ns.length ≤ 63 ∧ ∀ H', Q (.bl true) H'
theorem SqL.up {K : PySem.W.Frag} {H H' : Hp} {a : Addr} {xs : List V} (h : SqL K H a xs) (s : Same H H') : SqL K H' a xs :=
  h.elim (fun h => .inl (h.elim (fun h => .inl (s _ _ h)) fun ⟨o, h⟩ => .inr ⟨o, s _ _ h⟩)) fun h => .inr h
theorem byB_supp {M : Mach} {R S k : Nat} (k1 : 1 ≤ k) (hM : MOk M R S) : ∀ (n : Nat) (W : Wk) (t : Int), OkW R S k W → -t ≤ W.at_ → W.at_ ≤ t → (∀ a x, x ∈ W.B a → x ≠ 0 → -t ≤ a ∧ a ≤ t) → ∀ a x, x ∈ (byB M R S k n W).B a → x ≠ 0 → -(t + n) ≤ a ∧ a ≤ t + n
  | 0, W, t, _, _, _, h => fun a x m nz => by
    have := h a x m nz
    omega
  | n + 1, W, t, ok, a0, a1, h => fun a x => by
    have up : ∀ s : List Int, ∀ a x, x ∈ updB W.B W.at_ s a → x ≠ 0 → -t ≤ a ∧ a ≤ t := fun s a x m nz => by
      unfold updB at m
      by_cases e : a = W.at_
      · rw [e]; exact ⟨a0, a1⟩
      · rw [if_neg e] at m; exact h a x m nz
    cases et : thr M R S (W.B W.at_) W.row W.far with
    | stay =>
      rw [byB_stay et]
      intro m nz
      have := h a x m nz
      omega
    | fin w s r y m =>
      have z := thr_ok hM (ok.s _) (by rw [ok.len]; exact k1) ok.r0 ok.r1 et
      rcases z.1 with rfl | rfl
      · rw [byB_end et]
        intro m nz
        have := up s a x m nz
        omega
      · rw [byB_out et]
        intro m nz
        have z7 := (z.2.2.2.2.2.2 rfl).1
        have := byB_supp k1 hM n (W.out s r y _) (t + 1) (ok.out hM k1 et) (by show -(t + 1) ≤ W.at_ + y; omega) (by show W.at_ + y ≤ t + 1; omega) (fun a x m nz => by have := up s a x m nz; omega) a x m nz
        omega
theorem byB_few {M : Mach} {R S k N : Nat} {z : List PI} (k1 : 1 ≤ k) (k4 : k ≤ 4) (hM : MOk M R S) (hN : N ≤ 400) (st : IsSt z (fB k (byB M R S k N (W0 k)).B)) : z.length ≤ 3400 := by
  have S1 : 1 ≤ S := by have := hM.s2; omega
  have sp := byB_supp k1 hM N (W0 k) 0 (W0_ok hM.r1 S1) (Int.le_refl 0) (Int.le_refl 0) fun a x m nz => absurd (List.mem_replicate.mp m).2 nz
  have nd : (z.map T2.a).Nodup := by
    rw [List.nodup_iff_pairwise_ne, List.pairwise_map]
    exact st.rise.imp fun h => by omega
  have := int_len (lo := -1700) (n := 3400) nd fun x hx => by
    obtain ⟨y, hy, rfl⟩ := List.mem_map.mp hx
    obtain ⟨e1, e2⟩ := st.nz hy
    unfold fB at e1
    cases e : ((byB M R S k N (W0 k)).B (y.a / (k : Int)))[(y.a % (k : Int)).toNat]? with
    | none => rw [e] at e1; exact absurd e1.symm e2
    | some v =>
      rw [e] at e1
      have e1 : v = y.b := e1
      have := sp _ v (List.mem_of_getElem? e) (by rw [e1]; exact e2)
      rcases (by omega : k = 1 ∨ k = 2 ∨ k = 3 ∨ k = 4) with rfl | rfl | rfl | rfl <;> omega
  rw [List.length_map] at this
  exact this
theorem orV_same {ta tb : TE} {σ : List (Option V)} {H : Hp} {Q : V → Hp → Prop} (a b : Bool) (ea : ∀ Q' : V → Hp → Prop, Q' (.bl a) H → ta σ H Q') (eb : ∀ Q' : V → Hp → Prop, Q' (.bl b) H → tb σ H Q') (h : ∀ c : Bool, Q (.bl c) H) : tOrV ta tb σ H Q := ea _ ⟨a, rfl, by
  cases a
  · exact eb _ (h _)
  · exact h _⟩
theorem ok_law (t : Tx K mg) : FnOk P w K mg base CX0 6 t.a_law t.fd_law ["_law_script"] (sp_law K) := by
  refine t.F_law.ok sc_law (fun vs H Q E h => ?_) (fun cdv A outer s H vs Q E hr h => ?_)
  · obtain ⟨a, ns, rfl, _⟩ := h
    rfl
  · obtain ⟨l, ns, rfl, hS, hn, q⟩ := h
    refine ⟨_, (pss_cons (ps_for PassesOwn.never rfl (pi_range1 (by rfl) t.n_range (pa_cons pe_int pa_nil)) (pg_name (i := 1) sc_law.nd rfl (by first | exact Or.inl rfl | exact Or.inr rfl)) (pss_cons (ps_set (i := 2) sc_law.nd rfl (by first | exact Or.inl rfl | exact Or.inr rfl) (pe_call (ok_L_purse t) (hr.mono (by decide)) (by rfl) t.m_L_purse t.F_L_purse.kp t.b_L_purse .nil pass0 (pa_cons (pv 0) (pa_cons (pv 1) pa_nil))))
      (pss_cons (ps_set (i := 3) sc_law.nd rfl (by first | exact Or.inl rfl | exact Or.inr rfl) (pe_call (ok_L_machine t) (hr.mono (by decide)) (by rfl) t.m_L_machine t.F_L_machine.kp t.b_L_machine .nil pass0 (pa_cons (pv 2) pa_nil)))
      (pss_cons (ps_set (i := 4) sc_law.nd rfl (by first | exact Or.inl rfl | exact Or.inr rfl) (pe_call (ok_L_kept t) (hr.mono (by decide)) (by rfl) t.m_L_kept t.F_L_kept.kp t.b_L_kept .nil pass0 (pa_cons (pv 3) pa_nil)))
      (pss_one (ps_for PassesOwn.never rfl (pi_range1 (by rfl) t.n_range (pa_cons pe_int pa_nil)) (pg_name (i := 5) sc_law.nd rfl (by first | exact Or.inl rfl | exact Or.inr rfl)) (pss_cons (ps_set (i := 6) sc_law.nd rfl (by first | exact Or.inl rfl | exact Or.inr rfl) (pe_op op_add pe_int (pe_call (ok_L_draw t) (hr.mono (by decide)) (by rfl) t.m_L_draw t.F_L_draw.kp t.b_L_draw .nil pass0 (pa_cons (pv 2) (pa_cons pe_int pa_nil)))))
      (pss_cons (ps_set (i := 7) sc_law.nd rfl (by first | exact Or.inl rfl | exact Or.inr rfl) (pe_call (ok_L_draw t) (hr.mono (by decide)) (by rfl) t.m_L_draw t.F_L_draw.kp t.b_L_draw .nil pass0 (pa_cons (pv 2) (pa_cons (pe_ix ix_list (pe_lst (pa_cons pe_int (pa_cons pe_int (pa_cons (pe_ix ix_list (pe_lst (pa_cons pe_int (pa_cons pe_int pa_nil))) (pe_callTy (T := "int") call_int1 (by rfl) t.n_int (by decide +kernel) (pa_cons (pe_or (pe_cmpR op_lt (pv 6) pe_int (nomark _)) (pe_one (pe_cmpR op_eq (pe_callB (id := "len") call_lenQ (by rfl) t.n_len (by decide +kernel) (pa_cons (pe_ix ix_list (pv 3) pe_int (fun _ _ => rfl)) pa_nil)) pe_int (nomark _)))) pa_nil)) (fun _ _ => rfl)) pa_nil)))) (pe_call (ok_L_draw t) (hr.mono (by decide)) (by rfl) t.m_L_draw t.F_L_draw.kp t.b_L_draw .nil pass0 (pa_cons (pv 2) (pa_cons pe_int pa_nil))) (fun _ _ => rfl)) pa_nil))))
      (pss_cons (ps_set (i := 8) sc_law.nd rfl (by first | exact Or.inl rfl | exact Or.inr rfl) (pe_call (ok_L_walked t) (hr.mono (by decide)) (by rfl) t.m_L_walked t.F_L_walked.kp t.b_L_walked .nil pass0 (pa_cons (pv 3) (pa_cons (pv 6) (pa_cons (pv 7) pa_nil)))))
      (pss_one (ps_for PassesOwn.never rfl (pi_range1 (by rfl) t.n_range (pa_cons pe_int pa_nil)) (pg_name (i := 9) sc_law.nd rfl (by first | exact Or.inl rfl | exact Or.inr rfl)) (pss_cons (ps_set (i := 10) sc_law.nd rfl (by first | exact Or.inl rfl | exact Or.inr rfl) (pe_call (ok_by_blocks t) (hr.mono (by decide)) (by rfl) t.m_by_blocks t.F_by_blocks.kp t.b_by_blocks .nil pass0 (pa_cons (pv 4) (pa_cons (pv 6) (pa_cons (pv 7) pa_nil)))))
      (pss_cons (ps_if (PW.pt (pw_or (pt_not (pt_val (pe_call (ok_L_good t) (hr.mono (by decide)) (by rfl) t.m_L_good t.F_L_good.kp t.b_L_good .nil pass0 (pa_cons (pv 10) (pa_cons (pv 8) pa_nil))))) (pw_or1 (pt_cmpR (op_neD hr.units) (pv 4) (pv 3) (nomark _))))) (pss_one (ps_ret pe_bl)) pss_nil)
      (pss_one (ps_expr (pe_bm PySem.F.plainAttrs_list PySem.F.slot_list_append PySem.F.type_list_append mt_append (pe_ix ix_tup (pv 10) pe_int (fun _ _ => rfl)) (pa_cons (pe_tup (pa_cons pe_int (pa_cons pe_int pa_nil))) pa_nil)))))))))))))))))
      (pss_one (ps_ret pe_bl))), ?_⟩
    refine ⟨8, rfl, by decide, by decide, for_range (lo := 0) (n := 8) (fun i σ G => ∃ (v1 v2 v3 v4 v5 v6 v7 v8 v9 v10 : Option V), σ = [some (.ref l), v1, v2, v3, v4, v5, v6, v7, v8, v9, v10] ∧ Same H G)
      ⟨none, none, none, none, none, none, none, none, none, none, rfl, Same.refl H⟩ ?_ ?_⟩
    · rintro i σ G hi ⟨v1, v2, v3, v4, v5, v6, v7, v8, v9, v10, rfl, sG⟩
      have ei : ((0 : Int) + (i : Int)) = (i : Int) := by omega
      rw [ei]
      refine ⟨_, rfl, _, rfl, l, ns, i, rfl, SqL.up hS sG, by omega, fun p G1 s1 np hp1 => ?_⟩
      refine ⟨_, rfl, G, p, 10000, rfl, s1, np, hp1, by decide, fun F2 G2 m M R S g2 hp2 hM hm => ?_⟩
      have r1 := hM.r1
      have r4 := hM.r4
      have S1 : 1 ≤ S := by have := hM.s2; omega
      refine ⟨_, rfl, F2, m, M, rfl, g2.fh, hm, by rw [hM.len]; omega, fun F3 G3 hd g3 hhd => ?_⟩
      have hm3 := hm.up g3.ff
      have hp3 := hp2.gr g3 (fun z => z)
      refine ⟨3, rfl, by decide, by decide, for_range (lo := 0) (n := 3) (fun j σ T => ∃ (F4 : Hp) (b4 : Int) (v5 v6 v7 v8 v9 v10 : Option V), σ = [some (.ref l), some (.int i), some (.ref p), some m, some hd, v5, v6, v7, v8, v9, v10] ∧ Gr (muP p) G G1 F4 T ∧ PuAt T p b4 ∧ b4 ≤ 12000 + 50 * j ∧ Is F4 m M ∧ Is F4 hd M)
        ⟨F3, _, v5, v6, v7, v8, v9, v10, rfl, g2.trans g3.of0, hp3, by omega, hm3, hhd⟩ ?_ ?_⟩
      · rintro j σ T hj ⟨F4, b4, v5, v6, v7, v8, v9, v10, rfl, g, hp, hb4, hm, hhd⟩
        have fp := hp1.f np g
        refine ⟨_, rfl, F4, p, 4, b4, rfl, g.fh, fp, hp, by omega, by decide, by decide, fun d1 T1 d10 d11 g5 hp5 => ⟨_, _, rfl, rfl, ?_⟩⟩
        have ek : (1 + d1 : Int) = (((1 + d1).toNat : Nat) : Int) := (Int.toNat_of_nonneg (by omega)).symm
        generalize hk : (1 + d1).toNat = k at ek
        dsimp only
        rw [ek]
        have k1 : 1 ≤ k := by omega
        have k4 : k ≤ 4 := by omega
        have hm5 := hm.up g5.ff
        have gg := g.trans g5
        obtain ⟨am, rs, rfl, ham, hrs⟩ := id hm5
        have lrs : rs.length = R := hrs.1.trans hM.len
        have l0 : 0 < rs.length := by omega
        obtain ⟨row0, hM0, a0, es0, er0, ha0, hes0⟩ := hrs.get' (List.getElem?_eq_getElem l0)
        have hx0 : rs[0]? = some (.ref a0) := (List.getElem?_eq_getElem l0).trans (congrArg some er0)
        have fp5 := fp
        refine ⟨_, rfl, by show 2 ≤ sizeLine; decide, fun l1 n1 => ?_⟩
        have g6 := g5.own (o := .lst [.int 41, .int 301]) n1
        have hp6 := hp5.ln (o := .lst [.int 41, .int 301]) n1
        have hl1 : (upd T1 l1 (.lst [.int 41, .int 301])) l1 = some (.lst [.int 41, .int 301]) := upd_same
        generalize upd T1 l1 (.lst [.int 41, .int 301]) = T2 at g6 hl1 hp6 ⊢
        refine orV_same (decide ((k : Int) < 3)) (decide (V.int es0.length = V.int 2)) (fun Q' h => ⟨_, rfl, _, _, rfl, rfl, h⟩) (fun Q' h => ⟨_, rfl, am, rs, _, _, rfl, rfl, SqL.of (g6.fh _ _ ham), atI_nat (j := 0) hx0, a0, es0, rfl, .inl (SqL.of (g6.fh _ _ ha0)), rfl, h⟩) fun c => .inr ⟨c, rfl, ?_⟩
        have ef : ∃ f : Int, atI [V.int 41, V.int 301] (if c = true then 1 else 0) = some (.int f) ∧ 0 < f ∧ f ≤ 301 := by
          cases c <;> exact ⟨_, rfl, by decide, by decide⟩
        obtain ⟨f, ef, f0, f1⟩ := ef
        refine ⟨l1, _, _, _, rfl, rfl, SqL.of hl1, ef, by show 3 ≤ sizeLine; decide, fun l2 n2 => ?_⟩
        have g7 := g6.own (o := .lst [.int 7, .int 41, .int f]) n2
        have hp7 := hp6.ln (o := .lst [.int 7, .int 41, .int f]) n2
        have pl := hp6.ne n2
        have hl2 : (upd T2 l2 (.lst [.int 7, .int 41, .int f])) l2 = some (.lst [.int 7, .int 41, .int f]) := upd_same
        generalize upd T2 l2 (.lst [.int 7, .int 41, .int f]) = T3 at g7 hl2 hp7 ⊢
        refine ⟨_, rfl, F4, p, 3, _, rfl, g7.fh, fp, hp7, by omega, by decide, by decide, fun d2 T4 d20 d21 g8 hp8 => ?_⟩
        have ef : ∃ f' : Int, atI [V.int 7, V.int 41, V.int f] d2 = some (.int f') ∧ 0 < f' ∧ f' ≤ 301 := by
          rcases (by omega : d2 = 0 ∨ d2 = 1 ∨ d2 = 2) with rfl | rfl | rfl
          · exact ⟨_, rfl, by decide, by decide⟩
          · exact ⟨_, rfl, by decide, by decide⟩
          · exact ⟨_, rfl, f0, f1⟩
        obtain ⟨f', ef, f0, f1⟩ := ef
        refine ⟨l2, _, _, _, rfl, rfl, SqL.of (g8.fr _ _ hl2 (Ne.symm pl)), ef, ?_⟩
        refine ⟨F4, p, f', _, rfl, g8.fh, fp, hp8, by omega, f0, by omega, fun d3 T5 d30 d31 g9 hp9 => ?_⟩
        have gg := g.trans ((g7.trans g8).trans g9)
        have en : ((d3.toNat : Nat) : Int) = d3 := Int.toNat_of_nonneg d30
        generalize hd3 : d3.toNat = N at en
        dsimp only
        rw [← en]
        have n300 : N ≤ 301 := by omega
        clear g7 g8 g9 hl1 hl2 hp7 hp8 g6 hp6 g5 hp5
        refine ⟨_, rfl, _, rfl, _, rfl, F4, .ref am, M, R, S, k, N, rfl, gg.fh, hm, hM, k1, k4, by omega, fun F5 T6 v z Y eY g10 hv st => ?_⟩
        refine ⟨2, rfl, by decide, by decide, for_range (lo := 0) (n := 2) (fun e σ U => ∃ (F7 : Hp) (v9 v10 : Option V), σ = [some (.ref l), some (.int i), some (.ref p), some (.ref am), some hd, some (.int (0 + j)), some (.int k), some (.int N), some v, v9, v10] ∧ Gr (muP p) G G1 F7 U ∧ Gr mu0 F5 T6 F7 U)
          ⟨F5, v9, v10, rfl, gg.trans g10.of0, Gr.refl g10.fh⟩ ?_ ?_⟩
        · rintro e σ U he ⟨F7, v9, v10, rfl, gu, ku⟩
          have hm7 := (hm.up g10.ff).up ku.ff
          have hhd7 := (hhd.up g10.ff).up ku.ff
          have hv7 := hv.up ku.ff
          refine ⟨_, rfl, _, rfl, _, rfl, F7, hd, M, R, S, k, N, rfl, gu.fh, hhd7, hM, k1, k4, by omega, fun F8 U8 v2 la xs z2 Y2 e2 g8 hv8 wl8 al8 st8 => ?_⟩
          have eYY : Y2 = Y := e2.symm.trans eY
          subst eYY
          have ez : z2 = z := st8.uniq st
          subst ez
          have few := byB_few k1 k4 hM (by omega : N ≤ 400) (by rw [eY]; exact st)
          refine ⟨_, rfl, _, rfl, .ref v2, v, (⟨Y2.w, Y2.st, Y2.row, Y2.pl, z2⟩ : Y5), rfl, ⟨v2, _, _, _, _, _, rfl, g8.fh _ _ hv8, rfl, rfl, rfl, rfl, la, xs, rfl, wl8.h, al8.up g8.fh⟩, (hv7.up g8.ff).up g8.fh, fun U9 s9 => ⟨_, rfl, ifF rfl ?_⟩⟩
          have g9 := g8.trans (gr_same g8.fh s9)
          have w9 : Ow U F8 U9 la (.lst xs) := ⟨wl8.n, wl8.f, s9 _ _ wl8.h⟩
          refine ⟨_, rfl, _, rfl, ne_dat (a := M) (b := M) ((hhd7.up g8.ff).up g9.fh) ((hm7.up g8.ff).up g9.fh) ⟨_, rfl, ifF (by rw [decide_eq_true rfl]; rfl) ?_⟩⟩
          refine ⟨_, rfl, v2, _, _, _, rfl, rfl, SqT.of (g9.fh _ _ hv8), atI_nat (j := 4) rfl, .inl ⟨rfl, _, SqL.of w9.h⟩, two_le, fun t1 nt1 => ⟨la, _, _, rfl, rfl, ln nt1 w9.h, by rw [al8.1]; exact lt_size (by omega), ?_⟩⟩
          have g10' := g9.new (o := .tup [.int 0, .int 9]) nt1
          have w10 := w9.new (u := .tup [.int 0, .int 9]) nt1
          have g11 := g10'.set (o := .lst (xs ++ [.ref t1])) w10.f (.inl w10.n)
          exact ⟨_, _, _, rfl, gu.trans g11.of0, ku.trans g11⟩
        · rintro σ U ⟨F7, v9, v10, rfl, gu, ku⟩
          exact ⟨F7, _, _, _, _, _, _, _, rfl, gu, (hp9.gr g10 (fun z => z)).gr ku (fun z => z), by omega, (hm.up g10.ff).up ku.ff, (hhd.up g10.ff).up ku.ff⟩
      · rintro σ T ⟨F4, b4, v5, v6, v7, v8, v9, v10, rfl, g, _⟩
        exact ⟨_, _, _, _, _, _, _, _, _, _, rfl, fun c o h => g.fh c o (g.ff c o (sG c o h))⟩
    · rintro σ G _
      exact q G

end
def all_tx {K : PySem.W.Frag} {h : Heap} {mg : Str → Option Value} {a_L_at a_L_purse a_L_mixed a_L_draw a_L_entry a_L_machine a_L_kept a_L_around a_L_strip a_L_walked a_is_entry a_is_machine a_must_machine a_Walk_init a_most_setups a_through a_Walk_out a_Walk_place a_Walk_strip a_Walk_block a_by_blocks a_L_whole a_L_is_strip a_L_good a_law C_NoMachine C_Walk : Addr} {od_L_at an_L_at od_L_purse an_L_purse od_L_mixed an_L_mixed od_L_draw an_L_draw od_L_entry an_L_entry od_L_machine an_L_machine od_L_kept an_L_kept od_L_around an_L_around od_L_strip an_L_strip od_L_walked an_L_walked od_is_entry an_is_entry od_is_machine an_is_machine od_must_machine an_must_machine od_Walk_init an_Walk_init od_most_setups an_most_setups od_through an_through od_Walk_out an_Walk_out od_Walk_place an_Walk_place od_Walk_strip an_Walk_strip od_Walk_block an_Walk_block od_by_blocks an_by_blocks od_L_whole an_L_whole od_L_is_strip an_L_is_strip od_L_good an_L_good od_law an_law : Option Addr} {sl_L_at sl_L_purse sl_L_mixed sl_L_draw sl_L_entry sl_L_machine sl_L_kept sl_L_around sl_L_strip sl_L_walked sl_is_entry sl_is_machine sl_must_machine sl_Walk_init sl_most_setups sl_through sl_Walk_out sl_Walk_place sl_Walk_strip sl_Walk_block sl_by_blocks sl_L_whole sl_L_is_strip sl_L_good sl_law : Array (Option Value)} {oc_L_at kV_L_at dc_L_at pm_L_at cd_L_at ct_L_at oc_L_purse kV_L_purse dc_L_purse pm_L_purse cd_L_purse ct_L_purse oc_L_mixed kV_L_mixed dc_L_mixed pm_L_mixed cd_L_mixed ct_L_mixed oc_L_draw kV_L_draw dc_L_draw pm_L_draw cd_L_draw ct_L_draw oc_L_entry kV_L_entry dc_L_entry pm_L_entry cd_L_entry ct_L_entry oc_L_machine kV_L_machine dc_L_machine pm_L_machine cd_L_machine ct_L_machine oc_L_kept kV_L_kept dc_L_kept pm_L_kept cd_L_kept ct_L_kept oc_L_around kV_L_around dc_L_around pm_L_around cd_L_around ct_L_around oc_L_strip kV_L_strip dc_L_strip pm_L_strip cd_L_strip ct_L_strip oc_L_walked kV_L_walked dc_L_walked pm_L_walked cd_L_walked ct_L_walked oc_is_entry kV_is_entry dc_is_entry pm_is_entry cd_is_entry ct_is_entry oc_is_machine kV_is_machine dc_is_machine pm_is_machine cd_is_machine ct_is_machine oc_must_machine kV_must_machine dc_must_machine pm_must_machine cd_must_machine ct_must_machine oc_Walk_init kV_Walk_init dc_Walk_init pm_Walk_init cd_Walk_init ct_Walk_init oc_most_setups kV_most_setups dc_most_setups pm_most_setups cd_most_setups ct_most_setups oc_through kV_through dc_through pm_through cd_through ct_through oc_Walk_out kV_Walk_out dc_Walk_out pm_Walk_out cd_Walk_out ct_Walk_out oc_Walk_place kV_Walk_place dc_Walk_place pm_Walk_place cd_Walk_place ct_Walk_place oc_Walk_strip kV_Walk_strip dc_Walk_strip pm_Walk_strip cd_Walk_strip ct_Walk_strip oc_Walk_block kV_Walk_block dc_Walk_block pm_Walk_block cd_Walk_block ct_Walk_block oc_by_blocks kV_by_blocks dc_by_blocks pm_by_blocks cd_by_blocks ct_by_blocks oc_L_whole kV_L_whole dc_L_whole pm_L_whole cd_L_whole ct_L_whole oc_L_is_strip kV_L_is_strip dc_L_is_strip pm_L_is_strip cd_L_is_strip ct_L_is_strip oc_L_good kV_L_good dc_L_good pm_L_good cd_L_good ct_L_good oc_law kV_law dc_law pm_law cd_law ct_law : Value} {tk_MOST_ROWS tk_MOST_SIGNS : Tok} (X : K.In h) (G : h.Ns mainGlobals mg)
    (n_NoMachine : PySem.W.nsIn K mainGlobals "NoMachine" = some (some (.ref C_NoMachine)))
    (n_Walk : PySem.W.nsIn K mainGlobals "Walk" = some (some (.ref C_Walk)))
    (n_L_at : PySem.W.nsIn K mainGlobals "_law_at" = some (some (.ref a_L_at)))
    (l_L_at : K.lookup a_L_at = some ⟨oc_L_at, od_L_at, .func (PySem.W.fnOf "_law_at" "_law_at" (defArgs s_L_at) (defBody s_L_at) (defScope s_L_at) .none kV_L_at dc_L_at pm_L_at an_L_at cd_L_at ct_L_at), sl_L_at⟩)
    (c_L_at : PySem.W.codeIn K cd_L_at "_law_at" = true)
    (k_L_at : PySem.W.keepIn K (.ref a_L_at) = true)
    (n_L_purse : PySem.W.nsIn K mainGlobals "_law_purse" = some (some (.ref a_L_purse)))
    (l_L_purse : K.lookup a_L_purse = some ⟨oc_L_purse, od_L_purse, .func (PySem.W.fnOf "_law_purse" "_law_purse" (defArgs s_L_purse) (defBody s_L_purse) (defScope s_L_purse) .none kV_L_purse dc_L_purse pm_L_purse an_L_purse cd_L_purse ct_L_purse), sl_L_purse⟩)
    (c_L_purse : PySem.W.codeIn K cd_L_purse "_law_purse" = true)
    (k_L_purse : PySem.W.keepIn K (.ref a_L_purse) = true)
    (n_L_mixed : PySem.W.nsIn K mainGlobals "_law_mixed" = some (some (.ref a_L_mixed)))
    (l_L_mixed : K.lookup a_L_mixed = some ⟨oc_L_mixed, od_L_mixed, .func (PySem.W.fnOf "_law_mixed" "_law_mixed" (defArgs s_L_mixed) (defBody s_L_mixed) (defScope s_L_mixed) .none kV_L_mixed dc_L_mixed pm_L_mixed an_L_mixed cd_L_mixed ct_L_mixed), sl_L_mixed⟩)
    (c_L_mixed : PySem.W.codeIn K cd_L_mixed "_law_mixed" = true)
    (k_L_mixed : PySem.W.keepIn K (.ref a_L_mixed) = true)
    (n_L_draw : PySem.W.nsIn K mainGlobals "_law_draw" = some (some (.ref a_L_draw)))
    (l_L_draw : K.lookup a_L_draw = some ⟨oc_L_draw, od_L_draw, .func (PySem.W.fnOf "_law_draw" "_law_draw" (defArgs s_L_draw) (defBody s_L_draw) (defScope s_L_draw) .none kV_L_draw dc_L_draw pm_L_draw an_L_draw cd_L_draw ct_L_draw), sl_L_draw⟩)
    (c_L_draw : PySem.W.codeIn K cd_L_draw "_law_draw" = true)
    (k_L_draw : PySem.W.keepIn K (.ref a_L_draw) = true)
    (n_L_entry : PySem.W.nsIn K mainGlobals "_law_entry" = some (some (.ref a_L_entry)))
    (l_L_entry : K.lookup a_L_entry = some ⟨oc_L_entry, od_L_entry, .func (PySem.W.fnOf "_law_entry" "_law_entry" (defArgs s_L_entry) (defBody s_L_entry) (defScope s_L_entry) .none kV_L_entry dc_L_entry pm_L_entry an_L_entry cd_L_entry ct_L_entry), sl_L_entry⟩)
    (c_L_entry : PySem.W.codeIn K cd_L_entry "_law_entry" = true)
    (k_L_entry : PySem.W.keepIn K (.ref a_L_entry) = true)
    (n_L_machine : PySem.W.nsIn K mainGlobals "_law_machine" = some (some (.ref a_L_machine)))
    (l_L_machine : K.lookup a_L_machine = some ⟨oc_L_machine, od_L_machine, .func (PySem.W.fnOf "_law_machine" "_law_machine" (defArgs s_L_machine) (defBody s_L_machine) (defScope s_L_machine) .none kV_L_machine dc_L_machine pm_L_machine an_L_machine cd_L_machine ct_L_machine), sl_L_machine⟩)
    (c_L_machine : PySem.W.codeIn K cd_L_machine "_law_machine" = true)
    (k_L_machine : PySem.W.keepIn K (.ref a_L_machine) = true)
    (n_L_kept : PySem.W.nsIn K mainGlobals "_law_kept" = some (some (.ref a_L_kept)))
    (l_L_kept : K.lookup a_L_kept = some ⟨oc_L_kept, od_L_kept, .func (PySem.W.fnOf "_law_kept" "_law_kept" (defArgs s_L_kept) (defBody s_L_kept) (defScope s_L_kept) .none kV_L_kept dc_L_kept pm_L_kept an_L_kept cd_L_kept ct_L_kept), sl_L_kept⟩)
    (c_L_kept : PySem.W.codeIn K cd_L_kept "_law_kept" = true)
    (k_L_kept : PySem.W.keepIn K (.ref a_L_kept) = true)
    (n_L_around : PySem.W.nsIn K mainGlobals "_law_around" = some (some (.ref a_L_around)))
    (l_L_around : K.lookup a_L_around = some ⟨oc_L_around, od_L_around, .func (PySem.W.fnOf "_law_around" "_law_around" (defArgs s_L_around) (defBody s_L_around) (defScope s_L_around) .none kV_L_around dc_L_around pm_L_around an_L_around cd_L_around ct_L_around), sl_L_around⟩)
    (c_L_around : PySem.W.codeIn K cd_L_around "_law_around" = true)
    (k_L_around : PySem.W.keepIn K (.ref a_L_around) = true)
    (n_L_strip : PySem.W.nsIn K mainGlobals "_law_strip" = some (some (.ref a_L_strip)))
    (l_L_strip : K.lookup a_L_strip = some ⟨oc_L_strip, od_L_strip, .func (PySem.W.fnOf "_law_strip" "_law_strip" (defArgs s_L_strip) (defBody s_L_strip) (defScope s_L_strip) .none kV_L_strip dc_L_strip pm_L_strip an_L_strip cd_L_strip ct_L_strip), sl_L_strip⟩)
    (c_L_strip : PySem.W.codeIn K cd_L_strip "_law_strip" = true)
    (k_L_strip : PySem.W.keepIn K (.ref a_L_strip) = true)
    (n_L_walked : PySem.W.nsIn K mainGlobals "_law_walked" = some (some (.ref a_L_walked)))
    (l_L_walked : K.lookup a_L_walked = some ⟨oc_L_walked, od_L_walked, .func (PySem.W.fnOf "_law_walked" "_law_walked" (defArgs s_L_walked) (defBody s_L_walked) (defScope s_L_walked) .none kV_L_walked dc_L_walked pm_L_walked an_L_walked cd_L_walked ct_L_walked), sl_L_walked⟩)
    (c_L_walked : PySem.W.codeIn K cd_L_walked "_law_walked" = true)
    (k_L_walked : PySem.W.keepIn K (.ref a_L_walked) = true)
    (n_is_entry : PySem.W.nsIn K mainGlobals "is_entry" = some (some (.ref a_is_entry)))
    (l_is_entry : K.lookup a_is_entry = some ⟨oc_is_entry, od_is_entry, .func (PySem.W.fnOf "is_entry" "is_entry" (defArgs s_is_entry) (defBody s_is_entry) (defScope s_is_entry) .none kV_is_entry dc_is_entry pm_is_entry an_is_entry cd_is_entry ct_is_entry), sl_is_entry⟩)
    (c_is_entry : PySem.W.codeIn K cd_is_entry "is_entry" = true)
    (k_is_entry : PySem.W.keepIn K (.ref a_is_entry) = true)
    (n_is_machine : PySem.W.nsIn K mainGlobals "is_machine" = some (some (.ref a_is_machine)))
    (l_is_machine : K.lookup a_is_machine = some ⟨oc_is_machine, od_is_machine, .func (PySem.W.fnOf "is_machine" "is_machine" (defArgs s_is_machine) (defBody s_is_machine) (defScope s_is_machine) .none kV_is_machine dc_is_machine pm_is_machine an_is_machine cd_is_machine ct_is_machine), sl_is_machine⟩)
    (c_is_machine : PySem.W.codeIn K cd_is_machine "is_machine" = true)
    (k_is_machine : PySem.W.keepIn K (.ref a_is_machine) = true)
    (n_must_machine : PySem.W.nsIn K mainGlobals "must_machine" = some (some (.ref a_must_machine)))
    (l_must_machine : K.lookup a_must_machine = some ⟨oc_must_machine, od_must_machine, .func (PySem.W.fnOf "must_machine" "must_machine" (defArgs s_must_machine) (defBody s_must_machine) (defScope s_must_machine) .none kV_must_machine dc_must_machine pm_must_machine an_must_machine cd_must_machine ct_must_machine), sl_must_machine⟩)
    (c_must_machine : PySem.W.codeIn K cd_must_machine "must_machine" = true)
    (k_must_machine : PySem.W.keepIn K (.ref a_must_machine) = true)
    (n_Walk_init : PySem.W.findIn K (.ref C_Walk) "__init__" = some (some (.ref a_Walk_init)))
    (i_Walk_init : PySem.W.isFn K (.ref a_Walk_init) = true)
    (l_Walk_init : K.lookup a_Walk_init = some ⟨oc_Walk_init, od_Walk_init, .func (PySem.W.fnOf "__init__" "Walk.__init__" (defArgs s_Walk_init) (defBody s_Walk_init) (defScope s_Walk_init) .none kV_Walk_init dc_Walk_init pm_Walk_init an_Walk_init cd_Walk_init ct_Walk_init), sl_Walk_init⟩)
    (c_Walk_init : PySem.W.codeIn K cd_Walk_init "Walk.__init__" = true)
    (k_Walk_init : PySem.W.keepIn K (.ref a_Walk_init) = true)
    (n_most_setups : PySem.W.nsIn K mainGlobals "most_setups" = some (some (.ref a_most_setups)))
    (l_most_setups : K.lookup a_most_setups = some ⟨oc_most_setups, od_most_setups, .func (PySem.W.fnOf "most_setups" "most_setups" (defArgs s_most_setups) (defBody s_most_setups) (defScope s_most_setups) .none kV_most_setups dc_most_setups pm_most_setups an_most_setups cd_most_setups ct_most_setups), sl_most_setups⟩)
    (c_most_setups : PySem.W.codeIn K cd_most_setups "most_setups" = true)
    (k_most_setups : PySem.W.keepIn K (.ref a_most_setups) = true)
    (n_through : PySem.W.nsIn K mainGlobals "through" = some (some (.ref a_through)))
    (l_through : K.lookup a_through = some ⟨oc_through, od_through, .func (PySem.W.fnOf "through" "through" (defArgs s_through) (defBody s_through) (defScope s_through) .none kV_through dc_through pm_through an_through cd_through ct_through), sl_through⟩)
    (c_through : PySem.W.codeIn K cd_through "through" = true)
    (k_through : PySem.W.keepIn K (.ref a_through) = true)
    (n_Walk_out : PySem.W.findIn K (.ref C_Walk) "out" = some (some (.ref a_Walk_out)))
    (i_Walk_out : PySem.W.isFn K (.ref a_Walk_out) = true)
    (l_Walk_out : K.lookup a_Walk_out = some ⟨oc_Walk_out, od_Walk_out, .func (PySem.W.fnOf "out" "Walk.out" (defArgs s_Walk_out) (defBody s_Walk_out) (defScope s_Walk_out) .none kV_Walk_out dc_Walk_out pm_Walk_out an_Walk_out cd_Walk_out ct_Walk_out), sl_Walk_out⟩)
    (c_Walk_out : PySem.W.codeIn K cd_Walk_out "Walk.out" = true)
    (k_Walk_out : PySem.W.keepIn K (.ref a_Walk_out) = true)
    (n_Walk_place : PySem.W.findIn K (.ref C_Walk) "place" = some (some (.ref a_Walk_place)))
    (i_Walk_place : PySem.W.isFn K (.ref a_Walk_place) = true)
    (l_Walk_place : K.lookup a_Walk_place = some ⟨oc_Walk_place, od_Walk_place, .func (PySem.W.fnOf "place" "Walk.place" (defArgs s_Walk_place) (defBody s_Walk_place) (defScope s_Walk_place) .none kV_Walk_place dc_Walk_place pm_Walk_place an_Walk_place cd_Walk_place ct_Walk_place), sl_Walk_place⟩)
    (c_Walk_place : PySem.W.codeIn K cd_Walk_place "Walk.place" = true)
    (k_Walk_place : PySem.W.keepIn K (.ref a_Walk_place) = true)
    (n_Walk_strip : PySem.W.findIn K (.ref C_Walk) "strip" = some (some (.ref a_Walk_strip)))
    (i_Walk_strip : PySem.W.isFn K (.ref a_Walk_strip) = true)
    (l_Walk_strip : K.lookup a_Walk_strip = some ⟨oc_Walk_strip, od_Walk_strip, .func (PySem.W.fnOf "strip" "Walk.strip" (defArgs s_Walk_strip) (defBody s_Walk_strip) (defScope s_Walk_strip) .none kV_Walk_strip dc_Walk_strip pm_Walk_strip an_Walk_strip cd_Walk_strip ct_Walk_strip), sl_Walk_strip⟩)
    (c_Walk_strip : PySem.W.codeIn K cd_Walk_strip "Walk.strip" = true)
    (k_Walk_strip : PySem.W.keepIn K (.ref a_Walk_strip) = true)
    (n_Walk_block : PySem.W.findIn K (.ref C_Walk) "block" = some (some (.ref a_Walk_block)))
    (i_Walk_block : PySem.W.isFn K (.ref a_Walk_block) = true)
    (l_Walk_block : K.lookup a_Walk_block = some ⟨oc_Walk_block, od_Walk_block, .func (PySem.W.fnOf "block" "Walk.block" (defArgs s_Walk_block) (defBody s_Walk_block) (defScope s_Walk_block) .none kV_Walk_block dc_Walk_block pm_Walk_block an_Walk_block cd_Walk_block ct_Walk_block), sl_Walk_block⟩)
    (c_Walk_block : PySem.W.codeIn K cd_Walk_block "Walk.block" = true)
    (k_Walk_block : PySem.W.keepIn K (.ref a_Walk_block) = true)
    (n_by_blocks : PySem.W.nsIn K mainGlobals "by_blocks" = some (some (.ref a_by_blocks)))
    (l_by_blocks : K.lookup a_by_blocks = some ⟨oc_by_blocks, od_by_blocks, .func (PySem.W.fnOf "by_blocks" "by_blocks" (defArgs s_by_blocks) (defBody s_by_blocks) (defScope s_by_blocks) .none kV_by_blocks dc_by_blocks pm_by_blocks an_by_blocks cd_by_blocks ct_by_blocks), sl_by_blocks⟩)
    (c_by_blocks : PySem.W.codeIn K cd_by_blocks "by_blocks" = true)
    (k_by_blocks : PySem.W.keepIn K (.ref a_by_blocks) = true)
    (n_L_whole : PySem.W.nsIn K mainGlobals "_law_whole" = some (some (.ref a_L_whole)))
    (l_L_whole : K.lookup a_L_whole = some ⟨oc_L_whole, od_L_whole, .func (PySem.W.fnOf "_law_whole" "_law_whole" (defArgs s_L_whole) (defBody s_L_whole) (defScope s_L_whole) .none kV_L_whole dc_L_whole pm_L_whole an_L_whole cd_L_whole ct_L_whole), sl_L_whole⟩)
    (c_L_whole : PySem.W.codeIn K cd_L_whole "_law_whole" = true)
    (k_L_whole : PySem.W.keepIn K (.ref a_L_whole) = true)
    (n_L_is_strip : PySem.W.nsIn K mainGlobals "_law_is_strip" = some (some (.ref a_L_is_strip)))
    (l_L_is_strip : K.lookup a_L_is_strip = some ⟨oc_L_is_strip, od_L_is_strip, .func (PySem.W.fnOf "_law_is_strip" "_law_is_strip" (defArgs s_L_is_strip) (defBody s_L_is_strip) (defScope s_L_is_strip) .none kV_L_is_strip dc_L_is_strip pm_L_is_strip an_L_is_strip cd_L_is_strip ct_L_is_strip), sl_L_is_strip⟩)
    (c_L_is_strip : PySem.W.codeIn K cd_L_is_strip "_law_is_strip" = true)
    (k_L_is_strip : PySem.W.keepIn K (.ref a_L_is_strip) = true)
    (n_L_good : PySem.W.nsIn K mainGlobals "_law_good" = some (some (.ref a_L_good)))
    (l_L_good : K.lookup a_L_good = some ⟨oc_L_good, od_L_good, .func (PySem.W.fnOf "_law_good" "_law_good" (defArgs s_L_good) (defBody s_L_good) (defScope s_L_good) .none kV_L_good dc_L_good pm_L_good an_L_good cd_L_good ct_L_good), sl_L_good⟩)
    (c_L_good : PySem.W.codeIn K cd_L_good "_law_good" = true)
    (k_L_good : PySem.W.keepIn K (.ref a_L_good) = true)
    (n_law : PySem.W.nsIn K mainGlobals "law" = some (some (.ref a_law)))
    (l_law : K.lookup a_law = some ⟨oc_law, od_law, .func (PySem.W.fnOf "law" "law" (defArgs s_law) (defBody s_law) (defScope s_law) .none kV_law dc_law pm_law an_law cd_law ct_law), sl_law⟩)
    (c_law : PySem.W.codeIn K cd_law "law" = true)
    (k_law : PySem.W.keepIn K (.ref a_law) = true)
    (pg_Walk : PySem.W.plainGet K C_Walk Str.empty = true)
    (hd_Walk : PySem.W.hasDictIn K C_Walk = true)
    (po_Walk : PySem.W.plainOver K C_Walk = true)
    (sa_Walk : PySem.W.findIn K (.ref C_Walk) "__setattr__" = some (some (.builtin "object.__setattr__")))
    (mk_Walk : PySem.W.makesIn K C_Walk = true)
    (kc_Walk : PySem.W.keepIn K (.ref C_Walk) = true)
    (f_Walk_long : PySem.W.findIn K (.ref C_Walk) "long" = some none)
    (f_Walk_blocks : PySem.W.findIn K (.ref C_Walk) "blocks" = some none)
    (f_Walk_at : PySem.W.findIn K (.ref C_Walk) "at" = some none)
    (f_Walk_row : PySem.W.findIn K (.ref C_Walk) "row" = some none)
    (f_Walk_side : PySem.W.findIn K (.ref C_Walk) "side" = some none)
    (f_Walk_steps : PySem.W.findIn K (.ref C_Walk) "steps" = some none)
    (n_MOST_ROWS : PySem.W.nsIn K mainGlobals "MOST_ROWS" = some (some (.int 4 tk_MOST_ROWS)))
    (n_MOST_SIGNS : PySem.W.nsIn K mainGlobals "MOST_SIGNS" = some (some (.int 4 tk_MOST_SIGNS)))
    (z_len : PySem.W.nsIn K mainGlobals "len" = some none)
    (z_max : PySem.W.nsIn K mainGlobals "max" = some none)
    (z_int : PySem.W.nsIn K mainGlobals "int" = some none)
    (z_range : PySem.W.nsIn K mainGlobals "range" = some none)
    (z_list : PySem.W.nsIn K mainGlobals "list" = some none)
    (z_tuple : PySem.W.nsIn K mainGlobals "tuple" = some none)
    (z_sorted : PySem.W.nsIn K mainGlobals "sorted" = some none)
    (z_all : PySem.W.nsIn K mainGlobals "all" = some none)
    (z_enumerate : PySem.W.nsIn K mainGlobals "enumerate" = some none)
    (z_isinstance : PySem.W.nsIn K mainGlobals "isinstance" = some none)
    (z_bool : PySem.W.nsIn K mainGlobals "bool" = some none) : Tx K mg where
  a_L_at := a_L_at
  fd_L_at := PySem.W.fnOf "_law_at" "_law_at" (defArgs s_L_at) (defBody s_L_at) (defScope s_L_at) .none kV_L_at dc_L_at pm_L_at an_L_at cd_L_at ct_L_at
  F_L_at := fun_mk l_L_at c_L_at k_L_at
  b_L_at := (fun_mk (st := s_L_at) l_L_at c_L_at k_L_at).binds (ps := ["_law_script", "_law_k"]) fun _ _ _ _ _ _ us hl => match us, hl with | [_, _], _ => rfl
  m_L_at := PySem.W.mg_of X G n_L_at
  a_L_purse := a_L_purse
  fd_L_purse := PySem.W.fnOf "_law_purse" "_law_purse" (defArgs s_L_purse) (defBody s_L_purse) (defScope s_L_purse) .none kV_L_purse dc_L_purse pm_L_purse an_L_purse cd_L_purse ct_L_purse
  F_L_purse := fun_mk l_L_purse c_L_purse k_L_purse
  b_L_purse := (fun_mk (st := s_L_purse) l_L_purse c_L_purse k_L_purse).binds (ps := ["_law_script", "_law_at_here"]) fun _ _ _ _ _ _ us hl => match us, hl with | [_, _], _ => rfl
  m_L_purse := PySem.W.mg_of X G n_L_purse
  a_L_mixed := a_L_mixed
  fd_L_mixed := PySem.W.fnOf "_law_mixed" "_law_mixed" (defArgs s_L_mixed) (defBody s_L_mixed) (defScope s_L_mixed) .none kV_L_mixed dc_L_mixed pm_L_mixed an_L_mixed cd_L_mixed ct_L_mixed
  F_L_mixed := fun_mk l_L_mixed c_L_mixed k_L_mixed
  b_L_mixed := (fun_mk (st := s_L_mixed) l_L_mixed c_L_mixed k_L_mixed).binds (ps := ["_law_cell", "_law_k"]) fun _ _ _ _ _ _ us hl => match us, hl with | [_, _], _ => rfl
  m_L_mixed := PySem.W.mg_of X G n_L_mixed
  a_L_draw := a_L_draw
  fd_L_draw := PySem.W.fnOf "_law_draw" "_law_draw" (defArgs s_L_draw) (defBody s_L_draw) (defScope s_L_draw) .none kV_L_draw dc_L_draw pm_L_draw an_L_draw cd_L_draw ct_L_draw
  F_L_draw := fun_mk l_L_draw c_L_draw k_L_draw
  b_L_draw := (fun_mk (st := s_L_draw) l_L_draw c_L_draw k_L_draw).binds (ps := ["_law_purse_here", "_law_out_of"]) fun _ _ _ _ _ _ us hl => match us, hl with | [_, _], _ => rfl
  m_L_draw := PySem.W.mg_of X G n_L_draw
  a_L_entry := a_L_entry
  fd_L_entry := PySem.W.fnOf "_law_entry" "_law_entry" (defArgs s_L_entry) (defBody s_L_entry) (defScope s_L_entry) .none kV_L_entry dc_L_entry pm_L_entry an_L_entry cd_L_entry ct_L_entry
  F_L_entry := fun_mk l_L_entry c_L_entry k_L_entry
  b_L_entry := (fun_mk (st := s_L_entry) l_L_entry c_L_entry k_L_entry).binds (ps := ["_law_purse_here", "_law_rows", "_law_signs", "_law_row", "_law_few"]) fun _ _ _ _ _ _ us hl => match us, hl with | [_, _, _, _, _], _ => rfl
  m_L_entry := PySem.W.mg_of X G n_L_entry
  a_L_machine := a_L_machine
  fd_L_machine := PySem.W.fnOf "_law_machine" "_law_machine" (defArgs s_L_machine) (defBody s_L_machine) (defScope s_L_machine) .none kV_L_machine dc_L_machine pm_L_machine an_L_machine cd_L_machine ct_L_machine
  F_L_machine := fun_mk l_L_machine c_L_machine k_L_machine
  b_L_machine := (fun_mk (st := s_L_machine) l_L_machine c_L_machine k_L_machine).binds (ps := ["_law_purse_here"]) fun _ _ _ _ _ _ us hl => match us, hl with | [_], _ => rfl
  m_L_machine := PySem.W.mg_of X G n_L_machine
  a_L_kept := a_L_kept
  fd_L_kept := PySem.W.fnOf "_law_kept" "_law_kept" (defArgs s_L_kept) (defBody s_L_kept) (defScope s_L_kept) .none kV_L_kept dc_L_kept pm_L_kept an_L_kept cd_L_kept ct_L_kept
  F_L_kept := fun_mk l_L_kept c_L_kept k_L_kept
  b_L_kept := (fun_mk (st := s_L_kept) l_L_kept c_L_kept k_L_kept).binds (ps := ["_law_machine_here"]) fun _ _ _ _ _ _ us hl => match us, hl with | [_], _ => rfl
  m_L_kept := PySem.W.mg_of X G n_L_kept
  a_L_around := a_L_around
  fd_L_around := PySem.W.fnOf "_law_around" "_law_around" (defArgs s_L_around) (defBody s_L_around) (defScope s_L_around) .none kV_L_around dc_L_around pm_L_around an_L_around cd_L_around ct_L_around
  F_L_around := fun_mk l_L_around c_L_around k_L_around
  b_L_around := (fun_mk (st := s_L_around) l_L_around c_L_around k_L_around).binds (ps := ["_law_signs", "_law_place", "_law_k"]) fun _ _ _ _ _ _ us hl => match us, hl with | [_, _, _], _ => rfl
  m_L_around := PySem.W.mg_of X G n_L_around
  a_L_strip := a_L_strip
  fd_L_strip := PySem.W.fnOf "_law_strip" "_law_strip" (defArgs s_L_strip) (defBody s_L_strip) (defScope s_L_strip) .none kV_L_strip dc_L_strip pm_L_strip an_L_strip cd_L_strip ct_L_strip
  F_L_strip := fun_mk l_L_strip c_L_strip k_L_strip
  b_L_strip := (fun_mk (st := s_L_strip) l_L_strip c_L_strip k_L_strip).binds (ps := ["_law_signs"]) fun _ _ _ _ _ _ us hl => match us, hl with | [_], _ => rfl
  m_L_strip := PySem.W.mg_of X G n_L_strip
  a_L_walked := a_L_walked
  fd_L_walked := PySem.W.fnOf "_law_walked" "_law_walked" (defArgs s_L_walked) (defBody s_L_walked) (defScope s_L_walked) .none kV_L_walked dc_L_walked pm_L_walked an_L_walked cd_L_walked ct_L_walked
  F_L_walked := fun_mk l_L_walked c_L_walked k_L_walked
  b_L_walked := (fun_mk (st := s_L_walked) l_L_walked c_L_walked k_L_walked).binds (ps := ["_law_machine_here", "_law_k", "_law_many"]) fun _ _ _ _ _ _ us hl => match us, hl with | [_, _, _], _ => rfl
  m_L_walked := PySem.W.mg_of X G n_L_walked
  a_is_entry := a_is_entry
  fd_is_entry := PySem.W.fnOf "is_entry" "is_entry" (defArgs s_is_entry) (defBody s_is_entry) (defScope s_is_entry) .none kV_is_entry dc_is_entry pm_is_entry an_is_entry cd_is_entry ct_is_entry
  F_is_entry := fun_mk l_is_entry c_is_entry k_is_entry
  b_is_entry := (fun_mk (st := s_is_entry) l_is_entry c_is_entry k_is_entry).binds (ps := ["entry", "rows", "signs"]) fun _ _ _ _ _ _ us hl => match us, hl with | [_, _, _], _ => rfl
  m_is_entry := PySem.W.mg_of X G n_is_entry
  a_is_machine := a_is_machine
  fd_is_machine := PySem.W.fnOf "is_machine" "is_machine" (defArgs s_is_machine) (defBody s_is_machine) (defScope s_is_machine) .none kV_is_machine dc_is_machine pm_is_machine an_is_machine cd_is_machine ct_is_machine
  F_is_machine := fun_mk l_is_machine c_is_machine k_is_machine
  b_is_machine := (fun_mk (st := s_is_machine) l_is_machine c_is_machine k_is_machine).binds (ps := ["machine"]) fun _ _ _ _ _ _ us hl => match us, hl with | [_], _ => rfl
  m_is_machine := PySem.W.mg_of X G n_is_machine
  a_must_machine := a_must_machine
  fd_must_machine := PySem.W.fnOf "must_machine" "must_machine" (defArgs s_must_machine) (defBody s_must_machine) (defScope s_must_machine) .none kV_must_machine dc_must_machine pm_must_machine an_must_machine cd_must_machine ct_must_machine
  F_must_machine := fun_mk l_must_machine c_must_machine k_must_machine
  b_must_machine := (fun_mk (st := s_must_machine) l_must_machine c_must_machine k_must_machine).binds (ps := ["machine"]) fun _ _ _ _ _ _ us hl => match us, hl with | [_], _ => rfl
  m_must_machine := PySem.W.mg_of X G n_must_machine
  a_Walk_init := a_Walk_init
  fd_Walk_init := PySem.W.fnOf "__init__" "Walk.__init__" (defArgs s_Walk_init) (defBody s_Walk_init) (defScope s_Walk_init) .none kV_Walk_init dc_Walk_init pm_Walk_init an_Walk_init cd_Walk_init ct_Walk_init
  F_Walk_init := fun_mk l_Walk_init c_Walk_init k_Walk_init
  b_Walk_init := (fun_mk (st := s_Walk_init) l_Walk_init c_Walk_init k_Walk_init).binds (ps := ["self", "long"]) fun _ _ _ _ _ _ us hl => match us, hl with | [_, _], _ => rfl
  a_most_setups := a_most_setups
  fd_most_setups := PySem.W.fnOf "most_setups" "most_setups" (defArgs s_most_setups) (defBody s_most_setups) (defScope s_most_setups) .none kV_most_setups dc_most_setups pm_most_setups an_most_setups cd_most_setups ct_most_setups
  F_most_setups := fun_mk l_most_setups c_most_setups k_most_setups
  b_most_setups := (fun_mk (st := s_most_setups) l_most_setups c_most_setups k_most_setups).binds (ps := ["machine", "block"]) fun _ _ _ _ _ _ us hl => match us, hl with | [_, _], _ => rfl
  m_most_setups := PySem.W.mg_of X G n_most_setups
  a_through := a_through
  fd_through := PySem.W.fnOf "through" "through" (defArgs s_through) (defBody s_through) (defScope s_through) .none kV_through dc_through pm_through an_through cd_through ct_through
  F_through := fun_mk l_through c_through k_through
  b_through := (fun_mk (st := s_through) l_through c_through k_through).binds (ps := ["machine", "block", "row", "side"]) fun _ _ _ _ _ _ us hl => match us, hl with | [_, _, _, _], _ => rfl
  m_through := PySem.W.mg_of X G n_through
  a_Walk_out := a_Walk_out
  fd_Walk_out := PySem.W.fnOf "out" "Walk.out" (defArgs s_Walk_out) (defBody s_Walk_out) (defScope s_Walk_out) .none kV_Walk_out dc_Walk_out pm_Walk_out an_Walk_out cd_Walk_out ct_Walk_out
  F_Walk_out := fun_mk l_Walk_out c_Walk_out k_Walk_out
  b_Walk_out := (fun_mk (st := s_Walk_out) l_Walk_out c_Walk_out k_Walk_out).binds (ps := ["self", "found"]) fun _ _ _ _ _ _ us hl => match us, hl with | [_, _], _ => rfl
  a_Walk_place := a_Walk_place
  fd_Walk_place := PySem.W.fnOf "place" "Walk.place" (defArgs s_Walk_place) (defBody s_Walk_place) (defScope s_Walk_place) .none kV_Walk_place dc_Walk_place pm_Walk_place an_Walk_place cd_Walk_place ct_Walk_place
  F_Walk_place := fun_mk l_Walk_place c_Walk_place k_Walk_place
  b_Walk_place := (fun_mk (st := s_Walk_place) l_Walk_place c_Walk_place k_Walk_place).binds (ps := ["self"]) fun _ _ _ _ _ _ us hl => match us, hl with | [_], _ => rfl
  a_Walk_strip := a_Walk_strip
  fd_Walk_strip := PySem.W.fnOf "strip" "Walk.strip" (defArgs s_Walk_strip) (defBody s_Walk_strip) (defScope s_Walk_strip) .none kV_Walk_strip dc_Walk_strip pm_Walk_strip an_Walk_strip cd_Walk_strip ct_Walk_strip
  F_Walk_strip := fun_mk l_Walk_strip c_Walk_strip k_Walk_strip
  b_Walk_strip := (fun_mk (st := s_Walk_strip) l_Walk_strip c_Walk_strip k_Walk_strip).binds (ps := ["self"]) fun _ _ _ _ _ _ us hl => match us, hl with | [_], _ => rfl
  a_Walk_block := a_Walk_block
  fd_Walk_block := PySem.W.fnOf "block" "Walk.block" (defArgs s_Walk_block) (defBody s_Walk_block) (defScope s_Walk_block) .none kV_Walk_block dc_Walk_block pm_Walk_block an_Walk_block cd_Walk_block ct_Walk_block
  F_Walk_block := fun_mk l_Walk_block c_Walk_block k_Walk_block
  b_Walk_block := (fun_mk (st := s_Walk_block) l_Walk_block c_Walk_block k_Walk_block).binds (ps := ["self"]) fun _ _ _ _ _ _ us hl => match us, hl with | [_], _ => rfl
  a_by_blocks := a_by_blocks
  fd_by_blocks := PySem.W.fnOf "by_blocks" "by_blocks" (defArgs s_by_blocks) (defBody s_by_blocks) (defScope s_by_blocks) .none kV_by_blocks dc_by_blocks pm_by_blocks an_by_blocks cd_by_blocks ct_by_blocks
  F_by_blocks := fun_mk l_by_blocks c_by_blocks k_by_blocks
  b_by_blocks := (fun_mk (st := s_by_blocks) l_by_blocks c_by_blocks k_by_blocks).binds (ps := ["machine", "k", "many"]) fun _ _ _ _ _ _ us hl => match us, hl with | [_, _, _], _ => rfl
  m_by_blocks := PySem.W.mg_of X G n_by_blocks
  a_L_whole := a_L_whole
  fd_L_whole := PySem.W.fnOf "_law_whole" "_law_whole" (defArgs s_L_whole) (defBody s_L_whole) (defScope s_L_whole) .none kV_L_whole dc_L_whole pm_L_whole an_L_whole cd_L_whole ct_L_whole
  F_L_whole := fun_mk l_L_whole c_L_whole k_L_whole
  b_L_whole := (fun_mk (st := s_L_whole) l_L_whole c_L_whole k_L_whole).binds (ps := ["_law_found"]) fun _ _ _ _ _ _ us hl => match us, hl with | [_], _ => rfl
  m_L_whole := PySem.W.mg_of X G n_L_whole
  a_L_is_strip := a_L_is_strip
  fd_L_is_strip := PySem.W.fnOf "_law_is_strip" "_law_is_strip" (defArgs s_L_is_strip) (defBody s_L_is_strip) (defScope s_L_is_strip) .none kV_L_is_strip dc_L_is_strip pm_L_is_strip an_L_is_strip cd_L_is_strip ct_L_is_strip
  F_L_is_strip := fun_mk l_L_is_strip c_L_is_strip k_L_is_strip
  b_L_is_strip := (fun_mk (st := s_L_is_strip) l_L_is_strip c_L_is_strip k_L_is_strip).binds (ps := ["_law_strip_here"]) fun _ _ _ _ _ _ us hl => match us, hl with | [_], _ => rfl
  m_L_is_strip := PySem.W.mg_of X G n_L_is_strip
  a_L_good := a_L_good
  fd_L_good := PySem.W.fnOf "_law_good" "_law_good" (defArgs s_L_good) (defBody s_L_good) (defScope s_L_good) .none kV_L_good dc_L_good pm_L_good an_L_good cd_L_good ct_L_good
  F_L_good := fun_mk l_L_good c_L_good k_L_good
  b_L_good := (fun_mk (st := s_L_good) l_L_good c_L_good k_L_good).binds (ps := ["_law_found", "_law_due"]) fun _ _ _ _ _ _ us hl => match us, hl with | [_, _], _ => rfl
  m_L_good := PySem.W.mg_of X G n_L_good
  a_law := a_law
  fd_law := PySem.W.fnOf "law" "law" (defArgs s_law) (defBody s_law) (defScope s_law) .none kV_law dc_law pm_law an_law cd_law ct_law
  F_law := fun_mk l_law c_law k_law
  b_law := (fun_mk (st := s_law) l_law c_law k_law).binds (ps := ["_law_script"]) fun _ _ _ _ _ _ us hl => match us, hl with | [_], _ => rfl
  m_law := PySem.W.mg_of X G n_law
  C_NoMachine := C_NoMachine
  m_NoMachine := PySem.W.mg_of X G n_NoMachine
  C_Walk := C_Walk
  m_Walk := PySem.W.mg_of X G n_Walk
  cl_Walk := ⟨pg_Walk, hd_Walk, po_Walk, sa_Walk⟩
  M_Walk := ⟨mk_Walk, n_Walk_init, i_Walk_init, kc_Walk⟩
  M_Walk_block := ⟨n_Walk_block, i_Walk_block, k_Walk_block⟩
  M_Walk_place := ⟨n_Walk_place, i_Walk_place, k_Walk_place⟩
  M_Walk_out := ⟨n_Walk_out, i_Walk_out, k_Walk_out⟩
  M_Walk_strip := ⟨n_Walk_strip, i_Walk_strip, k_Walk_strip⟩
  nA_Walk_long := f_Walk_long
  nA_Walk_blocks := f_Walk_blocks
  nA_Walk_at := f_Walk_at
  nA_Walk_row := f_Walk_row
  nA_Walk_side := f_Walk_side
  nA_Walk_steps := f_Walk_steps
  tk_MOST_ROWS := tk_MOST_ROWS
  m_MOST_ROWS := PySem.W.mg_of X G n_MOST_ROWS
  tk_MOST_SIGNS := tk_MOST_SIGNS
  m_MOST_SIGNS := PySem.W.mg_of X G n_MOST_SIGNS
  n_len := PySem.W.mg_none_of X G z_len
  n_max := PySem.W.mg_none_of X G z_max
  n_int := PySem.W.mg_none_of X G z_int
  n_range := PySem.W.mg_none_of X G z_range
  n_list := PySem.W.mg_none_of X G z_list
  n_tuple := PySem.W.mg_none_of X G z_tuple
  n_sorted := PySem.W.mg_none_of X G z_sorted
  n_all := PySem.W.mg_none_of X G z_all
  n_enumerate := PySem.W.mg_none_of X G z_enumerate
  n_isinstance := PySem.W.mg_none_of X G z_isinstance
  n_bool := PySem.W.mg_none_of X G z_bool
theorem all_mk {l : PySem.W.OpenLaw} {w : World} {K : PySem.W.Frag} {h : Heap} {mg : Str → Option Value} {fa : Addr} (X : K.In h) (G : h.Ns mainGlobals mg) (hfa : mg "law" = some (.ref fa)) (t : Tx K mg)
    (hb : ∃ (kV dc pm : Value) (an : Option Addr) (cd ct : Value), t.fd_law = PySem.W.fnOf "law" "law" (defArgs s_law) (defBody s_law) (defScope s_law) .none kV dc pm an cd ct) :
    ∃ fd : FuncData, (∀ (s : Shared) (v : Value), BindsTo s fd ⟨[v], []⟩ [("_law_script", v)]) ∧ ∀ base : Heap, K.In base → base.Ns mainGlobals mg → FnOk l.prog w K mg base CX0 6 fa fd ["_law_script"] (sp_law K) := by
  have e := hfa.symm.trans t.m_law
  cases e
  refine ⟨t.fd_law, fun s v => ?_, fun base _ _ => ok_law t⟩
  obtain ⟨kV, dc, pm, an, cd, ct, e⟩ := hb
  rw [e]
  exact .of_eq rfl
theorem walk {l : PySem.W.OpenLaw} {q : Program} {loose : List Str} {XP : (Str → Option Value) → Heap → Prop} {YP : World → Heap → Prop} {d : DefRec} {K : Params → PySem.W.Frag} (hn : l.most = some 63) (hdf : d.params.defaults = [])
    (hY : ∀ (w : World) (h : Heap), YP w h → (K w.params).In h)
    (F : ∀ (w : World) (mg : Str → Option Value) (fa : Addr) (h : Heap), (K w.params).In h → h.Ns mainGlobals mg → mg d.name = some (.ref fa) →
      ∃ fd : FuncData, (∀ (s : Shared) (u : Value), BindsTo s fd ⟨[u], []⟩ [("_law_script", u)]) ∧ ∀ base : Heap, (K w.params).In base → base.Ns mainGlobals mg → FnOk l.prog w (K w.params) mg base CX0 6 fa fd ["_law_script"] (sp_law (K w.params))) :
    PySem.W.WalkO q loose XP YP l.row.toRowW d [] (fun f vs => PySem.call f vs) :=
  L2.walk_of (n := 63) (k := 6) (x := "_law_script") (CX := fun _ => CX0) (sp := fun w => sp_law (K w.params)) hn (by decide) hdf ⟨rfl, by decide, by decide⟩ hY F (fun _ _ a ns hl _ hS => ⟨a, ns, rfl, hS, hl, fun _ => rfl⟩) fun _ _ _ _ _ z => z
theorem all_go {l : PySem.W.OpenLaw} {w : World} {K : PySem.W.Frag} {h : Heap} {mg : Str → Option Value} {fa : Addr} {a_L_at a_L_purse a_L_mixed a_L_draw a_L_entry a_L_machine a_L_kept a_L_around a_L_strip a_L_walked a_is_entry a_is_machine a_must_machine a_Walk_init a_most_setups a_through a_Walk_out a_Walk_place a_Walk_strip a_Walk_block a_by_blocks a_L_whole a_L_is_strip a_L_good a_law C_NoMachine C_Walk : Addr} {od_L_at an_L_at od_L_purse an_L_purse od_L_mixed an_L_mixed od_L_draw an_L_draw od_L_entry an_L_entry od_L_machine an_L_machine od_L_kept an_L_kept od_L_around an_L_around od_L_strip an_L_strip od_L_walked an_L_walked od_is_entry an_is_entry od_is_machine an_is_machine od_must_machine an_must_machine od_Walk_init an_Walk_init od_most_setups an_most_setups od_through an_through od_Walk_out an_Walk_out od_Walk_place an_Walk_place od_Walk_strip an_Walk_strip od_Walk_block an_Walk_block od_by_blocks an_by_blocks od_L_whole an_L_whole od_L_is_strip an_L_is_strip od_L_good an_L_good od_law an_law : Option Addr} {sl_L_at sl_L_purse sl_L_mixed sl_L_draw sl_L_entry sl_L_machine sl_L_kept sl_L_around sl_L_strip sl_L_walked sl_is_entry sl_is_machine sl_must_machine sl_Walk_init sl_most_setups sl_through sl_Walk_out sl_Walk_place sl_Walk_strip sl_Walk_block sl_by_blocks sl_L_whole sl_L_is_strip sl_L_good sl_law : Array (Option Value)} {oc_L_at kV_L_at dc_L_at pm_L_at cd_L_at ct_L_at oc_L_purse kV_L_purse dc_L_purse pm_L_purse cd_L_purse ct_L_purse oc_L_mixed kV_L_mixed dc_L_mixed pm_L_mixed cd_L_mixed ct_L_mixed oc_L_draw kV_L_draw dc_L_draw pm_L_draw cd_L_draw ct_L_draw oc_L_entry kV_L_entry dc_L_entry pm_L_entry cd_L_entry ct_L_entry oc_L_machine kV_L_machine dc_L_machine pm_L_machine cd_L_machine ct_L_machine oc_L_kept kV_L_kept dc_L_kept pm_L_kept cd_L_kept ct_L_kept oc_L_around kV_L_around dc_L_around pm_L_around cd_L_around ct_L_around oc_L_strip kV_L_strip dc_L_strip pm_L_strip cd_L_strip ct_L_strip oc_L_walked kV_L_walked dc_L_walked pm_L_walked cd_L_walked ct_L_walked oc_is_entry kV_is_entry dc_is_entry pm_is_entry cd_is_entry ct_is_entry oc_is_machine kV_is_machine dc_is_machine pm_is_machine cd_is_machine ct_is_machine oc_must_machine kV_must_machine dc_must_machine pm_must_machine cd_must_machine ct_must_machine oc_Walk_init kV_Walk_init dc_Walk_init pm_Walk_init cd_Walk_init ct_Walk_init oc_most_setups kV_most_setups dc_most_setups pm_most_setups cd_most_setups ct_most_setups oc_through kV_through dc_through pm_through cd_through ct_through oc_Walk_out kV_Walk_out dc_Walk_out pm_Walk_out cd_Walk_out ct_Walk_out oc_Walk_place kV_Walk_place dc_Walk_place pm_Walk_place cd_Walk_place ct_Walk_place oc_Walk_strip kV_Walk_strip dc_Walk_strip pm_Walk_strip cd_Walk_strip ct_Walk_strip oc_Walk_block kV_Walk_block dc_Walk_block pm_Walk_block cd_Walk_block ct_Walk_block oc_by_blocks kV_by_blocks dc_by_blocks pm_by_blocks cd_by_blocks ct_by_blocks oc_L_whole kV_L_whole dc_L_whole pm_L_whole cd_L_whole ct_L_whole oc_L_is_strip kV_L_is_strip dc_L_is_strip pm_L_is_strip cd_L_is_strip ct_L_is_strip oc_L_good kV_L_good dc_L_good pm_L_good cd_L_good ct_L_good oc_law kV_law dc_law pm_law cd_law ct_law : Value} {tk_MOST_ROWS tk_MOST_SIGNS : Tok} (X : K.In h) (G : h.Ns mainGlobals mg) (hfa : mg "law" = some (.ref fa))
    (n_NoMachine : PySem.W.nsIn K mainGlobals "NoMachine" = some (some (.ref C_NoMachine)))
    (n_Walk : PySem.W.nsIn K mainGlobals "Walk" = some (some (.ref C_Walk)))
    (n_L_at : PySem.W.nsIn K mainGlobals "_law_at" = some (some (.ref a_L_at)))
    (l_L_at : K.lookup a_L_at = some ⟨oc_L_at, od_L_at, .func (PySem.W.fnOf "_law_at" "_law_at" (defArgs s_L_at) (defBody s_L_at) (defScope s_L_at) .none kV_L_at dc_L_at pm_L_at an_L_at cd_L_at ct_L_at), sl_L_at⟩)
    (c_L_at : PySem.W.codeIn K cd_L_at "_law_at" = true)
    (k_L_at : PySem.W.keepIn K (.ref a_L_at) = true)
    (n_L_purse : PySem.W.nsIn K mainGlobals "_law_purse" = some (some (.ref a_L_purse)))
    (l_L_purse : K.lookup a_L_purse = some ⟨oc_L_purse, od_L_purse, .func (PySem.W.fnOf "_law_purse" "_law_purse" (defArgs s_L_purse) (defBody s_L_purse) (defScope s_L_purse) .none kV_L_purse dc_L_purse pm_L_purse an_L_purse cd_L_purse ct_L_purse), sl_L_purse⟩)
    (c_L_purse : PySem.W.codeIn K cd_L_purse "_law_purse" = true)
    (k_L_purse : PySem.W.keepIn K (.ref a_L_purse) = true)
    (n_L_mixed : PySem.W.nsIn K mainGlobals "_law_mixed" = some (some (.ref a_L_mixed)))
    (l_L_mixed : K.lookup a_L_mixed = some ⟨oc_L_mixed, od_L_mixed, .func (PySem.W.fnOf "_law_mixed" "_law_mixed" (defArgs s_L_mixed) (defBody s_L_mixed) (defScope s_L_mixed) .none kV_L_mixed dc_L_mixed pm_L_mixed an_L_mixed cd_L_mixed ct_L_mixed), sl_L_mixed⟩)
    (c_L_mixed : PySem.W.codeIn K cd_L_mixed "_law_mixed" = true)
    (k_L_mixed : PySem.W.keepIn K (.ref a_L_mixed) = true)
    (n_L_draw : PySem.W.nsIn K mainGlobals "_law_draw" = some (some (.ref a_L_draw)))
    (l_L_draw : K.lookup a_L_draw = some ⟨oc_L_draw, od_L_draw, .func (PySem.W.fnOf "_law_draw" "_law_draw" (defArgs s_L_draw) (defBody s_L_draw) (defScope s_L_draw) .none kV_L_draw dc_L_draw pm_L_draw an_L_draw cd_L_draw ct_L_draw), sl_L_draw⟩)
    (c_L_draw : PySem.W.codeIn K cd_L_draw "_law_draw" = true)
    (k_L_draw : PySem.W.keepIn K (.ref a_L_draw) = true)
    (n_L_entry : PySem.W.nsIn K mainGlobals "_law_entry" = some (some (.ref a_L_entry)))
    (l_L_entry : K.lookup a_L_entry = some ⟨oc_L_entry, od_L_entry, .func (PySem.W.fnOf "_law_entry" "_law_entry" (defArgs s_L_entry) (defBody s_L_entry) (defScope s_L_entry) .none kV_L_entry dc_L_entry pm_L_entry an_L_entry cd_L_entry ct_L_entry), sl_L_entry⟩)
    (c_L_entry : PySem.W.codeIn K cd_L_entry "_law_entry" = true)
    (k_L_entry : PySem.W.keepIn K (.ref a_L_entry) = true)
    (n_L_machine : PySem.W.nsIn K mainGlobals "_law_machine" = some (some (.ref a_L_machine)))
    (l_L_machine : K.lookup a_L_machine = some ⟨oc_L_machine, od_L_machine, .func (PySem.W.fnOf "_law_machine" "_law_machine" (defArgs s_L_machine) (defBody s_L_machine) (defScope s_L_machine) .none kV_L_machine dc_L_machine pm_L_machine an_L_machine cd_L_machine ct_L_machine), sl_L_machine⟩)
    (c_L_machine : PySem.W.codeIn K cd_L_machine "_law_machine" = true)
    (k_L_machine : PySem.W.keepIn K (.ref a_L_machine) = true)
    (n_L_kept : PySem.W.nsIn K mainGlobals "_law_kept" = some (some (.ref a_L_kept)))
    (l_L_kept : K.lookup a_L_kept = some ⟨oc_L_kept, od_L_kept, .func (PySem.W.fnOf "_law_kept" "_law_kept" (defArgs s_L_kept) (defBody s_L_kept) (defScope s_L_kept) .none kV_L_kept dc_L_kept pm_L_kept an_L_kept cd_L_kept ct_L_kept), sl_L_kept⟩)
    (c_L_kept : PySem.W.codeIn K cd_L_kept "_law_kept" = true)
    (k_L_kept : PySem.W.keepIn K (.ref a_L_kept) = true)
    (n_L_around : PySem.W.nsIn K mainGlobals "_law_around" = some (some (.ref a_L_around)))
    (l_L_around : K.lookup a_L_around = some ⟨oc_L_around, od_L_around, .func (PySem.W.fnOf "_law_around" "_law_around" (defArgs s_L_around) (defBody s_L_around) (defScope s_L_around) .none kV_L_around dc_L_around pm_L_around an_L_around cd_L_around ct_L_around), sl_L_around⟩)
    (c_L_around : PySem.W.codeIn K cd_L_around "_law_around" = true)
    (k_L_around : PySem.W.keepIn K (.ref a_L_around) = true)
    (n_L_strip : PySem.W.nsIn K mainGlobals "_law_strip" = some (some (.ref a_L_strip)))
    (l_L_strip : K.lookup a_L_strip = some ⟨oc_L_strip, od_L_strip, .func (PySem.W.fnOf "_law_strip" "_law_strip" (defArgs s_L_strip) (defBody s_L_strip) (defScope s_L_strip) .none kV_L_strip dc_L_strip pm_L_strip an_L_strip cd_L_strip ct_L_strip), sl_L_strip⟩)
    (c_L_strip : PySem.W.codeIn K cd_L_strip "_law_strip" = true)
    (k_L_strip : PySem.W.keepIn K (.ref a_L_strip) = true)
    (n_L_walked : PySem.W.nsIn K mainGlobals "_law_walked" = some (some (.ref a_L_walked)))
    (l_L_walked : K.lookup a_L_walked = some ⟨oc_L_walked, od_L_walked, .func (PySem.W.fnOf "_law_walked" "_law_walked" (defArgs s_L_walked) (defBody s_L_walked) (defScope s_L_walked) .none kV_L_walked dc_L_walked pm_L_walked an_L_walked cd_L_walked ct_L_walked), sl_L_walked⟩)
    (c_L_walked : PySem.W.codeIn K cd_L_walked "_law_walked" = true)
    (k_L_walked : PySem.W.keepIn K (.ref a_L_walked) = true)
    (n_is_entry : PySem.W.nsIn K mainGlobals "is_entry" = some (some (.ref a_is_entry)))
    (l_is_entry : K.lookup a_is_entry = some ⟨oc_is_entry, od_is_entry, .func (PySem.W.fnOf "is_entry" "is_entry" (defArgs s_is_entry) (defBody s_is_entry) (defScope s_is_entry) .none kV_is_entry dc_is_entry pm_is_entry an_is_entry cd_is_entry ct_is_entry), sl_is_entry⟩)
    (c_is_entry : PySem.W.codeIn K cd_is_entry "is_entry" = true)
    (k_is_entry : PySem.W.keepIn K (.ref a_is_entry) = true)
    (n_is_machine : PySem.W.nsIn K mainGlobals "is_machine" = some (some (.ref a_is_machine)))
    (l_is_machine : K.lookup a_is_machine = some ⟨oc_is_machine, od_is_machine, .func (PySem.W.fnOf "is_machine" "is_machine" (defArgs s_is_machine) (defBody s_is_machine) (defScope s_is_machine) .none kV_is_machine dc_is_machine pm_is_machine an_is_machine cd_is_machine ct_is_machine), sl_is_machine⟩)
    (c_is_machine : PySem.W.codeIn K cd_is_machine "is_machine" = true)
    (k_is_machine : PySem.W.keepIn K (.ref a_is_machine) = true)
    (n_must_machine : PySem.W.nsIn K mainGlobals "must_machine" = some (some (.ref a_must_machine)))
    (l_must_machine : K.lookup a_must_machine = some ⟨oc_must_machine, od_must_machine, .func (PySem.W.fnOf "must_machine" "must_machine" (defArgs s_must_machine) (defBody s_must_machine) (defScope s_must_machine) .none kV_must_machine dc_must_machine pm_must_machine an_must_machine cd_must_machine ct_must_machine), sl_must_machine⟩)
    (c_must_machine : PySem.W.codeIn K cd_must_machine "must_machine" = true)
    (k_must_machine : PySem.W.keepIn K (.ref a_must_machine) = true)
    (n_Walk_init : PySem.W.findIn K (.ref C_Walk) "__init__" = some (some (.ref a_Walk_init)))
    (i_Walk_init : PySem.W.isFn K (.ref a_Walk_init) = true)
    (l_Walk_init : K.lookup a_Walk_init = some ⟨oc_Walk_init, od_Walk_init, .func (PySem.W.fnOf "__init__" "Walk.__init__" (defArgs s_Walk_init) (defBody s_Walk_init) (defScope s_Walk_init) .none kV_Walk_init dc_Walk_init pm_Walk_init an_Walk_init cd_Walk_init ct_Walk_init), sl_Walk_init⟩)
    (c_Walk_init : PySem.W.codeIn K cd_Walk_init "Walk.__init__" = true)
    (k_Walk_init : PySem.W.keepIn K (.ref a_Walk_init) = true)
    (n_most_setups : PySem.W.nsIn K mainGlobals "most_setups" = some (some (.ref a_most_setups)))
    (l_most_setups : K.lookup a_most_setups = some ⟨oc_most_setups, od_most_setups, .func (PySem.W.fnOf "most_setups" "most_setups" (defArgs s_most_setups) (defBody s_most_setups) (defScope s_most_setups) .none kV_most_setups dc_most_setups pm_most_setups an_most_setups cd_most_setups ct_most_setups), sl_most_setups⟩)
    (c_most_setups : PySem.W.codeIn K cd_most_setups "most_setups" = true)
    (k_most_setups : PySem.W.keepIn K (.ref a_most_setups) = true)
    (n_through : PySem.W.nsIn K mainGlobals "through" = some (some (.ref a_through)))
    (l_through : K.lookup a_through = some ⟨oc_through, od_through, .func (PySem.W.fnOf "through" "through" (defArgs s_through) (defBody s_through) (defScope s_through) .none kV_through dc_through pm_through an_through cd_through ct_through), sl_through⟩)
    (c_through : PySem.W.codeIn K cd_through "through" = true)
    (k_through : PySem.W.keepIn K (.ref a_through) = true)
    (n_Walk_out : PySem.W.findIn K (.ref C_Walk) "out" = some (some (.ref a_Walk_out)))
    (i_Walk_out : PySem.W.isFn K (.ref a_Walk_out) = true)
    (l_Walk_out : K.lookup a_Walk_out = some ⟨oc_Walk_out, od_Walk_out, .func (PySem.W.fnOf "out" "Walk.out" (defArgs s_Walk_out) (defBody s_Walk_out) (defScope s_Walk_out) .none kV_Walk_out dc_Walk_out pm_Walk_out an_Walk_out cd_Walk_out ct_Walk_out), sl_Walk_out⟩)
    (c_Walk_out : PySem.W.codeIn K cd_Walk_out "Walk.out" = true)
    (k_Walk_out : PySem.W.keepIn K (.ref a_Walk_out) = true)
    (n_Walk_place : PySem.W.findIn K (.ref C_Walk) "place" = some (some (.ref a_Walk_place)))
    (i_Walk_place : PySem.W.isFn K (.ref a_Walk_place) = true)
    (l_Walk_place : K.lookup a_Walk_place = some ⟨oc_Walk_place, od_Walk_place, .func (PySem.W.fnOf "place" "Walk.place" (defArgs s_Walk_place) (defBody s_Walk_place) (defScope s_Walk_place) .none kV_Walk_place dc_Walk_place pm_Walk_place an_Walk_place cd_Walk_place ct_Walk_place), sl_Walk_place⟩)
    (c_Walk_place : PySem.W.codeIn K cd_Walk_place "Walk.place" = true)
    (k_Walk_place : PySem.W.keepIn K (.ref a_Walk_place) = true)
    (n_Walk_strip : PySem.W.findIn K (.ref C_Walk) "strip" = some (some (.ref a_Walk_strip)))
    (i_Walk_strip : PySem.W.isFn K (.ref a_Walk_strip) = true)
    (l_Walk_strip : K.lookup a_Walk_strip = some ⟨oc_Walk_strip, od_Walk_strip, .func (PySem.W.fnOf "strip" "Walk.strip" (defArgs s_Walk_strip) (defBody s_Walk_strip) (defScope s_Walk_strip) .none kV_Walk_strip dc_Walk_strip pm_Walk_strip an_Walk_strip cd_Walk_strip ct_Walk_strip), sl_Walk_strip⟩)
    (c_Walk_strip : PySem.W.codeIn K cd_Walk_strip "Walk.strip" = true)
    (k_Walk_strip : PySem.W.keepIn K (.ref a_Walk_strip) = true)
    (n_Walk_block : PySem.W.findIn K (.ref C_Walk) "block" = some (some (.ref a_Walk_block)))
    (i_Walk_block : PySem.W.isFn K (.ref a_Walk_block) = true)
    (l_Walk_block : K.lookup a_Walk_block = some ⟨oc_Walk_block, od_Walk_block, .func (PySem.W.fnOf "block" "Walk.block" (defArgs s_Walk_block) (defBody s_Walk_block) (defScope s_Walk_block) .none kV_Walk_block dc_Walk_block pm_Walk_block an_Walk_block cd_Walk_block ct_Walk_block), sl_Walk_block⟩)
    (c_Walk_block : PySem.W.codeIn K cd_Walk_block "Walk.block" = true)
    (k_Walk_block : PySem.W.keepIn K (.ref a_Walk_block) = true)
    (n_by_blocks : PySem.W.nsIn K mainGlobals "by_blocks" = some (some (.ref a_by_blocks)))
    (l_by_blocks : K.lookup a_by_blocks = some ⟨oc_by_blocks, od_by_blocks, .func (PySem.W.fnOf "by_blocks" "by_blocks" (defArgs s_by_blocks) (defBody s_by_blocks) (defScope s_by_blocks) .none kV_by_blocks dc_by_blocks pm_by_blocks an_by_blocks cd_by_blocks ct_by_blocks), sl_by_blocks⟩)
    (c_by_blocks : PySem.W.codeIn K cd_by_blocks "by_blocks" = true)
    (k_by_blocks : PySem.W.keepIn K (.ref a_by_blocks) = true)
    (n_L_whole : PySem.W.nsIn K mainGlobals "_law_whole" = some (some (.ref a_L_whole)))
    (l_L_whole : K.lookup a_L_whole = some ⟨oc_L_whole, od_L_whole, .func (PySem.W.fnOf "_law_whole" "_law_whole" (defArgs s_L_whole) (defBody s_L_whole) (defScope s_L_whole) .none kV_L_whole dc_L_whole pm_L_whole an_L_whole cd_L_whole ct_L_whole), sl_L_whole⟩)
    (c_L_whole : PySem.W.codeIn K cd_L_whole "_law_whole" = true)
    (k_L_whole : PySem.W.keepIn K (.ref a_L_whole) = true)
    (n_L_is_strip : PySem.W.nsIn K mainGlobals "_law_is_strip" = some (some (.ref a_L_is_strip)))
    (l_L_is_strip : K.lookup a_L_is_strip = some ⟨oc_L_is_strip, od_L_is_strip, .func (PySem.W.fnOf "_law_is_strip" "_law_is_strip" (defArgs s_L_is_strip) (defBody s_L_is_strip) (defScope s_L_is_strip) .none kV_L_is_strip dc_L_is_strip pm_L_is_strip an_L_is_strip cd_L_is_strip ct_L_is_strip), sl_L_is_strip⟩)
    (c_L_is_strip : PySem.W.codeIn K cd_L_is_strip "_law_is_strip" = true)
    (k_L_is_strip : PySem.W.keepIn K (.ref a_L_is_strip) = true)
    (n_L_good : PySem.W.nsIn K mainGlobals "_law_good" = some (some (.ref a_L_good)))
    (l_L_good : K.lookup a_L_good = some ⟨oc_L_good, od_L_good, .func (PySem.W.fnOf "_law_good" "_law_good" (defArgs s_L_good) (defBody s_L_good) (defScope s_L_good) .none kV_L_good dc_L_good pm_L_good an_L_good cd_L_good ct_L_good), sl_L_good⟩)
    (c_L_good : PySem.W.codeIn K cd_L_good "_law_good" = true)
    (k_L_good : PySem.W.keepIn K (.ref a_L_good) = true)
    (n_law : PySem.W.nsIn K mainGlobals "law" = some (some (.ref a_law)))
    (l_law : K.lookup a_law = some ⟨oc_law, od_law, .func (PySem.W.fnOf "law" "law" (defArgs s_law) (defBody s_law) (defScope s_law) .none kV_law dc_law pm_law an_law cd_law ct_law), sl_law⟩)
    (c_law : PySem.W.codeIn K cd_law "law" = true)
    (k_law : PySem.W.keepIn K (.ref a_law) = true)
    (pg_Walk : PySem.W.plainGet K C_Walk Str.empty = true)
    (hd_Walk : PySem.W.hasDictIn K C_Walk = true)
    (po_Walk : PySem.W.plainOver K C_Walk = true)
    (sa_Walk : PySem.W.findIn K (.ref C_Walk) "__setattr__" = some (some (.builtin "object.__setattr__")))
    (mk_Walk : PySem.W.makesIn K C_Walk = true)
    (kc_Walk : PySem.W.keepIn K (.ref C_Walk) = true)
    (f_Walk_long : PySem.W.findIn K (.ref C_Walk) "long" = some none)
    (f_Walk_blocks : PySem.W.findIn K (.ref C_Walk) "blocks" = some none)
    (f_Walk_at : PySem.W.findIn K (.ref C_Walk) "at" = some none)
    (f_Walk_row : PySem.W.findIn K (.ref C_Walk) "row" = some none)
    (f_Walk_side : PySem.W.findIn K (.ref C_Walk) "side" = some none)
    (f_Walk_steps : PySem.W.findIn K (.ref C_Walk) "steps" = some none)
    (n_MOST_ROWS : PySem.W.nsIn K mainGlobals "MOST_ROWS" = some (some (.int 4 tk_MOST_ROWS)))
    (n_MOST_SIGNS : PySem.W.nsIn K mainGlobals "MOST_SIGNS" = some (some (.int 4 tk_MOST_SIGNS)))
    (z_len : PySem.W.nsIn K mainGlobals "len" = some none)
    (z_max : PySem.W.nsIn K mainGlobals "max" = some none)
    (z_int : PySem.W.nsIn K mainGlobals "int" = some none)
    (z_range : PySem.W.nsIn K mainGlobals "range" = some none)
    (z_list : PySem.W.nsIn K mainGlobals "list" = some none)
    (z_tuple : PySem.W.nsIn K mainGlobals "tuple" = some none)
    (z_sorted : PySem.W.nsIn K mainGlobals "sorted" = some none)
    (z_all : PySem.W.nsIn K mainGlobals "all" = some none)
    (z_enumerate : PySem.W.nsIn K mainGlobals "enumerate" = some none)
    (z_isinstance : PySem.W.nsIn K mainGlobals "isinstance" = some none)
    (z_bool : PySem.W.nsIn K mainGlobals "bool" = some none) :
    ∃ fd : FuncData, (∀ (s : Shared) (v : Value), BindsTo s fd ⟨[v], []⟩ [("_law_script", v)]) ∧ ∀ base : Heap, K.In base → base.Ns mainGlobals mg → FnOk l.prog w K mg base CX0 6 fa fd ["_law_script"] (sp_law K) :=
  all_mk X G hfa (all_tx X G n_NoMachine n_Walk n_L_at l_L_at c_L_at k_L_at n_L_purse l_L_purse c_L_purse k_L_purse n_L_mixed l_L_mixed c_L_mixed k_L_mixed n_L_draw l_L_draw c_L_draw k_L_draw n_L_entry l_L_entry c_L_entry k_L_entry n_L_machine l_L_machine c_L_machine k_L_machine n_L_kept l_L_kept c_L_kept k_L_kept n_L_around l_L_around c_L_around k_L_around n_L_strip l_L_strip c_L_strip k_L_strip n_L_walked l_L_walked c_L_walked k_L_walked n_is_entry l_is_entry c_is_entry k_is_entry n_is_machine l_is_machine c_is_machine k_is_machine n_must_machine l_must_machine c_must_machine k_must_machine n_Walk_init i_Walk_init l_Walk_init c_Walk_init k_Walk_init n_most_setups l_most_setups c_most_setups k_most_setups n_through l_through c_through k_through n_Walk_out i_Walk_out l_Walk_out c_Walk_out k_Walk_out n_Walk_place i_Walk_place l_Walk_place c_Walk_place k_Walk_place n_Walk_strip i_Walk_strip l_Walk_strip c_Walk_strip k_Walk_strip n_Walk_block i_Walk_block l_Walk_block c_Walk_block k_Walk_block n_by_blocks l_by_blocks c_by_blocks k_by_blocks n_L_whole l_L_whole c_L_whole k_L_whole n_L_is_strip l_L_is_strip c_L_is_strip k_L_is_strip n_L_good l_L_good c_L_good k_L_good n_law l_law c_law k_law pg_Walk hd_Walk po_Walk sa_Walk mk_Walk kc_Walk f_Walk_long f_Walk_blocks f_Walk_at f_Walk_row f_Walk_side f_Walk_steps n_MOST_ROWS n_MOST_SIGNS z_len z_max z_int z_range z_list z_tuple z_sorted z_all z_enumerate z_isinstance z_bool) ⟨_, _, _, _, _, _, rfl⟩
end E
open PySem PySem.W PyProof.Rows
set_option maxRecDepth 100000 in
set_option maxHeartbeats 0 in
theorem PySem.Challenge.cw_endnever_k71_walks_by_blocks_holds : PySem.Challenge.rw_endnever_k71_walks_by_blocks.Holds := by
  w_on; o_law; k_head; (case hw => w_witness2)
  k_fill
  refine E.walk (l := PySem.Challenge.rw_endnever_k71_walks_by_blocks) rfl rfl (fun w h Y => PySem.W.kIn_of Y) ?F
  case F =>
    intro w mg fa h KX G hmg
    refine' E.all_go KX G hmg ?n_NoMachine ?n_Walk ?n_L_at ?l_L_at ?c_L_at ?k_L_at ?n_L_purse ?l_L_purse ?c_L_purse ?k_L_purse ?n_L_mixed ?l_L_mixed ?c_L_mixed ?k_L_mixed ?n_L_draw ?l_L_draw ?c_L_draw ?k_L_draw ?n_L_entry ?l_L_entry ?c_L_entry ?k_L_entry ?n_L_machine ?l_L_machine ?c_L_machine ?k_L_machine ?n_L_kept ?l_L_kept ?c_L_kept ?k_L_kept ?n_L_around ?l_L_around ?c_L_around ?k_L_around ?n_L_strip ?l_L_strip ?c_L_strip ?k_L_strip ?n_L_walked ?l_L_walked ?c_L_walked ?k_L_walked ?n_is_entry ?l_is_entry ?c_is_entry ?k_is_entry ?n_is_machine ?l_is_machine ?c_is_machine ?k_is_machine ?n_must_machine ?l_must_machine ?c_must_machine ?k_must_machine ?n_Walk_init ?i_Walk_init ?l_Walk_init ?c_Walk_init ?k_Walk_init ?n_most_setups ?l_most_setups ?c_most_setups ?k_most_setups ?n_through ?l_through ?c_through ?k_through ?n_Walk_out ?i_Walk_out ?l_Walk_out ?c_Walk_out ?k_Walk_out ?n_Walk_place ?i_Walk_place ?l_Walk_place ?c_Walk_place ?k_Walk_place ?n_Walk_strip ?i_Walk_strip ?l_Walk_strip ?c_Walk_strip ?k_Walk_strip ?n_Walk_block ?i_Walk_block ?l_Walk_block ?c_Walk_block ?k_Walk_block ?n_by_blocks ?l_by_blocks ?c_by_blocks ?k_by_blocks ?n_L_whole ?l_L_whole ?c_L_whole ?k_L_whole ?n_L_is_strip ?l_L_is_strip ?c_L_is_strip ?k_L_is_strip ?n_L_good ?l_L_good ?c_L_good ?k_L_good ?n_law ?l_law ?c_law ?k_law ?pg_Walk ?hd_Walk ?po_Walk ?sa_Walk ?mk_Walk ?kc_Walk ?f_Walk_long ?f_Walk_blocks ?f_Walk_at ?f_Walk_row ?f_Walk_side ?f_Walk_steps ?n_MOST_ROWS ?n_MOST_SIGNS ?z_len ?z_max ?z_int ?z_range ?z_list ?z_tuple ?z_sorted ?z_all ?z_enumerate ?z_isinstance ?z_bool
    (case n_NoMachine => k_is); (case n_Walk => k_is); (case n_L_at => k_is); (case l_L_at => k_is); (case c_L_at => k_is); (case k_L_at => k_is); (case n_L_purse => k_is); (case l_L_purse => k_is)
    (case c_L_purse => k_is); (case k_L_purse => k_is); (case n_L_mixed => k_is); (case l_L_mixed => k_is); (case c_L_mixed => k_is); (case k_L_mixed => k_is); (case n_L_draw => k_is); (case l_L_draw => k_is)
    (case c_L_draw => k_is); (case k_L_draw => k_is); (case n_L_entry => k_is); (case l_L_entry => k_is); (case c_L_entry => k_is); (case k_L_entry => k_is); (case n_L_machine => k_is); (case l_L_machine => k_is)
    (case c_L_machine => k_is); (case k_L_machine => k_is); (case n_L_kept => k_is); (case l_L_kept => k_is); (case c_L_kept => k_is); (case k_L_kept => k_is); (case n_L_around => k_is); (case l_L_around => k_is)
    (case c_L_around => k_is); (case k_L_around => k_is); (case n_L_strip => k_is); (case l_L_strip => k_is); (case c_L_strip => k_is); (case k_L_strip => k_is); (case n_L_walked => k_is); (case l_L_walked => k_is)
    (case c_L_walked => k_is); (case k_L_walked => k_is); (case n_is_entry => k_is); (case l_is_entry => k_is); (case c_is_entry => k_is); (case k_is_entry => k_is); (case n_is_machine => k_is); (case l_is_machine => k_is)
    (case c_is_machine => k_is); (case k_is_machine => k_is); (case n_must_machine => k_is); (case l_must_machine => k_is); (case c_must_machine => k_is); (case k_must_machine => k_is); (case n_Walk_init => k_is); (case i_Walk_init => k_is)
    (case l_Walk_init => k_is); (case c_Walk_init => k_is); (case k_Walk_init => k_is); (case n_most_setups => k_is); (case l_most_setups => k_is); (case c_most_setups => k_is); (case k_most_setups => k_is); (case n_through => k_is)
    (case l_through => k_is); (case c_through => k_is); (case k_through => k_is); (case n_Walk_out => k_is); (case i_Walk_out => k_is); (case l_Walk_out => k_is); (case c_Walk_out => k_is); (case k_Walk_out => k_is)
    (case n_Walk_place => k_is); (case i_Walk_place => k_is); (case l_Walk_place => k_is); (case c_Walk_place => k_is); (case k_Walk_place => k_is); (case n_Walk_strip => k_is); (case i_Walk_strip => k_is); (case l_Walk_strip => k_is)
    (case c_Walk_strip => k_is); (case k_Walk_strip => k_is); (case n_Walk_block => k_is); (case i_Walk_block => k_is); (case l_Walk_block => k_is); (case c_Walk_block => k_is); (case k_Walk_block => k_is); (case n_by_blocks => k_is)
    (case l_by_blocks => k_is); (case c_by_blocks => k_is); (case k_by_blocks => k_is); (case n_L_whole => k_is); (case l_L_whole => k_is); (case c_L_whole => k_is); (case k_L_whole => k_is); (case n_L_is_strip => k_is)
    (case l_L_is_strip => k_is); (case c_L_is_strip => k_is); (case k_L_is_strip => k_is); (case n_L_good => k_is); (case l_L_good => k_is); (case c_L_good => k_is); (case k_L_good => k_is); (case n_law => k_is)
    (case l_law => k_is); (case c_law => k_is); (case k_law => k_is); (case pg_Walk => k_is); (case hd_Walk => k_is); (case po_Walk => k_is); (case sa_Walk => k_is); (case mk_Walk => k_is)
    (case kc_Walk => k_is); (case f_Walk_long => k_is); (case f_Walk_blocks => k_is); (case f_Walk_at => k_is); (case f_Walk_row => k_is); (case f_Walk_side => k_is); (case f_Walk_steps => k_is); (case n_MOST_ROWS => k_is)
    (case n_MOST_SIGNS => k_is); (case z_len => k_is); (case z_max => k_is); (case z_int => k_is); (case z_range => k_is); (case z_list => k_is); (case z_tuple => k_is); (case z_sorted => k_is)
    (case z_all => k_is); (case z_enumerate => k_is); (case z_isinstance => k_is); (case z_bool => k_is)
#print axioms PySem.Challenge.cw_endnever_k71_walks_by_blocks_holds
