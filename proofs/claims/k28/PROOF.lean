import PyProof.Rows.All
import Wide.All
import OpenK.AllK
import Wide.FinOn
import HandS.ForMost
import HandS.SortRule
import HandS.IsInst
import HandS.TupAny
import HandS.TupMul
import HandS.Walk
import HandS.More
import HandS.ListItems
import HandS.Wide
import KE.KTupSum
import KE.KEqNest
import PyProof.NeKinds
import PySem.Challenge.RW_endnever_k28_where_two_part
set_option Elab.async false
set_option maxRecDepth 100000
set_option maxHeartbeats 4000000
namespace E
open PySem L2
/-! ### small words of our own -/
theorem inr_int {x : V} {ns : List Int} {i : Nat} (h : (ns.map V.int)[i]? = some x) : ∃ z, x = V.int z ∧ ns[i]? = some z := by
  rw [List.getElem?_map] at h
  cases e : ns[i]? with
  | none => rw [e] at h; cases h
  | some z => rw [e] at h; exact ⟨z, (Option.some.inj h).symm, rfl⟩
/-- F stands in H, whatever comes to it -/
theorem sm_new {F H : Hp} {p : Addr} {o : HO} (s : Same F H) (n : H p = Option.none) : Same F (upd H p o) := fun b u e => by
  rw [upd_ne (ne_of_none (s b u e) n)]
  exact s b u e
theorem sm_set {F H : Hp} {p : Addr} {o : HO} (s : Same F H) (n : F p = Option.none) : Same F (upd H p o) := fun b u e => by
  rw [upd_ne (ne_of_none e n)]
  exact s b u e
theorem sm_up {H : Hp} {p : Addr} {o : HO} (n : H p = none) : Same H (upd H p o) := sm_new (Same.refl H) n
theorem cut_63 {ns : List Int} (h : ns.length ≤ 63) : cutV (ns.map V.int) none (some 63) = ns.map V.int := by
  unfold cutV
  have e1 : HT.sIx (ns.map V.int).length 0 none = 0 := rfl
  have e2 : HT.sIx (ns.map V.int).length (ns.map V.int).length (some 63) = (ns.map V.int).length := by
    simp only [HT.sIx, List.length_map]
    rw [if_neg (by decide), show (63 : Int).toNat = 63 from rfl]
    omega
  rw [e1, e2, List.drop_zero, Nat.sub_zero, List.take_length]
theorem ifT {c : Bool} {A B : Prop} (h : c = true) (a : A) : if c = true then A else B := by
  rw [if_pos h]; exact a
theorem ifF {c : Bool} {A B : Prop} (h : c = false) (b : B) : if c = true then A else B := by
  rw [h, if_neg Bool.false_ne_true]; exact b
theorem one_le : 1 ≤ sizeLine := by decide
theorem two_le : 2 ≤ sizeLine := by decide
theorem three_le : 3 ≤ sizeLine := by decide
theorem five_le : 5 ≤ sizeLine := by decide
theorem nil_le : 0 ≤ sizeLine := by decide
theorem lt_size {n : Nat} (h : n ≤ 1000000) : n < sizeLine := Nat.lt_of_le_of_lt h (by decide)
theorem le_size {n : Nat} (h : n ≤ 1000000) : n ≤ sizeLine := Nat.le_of_lt (lt_size h)
theorem pi_listK {X : Cx} {K : PySem.W.Frag} {tg l : Expr} {tl : TE} (e : X.K = K) (h : PE X l tl) : PI X tg l (iList K tl) := by
  subst e; exact pi_list h
theorem pi_tupK {X : Cx} {K : PySem.W.Frag} {tg l : Expr} {tl : TE} (e : X.K = K) (h : PE X l tl) : PI X tg l (iTup K tl) := by
  subst e; exact pi_tup h
theorem crK {X : Cx} {K : PySem.W.Frag} {f : Value} {r : PySem.W.Frag → List V → Hp → VK → Prop} (e : X.K = K) (h : CallR X f (r X.K)) : CallR X f (r K) := by
  subst e; exact h
theorem orK {X : Cx} {K : PySem.W.Frag} {f : Value → Value → Sem Value} {r : PySem.W.Frag → R2} (e : X.K = K) (h : OpR X f (r X.K)) : OpR X f (r K) := by
  subst e; exact h
theorem ixK {X : Cx} {K : PySem.W.Frag} {r : PySem.W.Frag → R2} (e : X.K = K) (h : IxR X (r X.K)) : IxR X (r K) := by
  subst e; exact h
theorem slK {X : Cx} {K : PySem.W.Frag} {r : PySem.W.Frag → V → Option Int → Option Int → Hp → VK → Prop} (e : X.K = K) (h : SlR X (r X.K)) : SlR X (r K) := by
  subst e; exact h
def rLenQ (K : PySem.W.Frag) : List V → Hp → VK → Prop := fun xs H Q => ∃ p ys, xs = [.ref p] ∧ (SqL K H p ys ∨ SqT K H p ys) ∧ Q (.int ys.length) H
def rListQ (K : PySem.W.Frag) : List V → Hp → VK → Prop := fun xs H Q => ∃ p ys, xs = [.ref p] ∧ (SqL K H p ys ∨ SqT K H p ys) ∧ ∀ l, H l = none → Q (.ref l) (upd H l (.lst ys))
def rTupQ (K : PySem.W.Frag) : List V → Hp → VK → Prop := fun xs H Q => ∃ p ys, xs = [.ref p] ∧ ((SqL K H p ys ∧ ∀ l, H l = none → Q (.ref l) (upd H l (.tup ys))) ∨ (SqT K H p ys ∧ Q (.ref p) H))
theorem ne_of_none' {F H : Hp} {q : Addr} (s : Same F H) (n : H q = none) : F q = none := s.free n
/-- a comprehension without a test: its item comes in -/
theorem yes {σ : St} {H : Hp} {A : Hp → Prop} {B : Hp → Prop} (a : A H) : tYes σ H (fun b H3 => if b = true then A H3 else B H3) := by
  show if true = true then A H else B H
  rw [if_pos rfl]; exact a
theorem call_lenQ {X : Cx} : CallR X (.builtin "len") (rLenQ X.K) := call_len_seq
theorem call_listQ {X : Cx} : CallR X (.type "list") (rListQ X.K) := call_list_of
theorem call_tupQ {X : Cx} : CallR X (.type "tuple") (rTupQ X.K) := call_tuple_of
@[irreducible] def rDictP (K : PySem.W.Frag) : List V → Hp → VK → Prop := fun xs H Q => ∃ (a : Addr) (ps : List Addr) (kvs : List (Key × V)), xs = [.ref a] ∧ SqL K H a (ps.map V.ref) ∧ Paired (fun p kv => SqT K H p [kV kv.1, kv.2]) ps kvs ∧ ∀ p, H p = none → Q (.ref p) (upd H p (.dK (mergeK [] kvs)))
theorem call_dictQ {X : Cx} (hc : X.calm = true) : CallR X (.type "dict") (rDictP X.K) := by
  unfold rDictP
  exact call_dictP hc
@[irreducible] def rSortQ (K : PySem.W.Frag) : List V → Hp → VK → Prop := rSortedPO K
theorem call_sortQ {X : Cx} : CallR X (.builtin "sorted") (rSortQ X.K) := by
  unfold rSortQ
  exact cr_sortedPO
theorem pg_tupK {X : Cx} {K : PySem.W.Frag} {es : List Expr} {k n : Nat} {t : TGs} {pos : Pos} (e : X.K = K) (hc : X.calm = true) (h : PGs X es t) (hn : (assignEach es X.env).length = n := by rfl) (hst : (assignEach es X.env).findIdx? (·.1) = none := by rfl) : PG X (.Tuple es k pos) (gTup K n t) := by
  subst e; exact pg_tup hc h hn hst
theorem pe_fldK {X : Cx} {K : PySem.W.Frag} {e : Expr} {f : Str} {pos : Pos} {ta : TE} (ek : X.K = K) (he : PE X e ta) (hb : attributeBase e f X.env (eval e X.env) = eval e X.env) : PE X (.Attribute e f pos) (tFld K ta f) := by
  subst ek; exact pe_fld he hb
/-! ### what stands, what is new: F the frozen part (nobody changes it), H the heap; from F, H to F', H' with changes at mu alone -/
structure Gr (mu : Addr → Prop) (F H F' H' : Hp) : Prop where
  ff : Same F F'
  fh : Same F' H'
  nw : ∀ c o, F' c = some o → F c = some o ∨ H c = none
  fr : ∀ c o, H c = some o → ¬ mu c → H' c = some o
  th : ∀ c, H' c = none → H c = none
/-- nothing but new things -/
abbrev mu0 : Addr → Prop := fun _ => False
/-- the purse alone -/
abbrev muP (p : Addr) : Addr → Prop := fun c => c = p
section
variable {mu : Addr → Prop} {F H F1 H1 F2 H2 : Hp} {q : Addr} {o u : HO}
theorem Gr.refl (s : Same F H) : Gr mu F H F H := ⟨fun _ _ h => h, s, fun _ _ h => .inl h, fun _ _ h _ => h, fun _ h => h⟩
theorem Gr.trans (a : Gr mu F H F1 H1) (b : Gr mu F1 H1 F2 H2) : Gr mu F H F2 H2 where
  ff := fun c o h => b.ff c o (a.ff c o h)
  fh := b.fh
  nw := fun c o h => by
    rcases b.nw c o h with h | h
    · exact a.nw c o h
    · exact .inr (a.th c h)
  fr := fun c o h m => b.fr c o (a.fr c o h m) m
  th := fun c h => a.th c (b.th c h)
/-- a part that changes what is ours, or what mu has -/
theorem Gr.thn {mu' : Addr → Prop} (a : Gr mu F H F1 H1) (b : Gr mu' F1 H1 F2 H2) (k : ∀ c, mu' c → mu c ∨ H c = none) : Gr mu F H F2 H2 where
  ff := fun c o h => b.ff c o (a.ff c o h)
  fh := b.fh
  nw := fun c o h => by
    rcases b.nw c o h with h | h
    · exact a.nw c o h
    · exact .inr (a.th c h)
  fr := fun c o h m => b.fr c o (a.fr c o h m) fun z => (k c z).elim m fun n => by rw [n] at h; cases h
  th := fun c h => a.th c (b.th c h)
theorem Gr.weak {mu' : Addr → Prop} (a : Gr mu F H F1 H1) (m : ∀ c, mu c → mu' c) : Gr mu' F H F1 H1 :=
  ⟨a.ff, a.fh, a.nw, fun c o h n => a.fr c o h fun z => n (m c z), a.th⟩
theorem Gr.of0 (a : Gr mu0 F H F1 H1) : Gr mu F H F1 H1 := a.weak fun _ z => z.elim
/-- a new thing that nobody will change -/
theorem Gr.new (a : Gr mu F H F1 H1) (n : H1 q = none) : Gr mu F H (upd F1 q o) (upd H1 q o) where
  ff := fun c o h => by
    rw [upd_ne (ne_of_none (a.fh c o (a.ff c o h)) n)]
    exact a.ff c o h
  fh := fun c u h => by
    by_cases e : c = q
    · subst e; rw [upd_same] at h ⊢; exact h
    · rw [upd_ne e] at h ⊢; exact a.fh c u h
  nw := fun c u h => by
    by_cases e : c = q
    · subst e; exact .inr (a.th _ n)
    · rw [upd_ne e] at h; exact a.nw c u h
  fr := fun c u h m => by
    rw [upd_ne (ne_of_none (a.fr c u h m) n)]
    exact a.fr c u h m
  th := fun c h => by
    by_cases e : c = q
    · subst e; rw [upd_same] at h; cases h
    · rw [upd_ne e] at h; exact a.th c h
/-- a new thing that may be changed yet -/
theorem Gr.own (a : Gr mu F H F1 H1) (n : H1 q = none) : Gr mu F H F1 (upd H1 q o) where
  ff := a.ff
  fh := fun c u h => by
    rw [upd_ne (ne_of_none (a.fh c u h) n)]
    exact a.fh c u h
  nw := a.nw
  fr := fun c u h m => by
    rw [upd_ne (ne_of_none (a.fr c u h m) n)]
    exact a.fr c u h m
  th := fun c h => by
    by_cases e : c = q
    · subst e; rw [upd_same] at h; cases h
    · rw [upd_ne e] at h; exact a.th c h
/-- a change of what is ours, and not frozen -/
theorem Gr.set (a : Gr mu F H F1 H1) (f : F1 q = none) (m : H q = none ∨ mu q) : Gr mu F H F1 (upd H1 q o) where
  ff := a.ff
  fh := fun c u h => by
    rw [upd_ne (ne_of_none h f)]
    exact a.fh c u h
  nw := a.nw
  fr := fun c u h k => by
    have e : c ≠ q := by
      rintro rfl
      rcases m with m | m
      · rw [m] at h; cases h
      · exact k m
    rw [upd_ne e]
    exact a.fr c u h k
  th := fun c h => by
    by_cases e : c = q
    · subst e; rw [upd_same] at h; cases h
    · rw [upd_ne e] at h; exact a.th c h
/-- what was ours is changed no more -/
theorem Gr.frz (a : Gr mu F H F1 H1) (h : H1 q = some o) (n : H q = none) (f : F1 q = none) : Gr mu F H (upd F1 q o) H1 where
  ff := fun c u e => by
    rw [upd_ne (ne_of_none (a.ff c u e) f)]
    exact a.ff c u e
  fh := fun c u e => by
    by_cases k : c = q
    · subst k; rw [upd_same] at e; cases e; exact h
    · rw [upd_ne k] at e; exact a.fh c u e
  nw := fun c u e => by
    by_cases k : c = q
    · subst k; exact .inr n
    · rw [upd_ne k] at e; exact a.nw c u e
  fr := a.fr
  th := a.th
theorem Gr.free (a : Gr mu F H F1 H1) (n : H1 q = none) : F1 q = none := a.fh.free n
end
/-- an owned thing: new since H, not frozen, it is o now -/
structure Ow (H F H1 : Hp) (q : Addr) (o : HO) : Prop where
  n : H q = none
  f : F q = none
  h : H1 q = some o
section
variable {mu mu' : Addr → Prop} {H0 F H F1 H1 : Hp} {q r : Addr} {o u : HO}
theorem Ow.call (w : Ow H0 F H q o) (a : Gr mu F H F1 H1) (m : ¬ mu q) : Ow H0 F1 H1 q o :=
  ⟨w.n, (by
    cases e : F1 q with
    | none => rfl
    | some z =>
      rcases a.nw q z e with k | k
      · rw [w.f] at k; cases k
      · rw [w.h] at k; cases k), a.fr q o w.h m⟩
theorem Ow.ne (w : Ow H0 F H q o) (n : H r = none) : q ≠ r := ne_of_none w.h n
theorem Ow.new (w : Ow H0 F H q o) (n : H r = none) : Ow H0 (upd F r u) (upd H r u) q o :=
  ⟨w.n, by rw [upd_ne (w.ne n)]; exact w.f, by rw [upd_ne (w.ne n)]; exact w.h⟩
theorem Ow.own (w : Ow H0 F H q o) (n : H r = none) : Ow H0 F (upd H r u) q o :=
  ⟨w.n, w.f, by rw [upd_ne (w.ne n)]; exact w.h⟩
theorem Ow.mk1 (a : Gr mu H0' H0 F H) (n : H q = none) : Ow H0 F (upd H q o) q o := ⟨a.th q n, a.free n, upd_same⟩
theorem Ow.set (w : Ow H0 F H q o) : Ow H0 F (upd H q u) q u := ⟨w.n, w.f, upd_same⟩
theorem Ow.other (w : Ow H0 F H q o) (e : q ≠ r) : Ow H0 F (upd H r u) q o := ⟨w.n, w.f, by rw [upd_ne e]; exact w.h⟩
end
/-! ### what stands for a datum -/
def All2 {α β : Type} (r : α → β → Prop) (xs : List α) (ys : List β) : Prop := xs.length = ys.length ∧ ∀ (i : Nat) (x : α) (y : β), xs[i]? = some x → ys[i]? = some y → r x y
section
variable {α β : Type} {r s : α → β → Prop} {xs xs' : List α} {ys ys' : List β}
theorem All2.nil : All2 r [] [] := ⟨rfl, fun i x y h => by simp at h⟩
theorem All2.get (a : All2 r xs ys) {i : Nat} {y : β} (h : ys[i]? = some y) : ∃ x, xs[i]? = some x ∧ r x y := by
  have l := (List.getElem?_eq_some_iff.mp h).1
  have l' : i < xs.length := by rw [a.1]; exact l
  exact ⟨xs[i], List.getElem?_eq_getElem l', a.2 i _ y (List.getElem?_eq_getElem l') h⟩
theorem All2.get' (a : All2 r xs ys) {i : Nat} {x : α} (h : xs[i]? = some x) : ∃ y, ys[i]? = some y ∧ r x y := by
  have l := (List.getElem?_eq_some_iff.mp h).1
  have l' : i < ys.length := by rw [← a.1]; exact l
  exact ⟨ys[i], List.getElem?_eq_getElem l', a.2 i x _ h (List.getElem?_eq_getElem l')⟩
theorem All2.imp (a : All2 r xs ys) (f : ∀ x y, r x y → s x y) : All2 s xs ys := ⟨a.1, fun i x y h k => f x y (a.2 i x y h k)⟩
theorem All2.app (a : All2 r xs ys) (b : All2 r xs' ys') : All2 r (xs ++ xs') (ys ++ ys') := by
  refine ⟨by rw [List.length_append, List.length_append, a.1, b.1], fun i x y h k => ?_⟩
  by_cases l : i < xs.length
  · rw [List.getElem?_append_left l] at h
    rw [List.getElem?_append_left (by rw [← a.1]; exact l)] at k
    exact a.2 i x y h k
  · rw [List.getElem?_append_right (by omega)] at h
    rw [List.getElem?_append_right (by rw [← a.1]; omega), ← a.1] at k
    exact b.2 _ x y h k
theorem All2.one {x : α} {y : β} (h : r x y) : All2 r [x] [y] := ⟨rfl, fun i a b p q => by
  cases i with
  | zero => simp at p q; subst p; subst q; exact h
  | succ n => simp at p⟩
theorem All2.cons {x : α} {y : β} (h : r x y) (a : All2 r xs ys) : All2 r (x :: xs) (y :: ys) := (All2.one h).app a
theorem All2.set (a : All2 r xs ys) {x : α} {y : β} (h : r x y) (j : Nat) : All2 r (xs.set j x) (ys.set j y) := by
  refine ⟨by rw [List.length_set, List.length_set]; exact a.1, fun i u v p q => ?_⟩
  by_cases e : j = i
  · subst e
    rw [List.getElem?_set_self'] at p q
    cases e1 : xs[j]? with
    | none => rw [e1] at p; cases p
    | some z =>
      cases e2 : ys[j]? with
      | none => rw [e2] at q; cases q
      | some z2 =>
        rw [e1] at p; rw [e2] at q
        cases p; cases q
        exact h
  · rw [List.getElem?_set_ne e] at p q
    exact a.2 i u v p q
theorem All2.take (a : All2 r xs ys) (n : Nat) : All2 r (xs.take n) (ys.take n) := by
  refine ⟨by rw [List.length_take, List.length_take, a.1], fun i u v p q => ?_⟩
  rw [List.getElem?_take] at p q
  split at p
  · rw [if_pos (by assumption)] at q; exact a.2 i u v p q
  · cases p
theorem All2.drop (a : All2 r xs ys) (n : Nat) : All2 r (xs.drop n) (ys.drop n) := by
  refine ⟨by rw [List.length_drop, List.length_drop, a.1], fun i u v p q => ?_⟩
  rw [List.getElem?_drop] at p q
  exact a.2 _ u v p q
end
class Dat (α : Type) where
  rep : Hp → V → α → Prop
  mono : ∀ {H H' : Hp} {v : V} {d : α}, Same H H' → rep H v d → rep H' v d
  py : α → PyData
  dp : ∀ {K : PySem.W.Frag} {H : Hp} {v : V} {d : α}, rep H v d → Dp K H v (py d)
  can : ∀ d, (py d).canLay0 = true
  dep : Nat
  depth : ∀ d, (py d).depth ≤ dep
  eqv : ∀ a b, PyData.eqv (py a) (py b) = true ↔ a = b
section
variable {α β γ : Type}
/-- v stands for d in H -/
abbrev Is [Dat α] (H : Hp) (v : V) (d : α) : Prop := Dat.rep H v d
theorem Is.up [Dat α] {H H' : Hp} {v : V} {d : α} (h : Is H v d) (s : Same H H') : Is H' v d := Dat.mono s h
abbrev IsAll [Dat α] (H : Hp) (xs : List V) (ds : List α) : Prop := All2 (fun v d => Is H v d) xs ds
theorem IsAll.up [Dat α] {H H' : Hp} {xs : List V} {ds : List α} (h : IsAll H xs ds) (s : Same H H') : IsAll H' xs ds := h.imp fun _ _ z => Is.up z s
theorem dp_all [Dat α] {K : PySem.W.Frag} {H : Hp} : ∀ {xs : List V} {ds : List α}, IsAll H xs ds → DpAll K H xs (ds.map Dat.py)
  | [], [], _ => .nil
  | [], d :: ds, h => by have := h.1; simp at this
  | x :: xs, [], h => by have := h.1; simp at this
  | x :: xs, d :: ds, h => .cons (Dat.dp (h.2 0 x d rfl rfl)) (dp_all ⟨by have := h.1; simpa using this, fun i a b p q => h.2 (i + 1) a b (by simpa using p) (by simpa using q)⟩)
theorem can_all [Dat α] : ∀ ds : List α, PyData.canLayAll0 (ds.map Dat.py) = true
  | [] => rfl
  | d :: ds => by
    show (PyData.canLay0 (Dat.py d) && PyData.canLayAll0 (ds.map Dat.py)) = true
    rw [Dat.can, can_all ds]; rfl
theorem depth_all [Dat α] : ∀ ds : List α, PyData.depthAll (ds.map Dat.py) ≤ Dat.dep α
  | [] => Nat.zero_le _
  | d :: ds => by
    show max (PyData.depth (Dat.py d)) (PyData.depthAll (ds.map Dat.py)) ≤ _
    exact Nat.max_le.mpr ⟨Dat.depth d, depth_all ds⟩
theorem eqv_all [Dat α] : ∀ a b : List α, PyData.eqvAll (a.map Dat.py) (b.map Dat.py) = true ↔ a = b
  | [], [] => by simp [PyData.eqvAll]
  | [], _ :: _ => by simp [PyData.eqvAll]
  | _ :: _, [] => by simp [PyData.eqvAll]
  | x :: xs, y :: ys => by
    rw [List.map_cons, List.map_cons, PyData.eqvAll, Bool.and_eq_true, Dat.eqv, eqv_all xs ys, List.cons.injEq]
instance : Dat Int where
  rep := fun _ v i => v = .int i
  mono := fun _ h => h
  py := .int
  dp := fun h => h ▸ .int _
  can := fun _ => rfl
  dep := 0
  depth := fun _ => Nat.le_refl _
  eqv := fun a b => by simp [PyData.eqv]
instance : Dat Bool where
  rep := fun _ v i => v = .bl i
  mono := fun _ h => h
  py := .bool
  dp := fun h => h ▸ .bl _
  can := fun _ => rfl
  dep := 0
  depth := fun _ => Nat.le_refl _
  eqv := fun a b => by simp [PyData.eqv]
/-- a list of data -/
instance [Dat α] : Dat (List α) where
  rep := fun H v l => ∃ a xs, v = .ref a ∧ H a = some (.lst xs) ∧ IsAll H xs l
  mono := fun s h => by
    obtain ⟨a, xs, e, h, i⟩ := h
    exact ⟨a, xs, e, s _ _ h, IsAll.up i s⟩
  py := fun l => .list (l.map Dat.py)
  dp := fun h => by
    obtain ⟨a, xs, rfl, h, i⟩ := h
    exact .lst (SqL.of h) (dp_all i)
  can := fun d => can_all d
  dep := Dat.dep α + 1
  depth := fun d => Nat.succ_le_succ (depth_all d)
  eqv := fun a b => by rw [PyData.eqv]; exact eqv_all a b
/-- a tuple of data of one kind -/
structure Tup (α : Type) where
  l : List α
  deriving DecidableEq
instance [Dat α] : Dat (Tup α) where
  rep := fun H v l => ∃ a xs, v = .ref a ∧ H a = some (.tup xs) ∧ IsAll H xs l.l
  mono := fun s h => by
    obtain ⟨a, xs, e, h, i⟩ := h
    exact ⟨a, xs, e, s _ _ h, IsAll.up i s⟩
  py := fun l => .tuple (l.l.map Dat.py)
  dp := fun h => by
    obtain ⟨a, xs, rfl, h, i⟩ := h
    exact .tup (SqT.of h) (dp_all i)
  can := fun d => can_all d.l
  dep := Dat.dep α + 1
  depth := fun d => Nat.succ_le_succ (depth_all d.l)
  eqv := fun a b => by
    rw [PyData.eqv, eqv_all]
    obtain ⟨a⟩ := a; obtain ⟨b⟩ := b
    simp
/-- a pair; a triple -/
structure T2 (α β : Type) where
  a : α
  b : β
  deriving DecidableEq
structure T3 (α β γ : Type) where
  a : α
  b : β
  c : γ
  deriving DecidableEq
instance [Dat α] [Dat β] : Dat (T2 α β) where
  rep := fun H v d => ∃ p x y, v = .ref p ∧ H p = some (.tup [x, y]) ∧ Is H x d.a ∧ Is H y d.b
  mono := fun s h => by
    obtain ⟨p, x, y, e, h, i, j⟩ := h
    exact ⟨p, x, y, e, s _ _ h, Is.up i s, Is.up j s⟩
  py := fun d => .tuple [Dat.py d.a, Dat.py d.b]
  dp := fun h => by
    obtain ⟨p, x, y, rfl, h, i, j⟩ := h
    exact .tup (SqT.of h) (.cons (Dat.dp i) (.cons (Dat.dp j) .nil))
  can := fun d => by
    show (PyData.canLay0 (Dat.py d.a) && (PyData.canLay0 (Dat.py d.b) && true)) = true
    rw [Dat.can, Dat.can]; rfl
  dep := max (Dat.dep α) (Dat.dep β) + 1
  depth := fun d => by
    have h1 := Dat.depth d.a
    have h2 := Dat.depth d.b
    show max (PyData.depth (Dat.py d.a)) (max (PyData.depth (Dat.py d.b)) 0) + 1 ≤ _
    omega
  eqv := fun a b => by
    obtain ⟨a, a'⟩ := a; obtain ⟨b, b'⟩ := b
    simp [PyData.eqv, PyData.eqvAll, Dat.eqv]
instance [Dat α] [Dat β] [Dat γ] : Dat (T3 α β γ) where
  rep := fun H v d => ∃ p x y z, v = .ref p ∧ H p = some (.tup [x, y, z]) ∧ Is H x d.a ∧ Is H y d.b ∧ Is H z d.c
  mono := fun s h => by
    obtain ⟨p, x, y, z, e, h, i, j, k⟩ := h
    exact ⟨p, x, y, z, e, s _ _ h, Is.up i s, Is.up j s, Is.up k s⟩
  py := fun d => .tuple [Dat.py d.a, Dat.py d.b, Dat.py d.c]
  dp := fun h => by
    obtain ⟨p, x, y, z, rfl, h, i, j, k⟩ := h
    exact .tup (SqT.of h) (.cons (Dat.dp i) (.cons (Dat.dp j) (.cons (Dat.dp k) .nil)))
  can := fun d => by
    show (PyData.canLay0 (Dat.py d.a) && (PyData.canLay0 (Dat.py d.b) && (PyData.canLay0 (Dat.py d.c) && true))) = true
    rw [Dat.can, Dat.can, Dat.can]; rfl
  dep := max (Dat.dep α) (max (Dat.dep β) (Dat.dep γ)) + 1
  depth := fun d => by
    have h1 := Dat.depth d.a
    have h2 := Dat.depth d.b
    have h3 := Dat.depth d.c
    show max (PyData.depth (Dat.py d.a)) (max (PyData.depth (Dat.py d.b)) (max (PyData.depth (Dat.py d.c)) 0)) + 1 ≤ _
    omega
  eqv := fun a b => by
    obtain ⟨a, a', a''⟩ := a; obtain ⟨b, b', b''⟩ := b
    simp [PyData.eqv, PyData.eqvAll, Dat.eqv]
/-- None, or a datum that is a tuple or a list -/
class Big (α : Type) [Dat α] : Prop where
  big : ∀ d : α, (∃ l, Dat.py d = .tuple l) ∨ ∃ l, Dat.py d = .list l
instance [Dat α] : Big (List α) := ⟨fun d => .inr ⟨_, rfl⟩⟩
instance [Dat α] : Big (Tup α) := ⟨fun d => .inl ⟨_, rfl⟩⟩
instance [Dat α] [Dat β] : Big (T2 α β) := ⟨fun d => .inl ⟨_, rfl⟩⟩
instance [Dat α] [Dat β] [Dat γ] : Big (T3 α β γ) := ⟨fun d => .inl ⟨_, rfl⟩⟩
instance [Dat α] [Big α] : Dat (Option α) where
  rep := fun H v d => match d with
    | none => v = .non
    | some d => Is H v d
  mono := fun {H H' v d} s h => by
    cases d with
    | none => exact h
    | some d => exact Is.up (show Is H v d from h) s
  py := fun d => match d with
    | none => .none
    | some d => Dat.py d
  dp := fun {K H v d} h => by
    cases d with
    | none => cases h; exact .non
    | some d => exact Dat.dp (show Is H v d from h)
  can := fun d => by
    cases d with
    | none => rfl
    | some d => exact Dat.can d
  dep := Dat.dep α
  depth := fun d => by
    cases d with
    | none => exact Nat.zero_le _
    | some d => exact Dat.depth d
  eqv := fun a b => by
    cases a with
    | none =>
      cases b with
      | none => exact ⟨fun _ => rfl, fun _ => rfl⟩
      | some b =>
        refine ⟨fun h => ?_, fun h => nomatch h⟩
        have h : PyData.eqv .none (Dat.py b) = true := h
        rcases Big.big b with ⟨l, e⟩ | ⟨l, e⟩ <;> (rw [e] at h; simp only [PyData.eqv] at h; cases h)
    | some a =>
      cases b with
      | none =>
        refine ⟨fun h => ?_, fun h => nomatch h⟩
        have h : PyData.eqv (Dat.py a) .none = true := h
        rcases Big.big a with ⟨l, e⟩ | ⟨l, e⟩ <;> (rw [e] at h; simp only [PyData.eqv] at h; cases h)
      | some b =>
        show PyData.eqv (Dat.py a) (Dat.py b) = true ↔ _
        rw [Dat.eqv, Option.some.injEq]
end
/-- == and != of data -/
theorem eq_dat0 {α : Type} [Dat α] [DecidableEq α] {a b : α} (hd : Dat.dep α ≤ 64) : SeqAt.shaped (Dat.py a) = true ∧ SeqAt.shaped (Dat.py b) = true ∧ PyData.eqv (Dat.py a) (Dat.py b) = decide (a = b) := by
  refine ⟨?_, ?_, ?_⟩
  · show (PyData.canLay0 _ && decide _) = true
    rw [Dat.can, decide_eq_true (Nat.le_trans (Dat.depth a) hd)]; rfl
  · show (PyData.canLay0 _ && decide _) = true
    rw [Dat.can, decide_eq_true (Nat.le_trans (Dat.depth b) hd)]; rfl
  · rw [Bool.eq_iff_iff, Dat.eqv, decide_eq_true_iff]
theorem eq_dat {α : Type} [Dat α] [DecidableEq α] {K : PySem.W.Frag} {H : Hp} {x y : V} {a b : α} {Q : VK} (ha : Is H x a) (hb : Is H y b) (q : Q (.bl (decide (a = b))) H) (hd : Dat.dep α ≤ 64 := by decide) : rEqD K x y H Q := by
  obtain ⟨h1, h2, h3⟩ := eq_dat0 (a := a) (b := b) hd
  exact ⟨Dat.py a, Dat.py b, Dat.dp ha, Dat.dp hb, h1, h2, by rw [h3]; exact q⟩
theorem ne_dat {α : Type} [Dat α] [DecidableEq α] {K : PySem.W.Frag} {H : Hp} {x y : V} {a b : α} {Q : VK} (ha : Is H x a) (hb : Is H y b) (q : Q (.bl (!decide (a = b))) H) (hd : Dat.dep α ≤ 64 := by decide) : rNeD K x y H Q := by
  obtain ⟨h1, h2, h3⟩ := eq_dat0 (a := a) (b := b) hd
  exact ⟨Dat.py a, Dat.py b, Dat.dp ha, Dat.dp hb, h1, h2, by rw [h3]; exact q⟩
/-! ### machines -/
/-- an entry -/
inductive Ent where
  | emp
  | go (put way row : Int)
  deriving DecidableEq
def entO : Ent → HO
  | .emp => .tup []
  | .go p w r => .tup [.int p, .int w, .int r]
def entP : Ent → PyData
  | .emp => .tuple []
  | .go p w r => .tuple [.int p, .int w, .int r]
instance : Dat Ent where
  rep := fun H v e => ∃ a, v = .ref a ∧ H a = some (entO e)
  mono := fun s h => by obtain ⟨a, e, h⟩ := h; exact ⟨a, e, s _ _ h⟩
  py := entP
  dp := fun {K H v d} h => by
    obtain ⟨a, rfl, h⟩ := h
    cases d with
    | emp => exact .tup (SqT.of h) .nil
    | go p w r => exact .tup (SqT.of h) (.cons (.int _) (.cons (.int _) (.cons (.int _) .nil)))
  can := fun d => by cases d <;> rfl
  dep := 1
  depth := fun d => by cases d <;> simp [entP, PyData.depth, PyData.depthAll]
  eqv := fun a b => by cases a <;> cases b <;> simp [entP, PyData.eqv, PyData.eqvAll]
instance : Big Ent := ⟨fun d => by cases d <;> exact .inl ⟨_, rfl⟩⟩
abbrev Mach := List (List Ent)
/-! ### pairs of ints: a dict's items, sorted ones -/
abbrev PI := T2 Int Int
def dI (l : List PI) : List (Key × V) := l.map fun p => (Sum.inl p.a, V.int p.b)
def look (l : List PI) (x : Int) : Option Int := (l.find? fun p => decide (p.a = x)).map (·.b)
def put (l : List PI) (x v : Int) : List PI := if (l.any fun p => decide (p.a = x)) = true then l.map (fun p => if p.a = x then ⟨p.a, v⟩ else p) else l ++ [⟨x, v⟩]
def merge (l m : List PI) : List PI := m.foldl (fun acc p => put acc p.a p.b) l
theorem key_inl (a b : Int) : ((Sum.inl a : Key) = Sum.inl b) = (a = b) := propext ⟨Sum.inl.inj, fun h => by rw [h]⟩
theorem dI_val (x : Int) : ∀ l : List PI, valV (dI l) (Sum.inl x) = (look l x).map V.int
  | [] => rfl
  | p :: l => by
    have ih := dI_val x l
    show valV ((Sum.inl p.a, V.int p.b) :: dI l) (Sum.inl x) = _
    by_cases e : p.a = x
    · rw [valV_pos (by rw [key_inl]; exact e)]
      simp [look, e]
    · rw [valV_neg (by rw [key_inl]; exact e), ih]
      simp [look, e]
theorem dI_put (l : List PI) (x v : Int) : putK (dI l) (Sum.inl x) (.int v) = dI (put l x v) := by
  have e : ((dI l).any fun kv => decide (kv.1 = Sum.inl x)) = (l.any fun p => decide (p.a = x)) := by
    unfold dI
    rw [List.any_map]
    congr 1
    funext p
    simp only [Function.comp, key_inl]
  unfold putK put
  rw [e]
  by_cases a : (l.any fun p => decide (p.a = x)) = true
  · rw [if_pos a, if_pos a]
    unfold dI
    rw [List.map_map, List.map_map]
    congr 1
    funext p
    simp only [Function.comp, key_inl]
    by_cases h : p.a = x
    · rw [if_pos h, if_pos h]
    · rw [if_neg h, if_neg h]
  · rw [if_neg a, if_neg a]
    unfold dI
    rw [List.map_append]
    rfl
theorem dI_merge (m : List PI) : ∀ l : List PI, mergeK (dI l) (dI m) = dI (merge l m) := by
  induction m with
  | nil => intro l; rfl
  | cons p m ih =>
    intro l
    show mergeK (putK (dI l) (Sum.inl p.a) (.int p.b)) (dI m) = dI (merge (put l p.a p.b) m)
    rw [dI_put]
    exact ih _
theorem look_nil (x : Int) : look [] x = none := rfl
theorem look_cons (p : PI) (l : List PI) (x : Int) : look (p :: l) x = if p.a = x then some p.b else look l x := by
  unfold look
  rw [List.find?_cons]
  by_cases e : p.a = x
  · simp [e]
  · simp [e]
theorem look_any (x : Int) : ∀ l : List PI, (l.any fun p => decide (p.a = x)) = (look l x).isSome
  | [] => rfl
  | p :: l => by
    rw [List.any_cons, look_any x l, look_cons]
    by_cases e : p.a = x
    · simp [e]
    · simp [e]
theorem look_map (x y v : Int) : ∀ l : List PI, look (l.map fun p => if p.a = x then ⟨p.a, v⟩ else p) y = (look l y).map fun z => if y = x then v else z
  | [] => rfl
  | p :: l => by
    rw [List.map_cons, look_cons, look_cons, look_map x y v l]
    by_cases e : p.a = x
    · rw [if_pos e]
      by_cases f : p.a = y
      · rw [if_pos f, if_pos f]
        rw [← f, Option.map_some, if_pos e]
      · rw [if_neg f, if_neg f]
    · rw [if_neg e]
      by_cases f : p.a = y
      · rw [if_pos f, if_pos f, Option.map_some, if_neg (by rw [← f]; exact e)]
      · rw [if_neg f, if_neg f]
theorem look_app (l m : List PI) (x : Int) : look (l ++ m) x = (look l x).or (look m x) := by
  induction l with
  | nil => rfl
  | cons p l ih =>
    rw [List.cons_append, look_cons, look_cons, ih]
    by_cases e : p.a = x
    · rw [if_pos e, if_pos e]; rfl
    · rw [if_neg e, if_neg e]
theorem look_put (l : List PI) (x v y : Int) : look (put l x v) y = if y = x then some v else look l y := by
  unfold put
  by_cases a : (l.any fun p => decide (p.a = x)) = true
  · rw [if_pos a, look_map]
    by_cases e : y = x
    · rw [if_pos e, e]
      rw [look_any] at a
      obtain ⟨z, hz⟩ := Option.isSome_iff_exists.mp a
      rw [hz, Option.map_some, if_pos rfl]
    · rw [if_neg e]
      cases look l y with
      | none => rfl
      | some z => rw [Option.map_some, if_neg e]
  · rw [if_neg a, look_app]
    rw [look_any] at a
    by_cases e : y = x
    · rw [if_pos e, e]
      cases h : look l x with
      | none => rw [look_cons, if_pos rfl]; rfl
      | some z => rw [h] at a; exact absurd rfl a
    · rw [if_neg e, look_cons, if_neg (fun z => e z.symm), look_nil]
      cases look l y <;> rfl
/-- no place twice -/
def Nd (l : List PI) : Prop := (l.map (·.a)).Nodup
theorem look_none {l : List PI} {x : Int} : look l x = none ↔ x ∉ l.map (·.a) := by
  induction l with
  | nil => simp [look_nil]
  | cons p l ih =>
    rw [look_cons, List.map_cons, List.mem_cons]
    by_cases e : p.a = x
    · rw [if_pos e]; simp [e]
    · rw [if_neg e, ih]
      constructor
      · intro h z
        rcases z with z | z
        · exact e z.symm
        · exact h z
      · intro h z
        exact h (.inr z)
theorem look_mem {l : List PI} (h : Nd l) {p : PI} (m : p ∈ l) : look l p.a = some p.b := by
  induction l with
  | nil => cases m
  | cons q l ih =>
    have h' := List.nodup_cons.mp h
    rw [look_cons]
    rcases List.mem_cons.mp m with rfl | m
    · rw [if_pos rfl]
    · rw [if_neg (fun e => h'.1 (by show q.a ∈ _; rw [e]; exact List.mem_map.mpr ⟨p, m, rfl⟩))]
      exact ih h'.2 m
theorem mem_look {l : List PI} {x v : Int} (h : look l x = some v) : (⟨x, v⟩ : PI) ∈ l := by
  induction l with
  | nil => cases h
  | cons q l ih =>
    rw [look_cons] at h
    by_cases e : q.a = x
    · rw [if_pos e] at h
      cases h
      subst e
      exact List.mem_cons_self
    · rw [if_neg e] at h
      exact List.mem_cons_of_mem _ (ih h)
theorem nd_put {l : List PI} (h : Nd l) (x v : Int) : Nd (put l x v) := by
  unfold put
  by_cases a : (l.any fun p => decide (p.a = x)) = true
  · rw [if_pos a]
    unfold Nd
    rw [List.map_map]
    have e : ((fun p : PI => p.a) ∘ fun p : PI => if p.a = x then (⟨p.a, v⟩ : PI) else p) = fun p : PI => p.a := by
      funext p
      simp only [Function.comp]
      split <;> rfl
    rw [e]; exact h
  · rw [if_neg a]
    unfold Nd
    rw [List.map_append]
    refine nd_snoc h ?_
    rw [look_any] at a
    refine look_none.mp ?_
    cases q : look l x with
    | none => rfl
    | some z => rw [q] at a; exact absurd rfl a
theorem put_new {l : List PI} {x : Int} (v : Int) (h : look l x = none) : put l x v = l ++ [⟨x, v⟩] := by
  unfold put
  rw [look_any, h]
  rfl
theorem merge_nd {m : List PI} : ∀ {l : List PI}, Nd (l ++ m) → merge l m = l ++ m := by
  induction m with
  | nil => intro l _; simp [merge]
  | cons p m ih =>
    intro l h
    have e : l ++ p :: m = (l ++ [p]) ++ m := by simp
    have hn : look l p.a = none := by
      refine look_none.mpr fun z => ?_
      unfold Nd at h
      rw [List.map_append] at h
      exact (List.nodup_append.mp h).2.2 _ z _ (by rw [List.map_cons]; exact List.mem_cons_self) rfl
    show merge (put l p.a p.b) m = _
    rw [put_new _ hn, e]
    exact ih (by rw [← e]; exact h)
theorem nd_nil : Nd [] := List.nodup_nil
theorem put_len (l : List PI) (x v : Int) : (put l x v).length ≤ l.length + 1 := by
  unfold put
  split
  · rw [List.length_map]; omega
  · rw [List.length_append]; exact Nat.le_refl _
/-- Python's order of pairs -/
def leP (p q : PI) : Bool := decide (p.a < q.a) || (decide (p.a = q.a) && decide (p.b ≤ q.b))
theorem leP_iff {p q : PI} : leP p q = true ↔ p.a < q.a ∨ (p.a = q.a ∧ p.b ≤ q.b) := by simp [leP]
def ins (p : PI) : List PI → List PI
  | [] => [p]
  | q :: l => if leP p q = true then p :: q :: l else q :: ins p l
def srt (l : List PI) : List PI := l.foldr ins []
theorem ins_perm (p : PI) : ∀ l : List PI, (ins p l).Perm (p :: l)
  | [] => List.Perm.refl _
  | q :: l => by
    unfold ins
    split
    · exact List.Perm.refl _
    · exact (List.Perm.cons q (ins_perm p l)).trans (List.Perm.swap p q l)
theorem srt_perm : ∀ l : List PI, (srt l).Perm l
  | [] => List.Perm.refl _
  | p :: l => (ins_perm p (srt l)).trans ((srt_perm l).cons p)
abbrev LeP (p q : PI) : Prop := leP p q = true
theorem leP_trans {p q r : PI} (h1 : LeP p q) (h2 : LeP q r) : LeP p r := by
  have a := leP_iff.mp h1
  have b := leP_iff.mp h2
  exact leP_iff.mpr (by omega)
theorem leP_total (p q : PI) : LeP p q ∨ LeP q p := by
  show leP p q = true ∨ leP q p = true
  rw [leP_iff, leP_iff]
  omega
theorem ins_srt (p : PI) : ∀ {l : List PI}, l.Pairwise LeP → (ins p l).Pairwise LeP
  | [], _ => List.pairwise_singleton _ _
  | q :: l, h => by
    have h' := List.pairwise_cons.mp h
    unfold ins
    split
    · rename_i e
      refine List.pairwise_cons.mpr ⟨fun x m => ?_, h⟩
      rcases List.mem_cons.mp m with rfl | m
      · exact e
      · exact leP_trans e (h'.1 x m)
    · rename_i e
      refine List.pairwise_cons.mpr ⟨fun x m => ?_, ins_srt p h'.2⟩
      rcases List.mem_cons.mp ((ins_perm p l).mem_iff.mp m) with rfl | m
      · rcases leP_total q x with z | z
        · exact z
        · exact absurd z e
      · exact h'.1 x m
theorem srt_srt : ∀ l : List PI, (srt l).Pairwise LeP
  | [] => List.Pairwise.nil
  | p :: l => ins_srt p (srt_srt l)
theorem leP_anti {p q : PI} (h1 : LeP p q) (h2 : LeP q p) : p = q := by
  have a := leP_iff.mp h1
  have b := leP_iff.mp h2
  obtain ⟨x, y⟩ := p
  obtain ⟨x', y'⟩ := q
  have e1 : x = x' := by show x = x'; simp only at a b; omega
  have e2 : y = y' := by simp only at a b; omega
  rw [e1, e2]
/-- there is one sorted list of them -/
theorem srt_uniq : ∀ {l m : List PI}, l.Pairwise LeP → m.Pairwise LeP → l.Perm m → l = m
  | [], m, _, _, h => (List.Perm.eq_nil h.symm).symm
  | x :: l, [], _, _, h => absurd h.length_eq (by simp)
  | x :: l, y :: m, hl, hm, h => by
    have l' := List.pairwise_cons.mp hl
    have m' := List.pairwise_cons.mp hm
    have h1 : LeP y x := by
      rcases List.mem_cons.mp (h.mem_iff.mp (List.mem_cons_self (a := x) (l := l))) with e | z
      · rw [e]; rcases leP_total y y with z | z <;> exact z
      · exact m'.1 x z
    have h2 : LeP x y := by
      rcases List.mem_cons.mp (h.mem_iff.mpr (List.mem_cons_self (a := y) (l := m))) with e | z
      · rw [e]; rcases leP_total x x with z | z <;> exact z
      · exact l'.1 y z
    have e := leP_anti h2 h1
    subst e
    rw [srt_uniq l'.2 m'.2 h.cons_inv]
theorem srt_of {l m : List PI} (h : m.Pairwise LeP) (p : m.Perm l) : m = srt l := srt_uniq h (srt_srt l) (p.trans (srt_perm l).symm)
/-- what a value says as a pair, read off the heap -/
def pOf (H : Hp) : V → Int × Int
  | .ref t => match H t with
    | some (.tup [.int i, .int j]) => (i, j)
    | _ => (0, 0)
  | _ => (0, 0)
theorem pOf_is {H : Hp} {v : V} {d : PI} (h : Is H v d) : ∃ t, v = .ref t ∧ H t = some (.tup [.int (pOf H v).1, .int (pOf H v).2]) ∧ d = ⟨(pOf H v).1, (pOf H v).2⟩ := by
  obtain ⟨t, x, y, rfl, h1, h2, h3⟩ := h
  have h2 : x = .int d.a := h2
  have h3 : y = .int d.b := h3
  subst h2
  subst h3
  have e : pOf H (.ref t) = (d.a, d.b) := by simp only [pOf, h1]
  exact ⟨t, rfl, by rw [e]; exact h1, by rw [e]⟩
theorem all_of {H : Hp} : ∀ {xs : List V} {l : List PI}, IsAll H xs l → l = xs.map fun v => (⟨(pOf H v).1, (pOf H v).2⟩ : PI) := fun {xs l} h => by
  refine List.ext_getElem? fun i => ?_
  rw [List.getElem?_map]
  cases e : xs[i]? with
  | none =>
    have := List.getElem?_eq_none_iff.mp e
    exact List.getElem?_eq_none_iff.mpr (by rw [← h.1]; exact this)
  | some x =>
    obtain ⟨d, hd, hx⟩ := h.get' e
    obtain ⟨t, _, _, q⟩ := pOf_is hx
    rw [hd, q]
    rfl
/-- sorted of a list of pairs -/
theorem sort_pairs {K : PySem.W.Frag} {F H : Hp} {a : Addr} {xs : List V} {l : List PI} {Q : VK} (sF : Same F H) (hx : IsAll F xs l) (ha : SqL K H a xs) (q : ∀ ys p, H p = none → IsAll F ys (srt l) → Q (.ref p) (upd H p (.lst ys))) : rSortQ K [.ref a] H Q := by
  unfold rSortQ
  refine ⟨a, xs, pOf F, rfl, ha, fun x m => ?_, fun ys p hs hb np => q ys p np ?_⟩
  · obtain ⟨i, hi⟩ := List.getElem?_of_mem m
    obtain ⟨d, _, hd⟩ := hx.get' hi
    obtain ⟨t, e, h, _⟩ := pOf_is hd
    exact ⟨t, e, sF _ _ h⟩
  · have el := all_of hx
    have hys : IsAll F ys (ys.map fun v => (⟨(pOf F v).1, (pOf F v).2⟩ : PI)) := by
      refine ⟨by rw [List.length_map], fun i x y h1 h2 => ?_⟩
      rw [List.getElem?_map, h1] at h2
      cases h2
      have m : x ∈ xs := hb.perm.mem_iff.mp (List.mem_of_getElem? h1)
      obtain ⟨j, hj⟩ := List.getElem?_of_mem m
      obtain ⟨d, _, hd⟩ := hx.get' hj
      obtain ⟨t, e, h, e2⟩ := pOf_is hd
      exact ⟨t, _, _, e, h, rfl, rfl⟩
    have es : (ys.map fun v => (⟨(pOf F v).1, (pOf F v).2⟩ : PI)) = srt l := by
      refine srt_of ?_ ?_
      · refine List.pairwise_map.mpr (List.Pairwise.imp (fun {x y} h => ?_) hs)
        have h := SrtO.lexB_no.mp h
        exact leP_iff.mpr (by simp only; omega)
      · rw [el]
        exact hb.perm.map _
    rw [es] at hys
    exact hys
theorem pairs_of {K : PySem.W.Frag} {H : Hp} : ∀ {xs : List V} {l : List PI}, IsAll H xs l → ∃ ps : List Addr, xs = ps.map V.ref ∧ Paired (fun p kv => SqT K H p [kV kv.1, kv.2]) ps (dI l)
  | [], [], _ => ⟨[], rfl, .nil⟩
  | [], d :: l, h => by have := h.1; simp at this
  | x :: xs, [], h => by have := h.1; simp at this
  | x :: xs, d :: l, h => by
    obtain ⟨t, x1, x2, e, h1, h2, h3⟩ := h.2 0 x d rfl rfl
    have h2 : x1 = .int d.a := h2
    have h3 : x2 = .int d.b := h3
    subst h2
    subst h3
    obtain ⟨ps, e2, p⟩ := pairs_of (K := K) (xs := xs) (l := l) ⟨by have := h.1; simpa using this, fun i a b p q => h.2 (i + 1) a b (by simpa using p) (by simpa using q)⟩
    exact ⟨t :: ps, by rw [e, e2]; rfl, .cons (SqT.of h1) p⟩
/-- dict(pairs) -/
theorem dict_pairs {K : PySem.W.Frag} {H : Hp} {a : Addr} {xs : List V} {l : List PI} {Q : VK} (hx : IsAll H xs l) (ha : SqL K H a xs) (q : ∀ p, H p = none → Q (.ref p) (upd H p (.dK (dI (merge [] l))))) : rDictP K [.ref a] H Q := by
  unfold rDictP
  obtain ⟨ps, e, p⟩ := pairs_of (K := K) hx
  refine ⟨a, ps, dI l, rfl, by rw [← e]; exact ha, p, fun d nd => ?_⟩
  have e2 : mergeK [] (dI l) = dI (merge [] l) := dI_merge l []
  rw [e2]
  exact q d nd
/-! ### a dict under its lock -/
theorem lock_in {F H : Hp} {d : Addr} {o : HO} (s : Same F H) : Same (fun c => if c = d then none else F c) (upd H d o) := fun c u h => by
  by_cases e : c = d
  · simp only [e, if_true] at h; cases h
  · simp only [e, if_false] at h
    rw [upd_ne e]; exact s c u h
theorem lock_out {F H F2 H2 : Hp} {d : Addr} {o u : HO} (s : Same F H) (h : H d = some u) (g : Gr mu0 (fun c => if c = d then none else F c) (upd H d o) F2 H2) :
    H2 d = some o ∧ Same F2 (fun c => if c = d then F d else F2 c) ∧ Gr mu0 F H (fun c => if c = d then F d else F2 c) (upd H2 d u) := by
  have n2 : F2 d = none := by
    cases e : F2 d with
    | none => rfl
    | some z =>
      rcases g.nw d z e with k | k
      · simp only [if_true] at k; cases k
      · rw [upd_same] at k; cases k
  refine ⟨g.fr d o upd_same (fun z => z), fun c z e => ?_, ⟨fun c z e => ?_, fun c z e => ?_, fun c z e => ?_, fun c z e m => ?_, fun c e => ?_⟩⟩
  · by_cases k : c = d
    · rw [k, n2] at e; cases e
    · simp only [k, if_false]; exact e
  · by_cases k : c = d
    · simp only [k, if_true]; rw [← k]; exact e
    · simp only [k, if_false]
      exact g.ff c z (by simp only [k, if_false]; exact e)
  · by_cases k : c = d
    · simp only [k, if_true] at e
      rw [k, upd_same, ← h]
      exact s d z e
    · simp only [k, if_false] at e
      rw [upd_ne k]; exact g.fh c z e
  · by_cases k : c = d
    · simp only [k, if_true] at e
      exact .inl (by rw [k]; exact e)
    · simp only [k, if_false] at e
      rcases g.nw c z e with q | q
      · simp only [k, if_false] at q; exact .inl q
      · rw [upd_ne k] at q; exact .inr q
  · by_cases k : c = d
    · rw [k, upd_same]; rw [k, h] at e; exact e
    · rw [upd_ne k]
      exact g.fr c z (by rw [upd_ne k]; exact e) (fun z => z)
  · by_cases k : c = d
    · rw [k, upd_same] at e; cases e
    · rw [upd_ne k] at e
      have q := g.th c e
      rw [upd_ne k] at q; exact q
/-- the signs that aren't 0, in order -/
def nz (p : PI) : Bool := decide (p.b ≠ 0)
def told (l : List PI) : List PI := srt (l.filter nz)
theorem dI_get {l : List PI} {i : Nat} (h : i < l.length) : (dI l)[i]? = some (Sum.inl l[i].a, V.int l[i].b) := by
  unfold dI
  rw [List.getElem?_map, List.getElem?_eq_getElem h]
  rfl
theorem filter_take_succ {l : List PI} {f : PI → Bool} {i : Nat} (h : i < l.length) : (l.take (i + 1)).filter f = (l.take i).filter f ++ (if f l[i] = true then [l[i]] else []) := by
  rw [List.take_add_one, List.getElem?_eq_getElem h, List.filter_append]
  show _ ++ List.filter f [l[i]] = _
  rw [List.filter_cons]
  split <;> rfl
theorem nd_srt {l : List PI} (h : Nd l) : Nd (srt l) := ((srt_perm l).map (fun p : PI => p.a)).nodup_iff.mpr h
theorem mem_srt {l : List PI} {q : PI} : q ∈ srt l ↔ q ∈ l := (srt_perm l).mem_iff
theorem mem_put {l : List PI} {x v : Int} {q : PI} (m : q ∈ put l x v) : q ∈ l ∨ q = ⟨x, v⟩ := by
  unfold put at m
  split at m
  · obtain ⟨z, hz, e⟩ := List.mem_map.mp m
    split at e
    · rename_i h1 h2
      exact .inr (by rw [← e, h2])
    · exact .inl (by rw [← e]; exact hz)
  · rcases List.mem_append.mp m with m | m
    · exact .inl m
    · exact .inr (List.mem_singleton.mp m)
/-! ### sorted(d.items()), d a dict of ints to ints -/
section
open PySem.Spec PyProof.Rows
variable {X : Cx}
/-- many new things are tracked at once -/
theorem inv_many {pins : List (Addr × Obj)} {σ : L2.St} {H H' : Hp} {s : Shared} {h' : Heap} {tk : Nat} {as : List Addr} (I : Inv X pins σ H s) (k : ∀ b o, s.heap.get? b = some o → h'.get? b = some o) (hp : ∀ a ∈ as, s.heap.objs.size ≤ a)
    (p1 : ∀ b, b ∉ as → H' b = H b) (p2 : ∀ b ∈ as, ∀ o, H' b = some o → ObjOk X.prog X.w H' h' b o) : Inv X pins σ H' { s with heap := h', toks := tk } := by
  have old : ∀ b o, s.heap.get? b = some o → b ∉ as := fun b o e z => Nat.lt_irrefl _ (Nat.lt_of_lt_of_le (Heap.lt_size e) (hp b z))
  have trc : ∀ b o, H b = some o → b ∉ as := fun b o e z => by
    have := I.hok.lt e
    exact Nat.lt_irrefl _ (Nat.lt_of_lt_of_le this (hp b z))
  have kp : ∀ b o, H b = some o → H' b = some o := fun b o e => by rw [p1 b (trc b o e)]; exact e
  refine I.un ⟨fun b o q _ _ _ => k b o q, fun b o q _ _ _ => ⟨o.slots, k b o q⟩, fun b o q n _ => by rw [p1 b (old b o q)]; exact n, fun b o q _ => ⟨o, k b o q⟩, fun b xs e => kp b _ e, fun b o u e => kp b _ e, fun b ps e => ⟨#[], by rw [kp b _ e]; simp⟩⟩ fun b o e => ?_
  by_cases m : b ∈ as
  · exact p2 b m o e
  · rw [p1 b m] at e
    exact (I.hok b o e).stay (fun c u _ q => k c u q) (fun c q => kp c _ q) fun c xs q => kp c _ q
/-- the pair that stands at a -/
def pzAt (zs : List (Addr × PI)) (a : Addr) : Option PI := (zs.find? fun z => decide (z.1 = a)).map (·.2)
theorem pzAt_ix : ∀ {zs : List (Addr × PI)}, (zs.map (·.1)).Nodup → ∀ {j : Nat} {z : Addr × PI}, zs[j]? = some z → pzAt zs z.1 = some z.2
  | [], _, j, z, h => by cases h
  | y :: ys, nd, 0, z, h => by
    have e := Option.some.inj h
    subst e
    simp [pzAt]
  | y :: ys, nd, j + 1, z, h => by
    have nd' := List.nodup_cons.mp nd
    have m : z.1 ∈ ys.map (·.1) := List.mem_map.mpr ⟨z, List.mem_of_getElem? (show ys[j]? = some z from h), rfl⟩
    have ih := pzAt_ix nd'.2 (show ys[j]? = some z from h)
    have ne : ¬ y.1 = z.1 := fun e => nd'.1 (by show y.1 ∈ _; rw [e]; exact m)
    unfold pzAt at ih ⊢
    rw [List.find?_cons, decide_eq_false ne]
    exact ih
theorem pzAt_no {zs : List (Addr × PI)} {a : Addr} (h : a ∉ zs.map (·.1)) : pzAt zs a = none := by
  unfold pzAt
  rw [List.find?_eq_none.mpr fun z m e => h (List.mem_map.mpr ⟨z, m, of_decide_eq_true e⟩)]
  rfl
def trk (H : Hp) (B : Addr) (L : HO) (zs : List (Addr × PI)) : Hp := fun b => if b = B then some L else match pzAt zs b with
  | some q => some (.tup [.int q.a, .int q.b])
  | none => H b
def adOf : Value → Addr
  | .ref a => a
  | _ => 0
@[irreducible] def rSortIt : V → Hp → VK → Prop := fun x H Q => ∃ (d : Addr) (l : List PI), x = .ref d ∧ H d = some (.dK (dI l)) ∧
  ∀ (H' : Hp) (p : Addr) (ys : List Addr), Same H H' → H p = none → (∀ t ∈ ys, H t = none) → p ∉ ys → (∀ b, b ≠ p → b ∉ ys → H' b = H b) → H' p = some (.lst (ys.map V.ref)) → All2 (fun t (q : PI) => H' t = some (.tup [.int q.a, .int q.b])) ys (srt l) → Q (.ref p) H'
def tSortIt (te : TE) : TE := fun σ H Q => te σ H fun x H1 => rSortIt x H1 Q
theorem pe_sortedItems {e : Expr} {te : TE} {p apos cpos pos : Pos} (hc : X.calm = true) (he : PE X e te) (hg : Gl X "sorted") (hm : X.mg "sorted" = none) (hv : bootBuiltins "sorted" = some (.builtin "sorted")) (hbase : attributeBase e "items" X.env (eval e X.env) = eval e X.env := by rfl) (hline : (apos.endLine == cpos.line) = true := by rfl)
    (hs : starEach [.Call (.Attribute e "items" apos) [] [] cpos] X.env = (false, eval (.Call (.Attribute e "items" apos) [] [] cpos) X.env) :: starEach [] X.env := by rfl) :
    PE X (.Call (.Name "sorted" p) [.Call (.Attribute e "items" apos) [] [] cpos] [] pos) (tSortIt te) := by
  refine ⟨fun pins s σ H Q I hq => ?_⟩
  refine wpAny_Call_Name_kw (ld_blt I hg hm hv ?_)
  refine PyProof.Rows.callWith_builtin1 ?_ hs rfl
  rw [hs]
  show wpAny _ _ (spliced ((false, eval (.Call (.Attribute e "items" apos) [] [] cpos) X.env) :: backTo pos (starEach [] X.env))) _ _ s
  refine Calls.spliced_cons ?_
  refine wpAny_Call_method (T := "dict") (id := "dict.items") hbase rfl hline F.plainAttrs_dict F.slot_dict_items F.type_dict_items (thn (he.run pins s σ H _ I hq) fun u s1 ⟨x, H1, I1, rx, q⟩ => ?_)
  unfold rSortIt at q
  obtain ⟨d, l, rfl, hd, q⟩ := q
  obtain rfl : u = Value.ref d := rx
  obtain ⟨hz, hs0, vs, kv, hdo⟩ := I1.hok d _ hd
  obtain ⟨ep, hat⟩ := hdo.dictAt
  have lk : (dI l).length = vs.length := Paired.length kv
  have ll : (dI l).length = l.length := by unfold dI; rw [List.length_map]
  refine ⟨hdo.typeIs, hdo.mapOf.noDict, ?_⟩
  show wpAny _ _ (callWith cpos (.builtin "dict.items") [.ref d] [] []) _ X.xe s1
  refine method_meetsIn F.slot_dict_items F.entry_dict_items rfl (PySem.evalArgs_none ⟨rfl, hdo.typeIs, F.args_dict_items_1 _, _, meets_dict_items (mixKind X.prog X.w) d hs0, ⟨vs, hdo⟩, ?_⟩)
  refine Calls.spliced_nil ?_
  have I2 : Inv X pins σ H1 { s1 with heap := s1.heap.push { cls := .type "dict_items", data := .fields #[.ref d] } } := I1.kept (t' := s1.toks) fun b ob q => Heap.get?_push_of_some _ q
  have hB : ((H1 d).isSome) = true := by rw [hd]; rfl
  refine Calls.call_function_entry kind_sorted plain_sorted entry_sorted (args_sorted1 _) (by
    unfold Builtin.«sorted»
    refine wpAny_bind (m := checkCount "sorted" 1 1 _) (wpAny_pure (wpAny_bind (PySem.W.kdx_collect (knd := mixKind X.prog X.w) (kvs := vs) (ep := ep) (I1.ok.hd hc) ⟨_, Heap.get?_push_size _ rfl, rfl, rfl⟩ (hat.push _) (by omega) fun h1 tk as hk hl hG => ?_)))
    refine wpAny_bind (wpAny_newList ?_ (by rw [List.length_map, hl]; omega))
    -- the pairs' tuples: at as
    have nd : as.Nodup := hG.rise.imp fun {a b} h => Nat.ne_of_lt h
    have lz : (as.zip l).map (·.1) = as := List.map_fst_zip (by omega)
    have zx : ∀ (j : Nat) (a : Addr), as[j]? = some a → ∃ (q : PI) (t u : Tok), l[j]? = some q ∧ pzAt (as.zip l) a = some q ∧ h1.get? a = some { cls := .type "tuple", data := .seq #[.int q.a t, .int q.b u] } := fun j a h => by
      obtain ⟨key, k, x, e1, e2, e3⟩ := hG.pairs j a h
      have jl : j < l.length := by have := (List.getElem?_eq_some_iff.mp h).1; omega
      have lj : l[j]? = some l[j] := List.getElem?_eq_getElem jl
      obtain ⟨y, e4, e5, e6⟩ := LiI.paired_get kv (dI_get jl)
      rw [e1] at e4
      have e4 := Option.some.inj e4
      subst e4
      obtain ⟨i, tk1, e7, rfl⟩ | ⟨z, tk1, e7, _⟩ := keyIs_shape (show keyIs k key = true from e2)
      · have e5 : Sum.inl l[j].a = k := e5
        rw [e7] at e5
        have e5 := Sum.inl.inj e5
        subst e5
        obtain ⟨tk2, e6⟩ := (show RelV (.int l[j].b) x from e6)
        subst e6
        exact ⟨l[j], tk1, tk2, lj, pzAt_ix (zs := as.zip l) (by rw [lz]; exact nd) (j := j) (z := (a, l[j])) (List.getElem?_zip_eq_some.mpr ⟨h, lj⟩), e3⟩
      · have e5 : Sum.inl l[j].a = k := e5
        rw [e7] at e5
        cases e5
    have zm : ∀ a ∈ as, ∃ (q : PI) (t u : Tok), pzAt (as.zip l) a = some q ∧ h1.get? a = some { cls := .type "tuple", data := .seq #[.int q.a t, .int q.b u] } := fun a m => by
      obtain ⟨j, hj⟩ := List.getElem?_of_mem m
      obtain ⟨q, t, u, _, h2, h3⟩ := zx j a hj
      exact ⟨q, t, u, h2, h3⟩
    have lm : as.map (fun a => (pzAt (as.zip l) a).getD ⟨0, 0⟩) = l := by
      refine List.ext_getElem? fun j => ?_
      rw [List.getElem?_map]
      cases hj : as[j]? with
      | none =>
        have := List.getElem?_eq_none_iff.mp hj
        exact (List.getElem?_eq_none_iff.mpr (by omega)).symm
      | some a =>
        obtain ⟨q, t, u, h1, h2, _⟩ := zx j a hj
        rw [h1, Option.map_some, h2]; rfl
    generalize ezs : as.zip l = zs at zx zm lm lz
    have s12 : (s1.heap.push { cls := .type "dict_items", data := .fields #[.ref d] }).objs.size ≤ h1.objs.size := by
      have := Heap.lt_size (hk _ _ (Heap.get?_push_size s1.heap rfl))
      rw [Heap.size_push]; exact this
    have Bn : h1.objs.size ∉ as := fun z => Nat.lt_irrefl _ (hG.there z)
    let kk : Value → Int × Int := fun v => (((pzAt zs (adOf v)).getD ⟨0, 0⟩).a, ((pzAt zs (adOf v)).getD ⟨0, 0⟩).b)
    have ho : (h1.push { cls := .type "list", data := .seq (as.map Value.ref).toArray }).get? h1.objs.size = some (seqObj "list" (as.map Value.ref).toArray 0) := Heap.get?_push_size _ rfl
    refine wpAny_bind (wpAny_holding (wpAny_call_entry slot_list_sort ⟨_, ho, rfl⟩ entry_list_sort (SrtO.list_sort_ord (ltv := fun v u => SrtO.lexB (kk v) (kk u)) (SrtO.swo_lex kk) ho (by rw [List.length_map, hl]; omega) (fun h2 => ?_) fun out hso hbo => ⟨_, rfl, wpAny_pure ⟨_, rfl, ?_⟩⟩) (args_list_sort _)))
    · refine SrtO.pairs_sortableO (k := kk) (by omega) (fun v m => ?_) fun o e => ?_
      · obtain ⟨a, ma, rfl⟩ := List.mem_map.mp m
        obtain ⟨q, t, u, h1', h2'⟩ := zm a ma
        refine ⟨a, _, t, u, 0, rfl, Heap.get?_push_of_some _ h2', rfl, ?_⟩
        show _ = Data.seq #[.int ((pzAt zs a).getD ⟨0, 0⟩).a t, .int ((pzAt zs a).getD ⟨0, 0⟩).b u] 0
        rw [h1']
        rfl
      · rw [ho] at e
        cases e
        intro c
        exact absurd (Value.type.inj c) (by decide)
    · have outp : out.Perm (as.map Value.ref) := hbo.perm
      have oe : out = (out.map adOf).map Value.ref := by
        rw [List.map_map]
        refine (List.map_id out).symm.trans (List.map_congr_left fun v m => ?_)
        obtain ⟨a, _, rfl⟩ := List.mem_map.mp (outp.mem_iff.mp m)
        rfl
      have yp : (out.map adOf).Perm as := by
        have := outp.map adOf
        rw [List.map_map] at this
        have e : as.map (adOf ∘ Value.ref) = as := (List.map_congr_left fun a _ => rfl).trans (List.map_id as)
        rw [e] at this; exact this
      generalize out.map adOf = ys at oe yp
      have lo : out.length ≤ sizeLine := by rw [oe, List.length_map, yp.length_eq, hl]; omega
      obtain ⟨ep3, h3B⟩ := sortedHeap_at (vs := as.map Value.ref) (out := out.toArray) ho
      have h3o : ∀ b o, h1.get? b = some o → (sortedHeap (h1.push { cls := .type "list", data := .seq (as.map Value.ref).toArray }) h1.objs.size (as.map Value.ref) out.toArray).get? b = some o := fun b o e => by
        have bl := Heap.lt_size e
        rw [sortedHeap_old (Nat.ne_of_lt bl) (by rw [Heap.size_push]; exact Nat.lt_succ_of_lt bl)]
        exact Heap.get?_push_of_some _ e
      have tB : trk H1 h1.objs.size (.lst (ys.map V.ref)) zs h1.objs.size = some (.lst (ys.map V.ref)) := by unfold trk; rw [if_pos rfl]
      have tT : ∀ a ∈ as, ∀ q, pzAt zs a = some q → trk H1 h1.objs.size (.lst (ys.map V.ref)) zs a = some (.tup [.int q.a, .int q.b]) := fun a m q e => by
        unfold trk
        rw [if_neg (fun z => Bn (by rw [← z]; exact m)), e]
      have tO : ∀ b, b ≠ h1.objs.size → b ∉ as → trk H1 h1.objs.size (.lst (ys.map V.ref)) zs b = H1 b := fun b n m => by
        unfold trk
        rw [if_neg n, pzAt_no (by rw [lz]; exact m)]
      have big : ∀ a ∈ h1.objs.size :: as, (s1.heap.push { cls := .type "dict_items", data := .fields #[.ref d] }).objs.size ≤ a := fun a m => by
        rcases List.mem_cons.mp m with rfl | m
        · exact s12
        · exact Nat.le_of_lt (hG.above a m)
      have J := inv_many (tk := tk) (H' := trk H1 h1.objs.size (.lst (ys.map V.ref)) zs) (h' := sortedHeap (h1.push { cls := .type "list", data := .seq (as.map Value.ref).toArray }) h1.objs.size (as.map Value.ref) out.toArray) (as := h1.objs.size :: as) I2 (fun b o e => h3o b o (hk b o e)) big
          (fun b m => tO b (fun z => m (by rw [z]; exact List.mem_cons_self)) (fun z => m (List.mem_cons_of_mem _ z))) (fun b m o e => by
        by_cases hb : b = h1.objs.size
        · subst hb
          rw [tB] at e
          cases e
          refine ⟨by rw [List.length_map, yp.length_eq, hl]; omega, out, ep3, ?_, h3B⟩
          rw [oe]
          exact LiI.vals_refs ys
        · have m := (List.mem_cons.mp m).resolve_left hb
          obtain ⟨q, t, u, e1, e2⟩ := zm b m
          rw [tT b m q e1] at e
          cases e
          exact ⟨two_le, [.int q.a t, .int q.b u], .cons ⟨_, rfl⟩ (.cons ⟨_, rfl⟩ .nil), ⟨_, h3o b _ e2, rfl, _, rfl⟩⟩)
      have fr1 : ∀ a ∈ h1.objs.size :: as, H1 a = none := fun a m => I2.hok.fresh (big a m)
      have ym : ∀ a, a ∈ ys ↔ a ∈ as := fun a => yp.mem_iff
      refine ⟨.ref h1.objs.size, _, J, rfl, q _ _ ys (fun b o e => ?_) (fr1 _ List.mem_cons_self) (fun t m => fr1 t (List.mem_cons_of_mem _ ((ym t).mp m))) (fun z => Bn ((ym _).mp z)) (fun b n m => tO b n fun z => m ((ym b).mpr z)) tB ?_⟩
      · rw [tO b (fun z => by rw [z, fr1 _ List.mem_cons_self] at e; cases e) (fun z => by rw [fr1 b (List.mem_cons_of_mem _ z)] at e; cases e)]
        exact e
      · have es : ys.map (fun a => (pzAt zs a).getD ⟨0, 0⟩) = srt l := by
          refine srt_of ?_ (by rw [← lm]; exact yp.map _)
          rw [oe] at hso
          have hso := List.pairwise_map.mp hso
          refine List.pairwise_map.mpr (hso.imp fun {x y} h => ?_)
          have h := SrtO.lexB_no.mp h
          exact leP_iff.mpr (by simp only [kk, adOf] at h; omega)
        rw [← es]
        refine ⟨by rw [List.length_map], fun i x y h1 h2 => ?_⟩
        rw [List.getElem?_map, h1] at h2
        cases h2
        have m := (ym x).mp (List.mem_of_getElem? h1)
        obtain ⟨q, t, u, e1, e2⟩ := zm x m
        rw [tT x m q e1]
        show _ = some (HO.tup [V.int ((pzAt zs x).getD ⟨0, 0⟩).a, V.int ((pzAt zs x).getD ⟨0, 0⟩).b])
        rw [e1]
        rfl)
theorem sitems {F H : Hp} {d : Addr} {l : List PI} {Q : VK} (sF : Same F H) (hd : H d = some (.dK (dI l))) (q : ∀ (F' H' : Hp) (p : Addr) (xs : List V), Gr mu0 F H F' H' → Ow H F' H' p (.lst xs) → IsAll F' xs (srt l) → Q (.ref p) H') : rSortIt (.ref d) H Q := by
  unfold rSortIt
  refine ⟨d, l, rfl, hd, fun H' p ys s n nt pn off hp al => ?_⟩
  have fy : ∀ b ∈ ys, F b = none := fun b m => sF.free (nt b m)
  have s' : Same F (fun b => if b ∈ ys then H' b else F b) := fun b o e => by
    by_cases m : b ∈ ys
    · rw [fy b m] at e; cases e
    · simp only [m, if_false]; exact e
  have e2 : ∀ b, b ∈ ys → (if b ∈ ys then H' b else F b) = H' b := fun b m => if_pos m
  refine q (fun b => if b ∈ ys then H' b else F b) H' p (ys.map V.ref) ⟨s', fun b o e => ?_, fun b o e => ?_, fun b o e _ => s b o e, fun b e => s.free e⟩ ⟨n, ?_, hp⟩ ⟨by rw [List.length_map]; exact al.1, fun i x y h1 h2 => ?_⟩
  · by_cases m : b ∈ ys
    · simp only [m, if_true] at e; exact e
    · simp only [m, if_false] at e; exact s b o (sF b o e)
  · by_cases m : b ∈ ys
    · exact .inr (nt b m)
    · simp only [m, if_false] at e; exact .inl e
  · show (if p ∈ ys then H' p else F p) = none
    rw [if_neg pn]; exact sF.free n
  · rw [List.getElem?_map] at h1
    cases e : ys[i]? with
    | none => rw [e] at h1; cases h1
    | some t =>
      rw [e] at h1
      cases h1
      refine ⟨t, _, _, rfl, ?_, rfl, rfl⟩
      show (if t ∈ ys then H' t else F t) = _
      rw [if_pos (List.mem_of_getElem? e)]
      exact al.2 i t y e h2
end
/-! ### sum of a tuple; a tuple not at all or once -/
section
open PySem.Spec PyProof.Rows
variable {X : Cx}
def rSumT (K : PySem.W.Frag) : List V → Hp → VK → Prop := fun vs H Q => ∃ (a : Addr) (ns : List Int), vs = [V.ref a] ∧ SqT K H a (ns.map V.int) ∧ Q (.int ns.sum) H
theorem cr_sumT (hc : X.calm = true) : CallR X (.builtin "sum") (rSumT X.K) := by
  intro pins s σ H vs us Q I r h
  obtain ⟨a, ns, rfl, ht, q⟩ := h
  obtain ⟨its, rv, ⟨o, ho, hcl, n, hd⟩, _⟩ := I.tuple ht
  have hi := rv.ints
  obtain ⟨xs, e⟩ := hi.allInts.items
  have hn : numsOf (intItems xs).toList = ns := by rw [← e]; exact hi.numsOf
  rw [nums_intItems] at hn
  rw [e] at hd
  rw [Vals.ref1 r]
  refine PySem.W.ktm_sumG (I.ok.hd hc) ⟨o, ho, hcl, n, hd⟩ fun h' tk t' hk => ?_
  rw [preSum_eq, List.take_of_length_le (by simp), hn]
  exact ⟨.int _, H, I.kept hk, ⟨_, rfl⟩, q⟩
theorem tup_mul1 (l : Addr) (items : Array Value) (n : Nat) (dd : Option Addr) (sl : Array (Option Value)) (u : Tok) (hne : items.isEmpty = false) :
    Meets (Builtin.«tuple.__mul__» ⟨[.ref l, .int 1 u], []⟩) (fun _ R s => s.heap.get? l = some { cls := .type "tuple", dict := dd, data := .seq items n, slots := sl } ∧ R (.ok (.ret (Value.ref l))) s) :=
  .of_wp fun prog w A R s h => by
    obtain ⟨hp, g, d, tk, os⟩ := s
    obtain ⟨hl, h⟩ := h
    have f1 := AutoSeq1.idx_int
    wp_walk using wpAny_loadPart' hl
    exact ⟨_, rfl, h⟩
theorem tup_mul0 (l : Addr) (items : Array Value) (n : Nat) (dd : Option Addr) (sl : Array (Option Value)) (u : Tok) (hne : items.isEmpty = false) :
    Meets (Builtin.«tuple.__mul__» ⟨[.ref l, .int 0 u], []⟩) (fun _ R s => s.heap.get? l = some { cls := .type "tuple", dict := dd, data := .seq items n, slots := sl } ∧
      R (.ok (.ret (Value.ref s.heap.objs.size))) { s with heap := s.heap.push { cls := Value.type "tuple", data := Data.seq #[] }, toks := s.toks }) :=
  .of_wp fun prog w A R s h => by
    obtain ⟨hp, g, d, tk, os⟩ := s
    obtain ⟨hl, h⟩ := h
    have f1 := AutoSeq1.idx_int
    wp_walk using wpAny_loadPart' hl
    exact ⟨_, rfl, h⟩
def rRep01 (K : PySem.W.Frag) : R2 := fun x y H Q => ∃ l k xs, x = .ref l ∧ y = .int k ∧ SqT K H l xs ∧ xs ≠ [] ∧ ((k = 1 ∧ Q (.ref l) H) ∨ (k = 0 ∧ ∀ p, H p = none → Q (.ref p) (upd H p (.tup []))))
theorem op_rep01 : OpR X (binaryOp .Mult) (rRep01 X.K) := by
  intro pins s σ H x y v u Q I rx ry h
  obtain ⟨l, k, xs, rfl, rfl, hT, hne, h⟩ := h
  cases rx
  obtain ⟨tk, rfl⟩ := ry
  obtain ⟨its, r, ⟨⟨cls, dd, data, sl⟩, ho, hc, n, hd⟩, hs⟩ := I.tuple hT
  simp only at hc hd
  subst hc hd
  have hi : its.toArray.isEmpty = false := by
    cases its with
    | nil => have := r.length; exact absurd (List.eq_nil_of_length_eq_zero this) hne
    | cons a b => rfl
  rcases h with ⟨rfl, q⟩ | ⟨rfl, q⟩
  · refine wpAny_binaryOp_repeat_ref (T := "tuple") (U := "int") (by decide) ⟨_, ho, rfl⟩ (fun s' => typeIs_int s' 1 tk) noFill_tuple_mul F.fills_int_mul F.slot_int_rmul repeat_tuple F.slot_int_index.lookup
      (call_meets F.slot_int_rmul (typeIs_int s 1 tk) F.entry_int_rmul (F.args_int_rmul_2 _ _) (int_rmul_tuple 1 tk l its.toArray n dd sl)
        ⟨ho, rfl, ⟨_, ho, rfl⟩, call_meets F.slot_tuple_mul ⟨_, ho, rfl⟩ F.entry_tuple_mul (F.args_tuple_mul_2 _ _) (tup_mul1 l its.toArray n dd sl tk hi) ⟨ho, ?_⟩⟩)
    exact ⟨.ref l, H, I, rfl, q⟩
  · refine wpAny_binaryOp_repeat_ref (T := "tuple") (U := "int") (by decide) ⟨_, ho, rfl⟩ (fun s' => typeIs_int s' 0 tk) noFill_tuple_mul F.fills_int_mul F.slot_int_rmul repeat_tuple F.slot_int_index.lookup
      (call_meets F.slot_int_rmul (typeIs_int s 0 tk) F.entry_int_rmul (F.args_int_rmul_2 _ _) (int_rmul_tuple 0 tk l its.toArray n dd sl)
        ⟨ho, rfl, ⟨_, ho, rfl⟩, call_meets F.slot_tuple_mul ⟨_, ho, rfl⟩ F.entry_tuple_mul (F.args_tuple_mul_2 _ _) (tup_mul0 l its.toArray n dd sl tk hi) ⟨ho, ?_⟩⟩)
    refine ⟨.ref s.heap.objs.size, _, I.laid (t' := s.toks) (o := .tup []) (fun b ob q => Heap.get?_push_of_some _ q) (Nat.le_refl _) ?_, rfl, q _ (I.hok.fresh (Nat.le_refl _))⟩
    exact ⟨nil_le, _, .nil, IsTup.new _ _⟩
end
/-! slices of tuples, +: the ways -/
@[irreducible] def rSlQ (K : PySem.W.Frag) : V → Option Int → Option Int → Hp → VK → Prop := rSlA K
theorem sl_tupQ {X : Cx} : SlR X (rSlQ X.K) := by
  unfold rSlQ
  exact sl_tupA
@[irreducible] def rCatQ (K : PySem.W.Frag) : R2 := rCatA K
theorem op_catQ {X : Cx} : OpR X (binaryOp .Add) (rCatQ X.K) := by
  unfold rCatQ
  exact op_catA
theorem slA_all {K : PySem.W.Frag} {H : Hp} {a : Addr} {xs : List V} {lo hi : Option Int} {Q : VK} (h : SqT K H a xs) (w : HT.sIx xs.length 0 lo = 0 ∧ HT.sIx xs.length xs.length hi = xs.length) (q : Q (.ref a) H) : rSlQ K (.ref a) lo hi H Q := by
  unfold rSlQ
  exact ⟨a, xs, rfl, h, fun _ => q, fun n => absurd w n⟩
theorem slA_cut {K : PySem.W.Frag} {H : Hp} {a : Addr} {xs : List V} {lo hi : Option Int} {Q : VK} (h : SqT K H a xs) (w : ¬ (HT.sIx xs.length 0 lo = 0 ∧ HT.sIx xs.length xs.length hi = xs.length)) (q : ∀ p, H p = none → Q (.ref p) (upd H p (.tup (cutV xs lo hi)))) : rSlQ K (.ref a) lo hi H Q := by
  unfold rSlQ
  exact ⟨a, xs, rfl, h, fun n => absurd n w, fun _ => q⟩
theorem catA_nil {K : PySem.W.Frag} {H : Hp} {a b : Addr} {ys : List V} {Q : VK} (h : SqT K H a []) (h2 : SqT K H b ys) (l : ys.length ≤ sizeLine) (q : Q (.ref b) H) : rCatQ K (.ref a) (.ref b) H Q := by
  unfold rCatQ
  exact ⟨a, b, [], ys, rfl, rfl, h, h2, by simpa using l, fun _ => q, fun n => absurd rfl n, fun n => absurd rfl n⟩
theorem catA_new {K : PySem.W.Frag} {H : Hp} {a b : Addr} {xs ys : List V} {Q : VK} (h : SqT K H a xs) (h2 : SqT K H b ys) (l : xs.length + ys.length ≤ sizeLine) (n1 : xs ≠ []) (n2 : ys ≠ []) (q : ∀ p, H p = none → Q (.ref p) (upd H p (.tup (xs ++ ys)))) : rCatQ K (.ref a) (.ref b) H Q := by
  unfold rCatQ
  exact ⟨a, b, xs, ys, rfl, rfl, h, h2, l, fun e => absurd e n1, fun _ e => absurd e n2, fun _ _ => q⟩
/-! ### dicts of ints compared, alone and behind two ints in a tuple -/
def sameD (l m : List PI) : Bool := l.length == m.length && l.all fun p => decide (look m p.a = some p.b)
theorem nd_sub_len {α : Type} [DecidableEq α] : ∀ {l m : List α}, l.Nodup → (∀ x ∈ l, x ∈ m) → l.length ≤ m.length
  | [], _, _, _ => Nat.zero_le _
  | x :: l, m, h, s => by
    have hx := s x List.mem_cons_self
    have h' := List.nodup_cons.mp h
    have k := nd_sub_len (l := l) (m := m.erase x) h'.2 fun y hy => (List.mem_erase_of_ne fun e => h'.1 (by rw [← e]; exact hy)).mpr (s y (List.mem_cons_of_mem _ hy))
    rw [List.length_erase_of_mem hx] at k
    have := List.length_pos_of_mem hx
    rw [List.length_cons]
    omega
theorem sameD_iff {l m : List PI} (hl : Nd l) (hm : Nd m) : sameD l m = true ↔ ∀ x, look l x = look m x := by
  unfold sameD
  rw [Bool.and_eq_true, beq_iff_eq, List.all_eq_true]
  constructor
  · rintro ⟨e, h⟩ x
    have sub : ∀ y ∈ l.map (·.a), y ∈ m.map (·.a) := fun y hy => by
      obtain ⟨p, hp, rfl⟩ := List.mem_map.mp hy
      have := of_decide_eq_true (h p hp)
      exact List.mem_map.mpr ⟨_, mem_look this, rfl⟩
    cases f : look l x with
    | some v => exact (of_decide_eq_true (h ⟨x, v⟩ (mem_look f))).symm
    | none =>
      cases g : look m x with
      | none => rfl
      | some v =>
        exfalso
        have hx : x ∈ m.map (·.a) := List.mem_map.mpr ⟨_, mem_look g, rfl⟩
        have nx := look_none.mp f
        have k := nd_sub_len (l := x :: l.map fun p : PI => p.a) (m := m.map fun p : PI => p.a) (List.nodup_cons.mpr ⟨nx, hl⟩) fun y hy => by
          rcases List.mem_cons.mp hy with rfl | hy
          · exact hx
          · exact sub y hy
        rw [List.length_cons, List.length_map, List.length_map] at k
        omega
  · intro h
    have a : ∀ {l m : List PI}, Nd l → (∀ x, look l x = look m x) → ∀ y ∈ l.map (·.a), y ∈ m.map (·.a) := fun {l m} hl h y hy => by
      obtain ⟨p, hp, rfl⟩ := List.mem_map.mp hy
      have := look_mem hl hp
      rw [h] at this
      exact List.mem_map.mpr ⟨_, mem_look this, rfl⟩
    refine ⟨?_, fun p hp => decide_eq_true (by rw [← h]; exact look_mem hl hp)⟩
    have k1 := nd_sub_len hl (a hl h)
    have k2 := nd_sub_len hm (a hm fun x => (h x).symm)
    rw [List.length_map, List.length_map] at k1 k2
    omega
theorem sameD_self {l : List PI} (hl : Nd l) : sameD l l = true := (sameD_iff hl hl).mpr fun _ => rfl
theorem dI_inj : ∀ {l m : List PI}, dI l = dI m → l = m
  | [], [], _ => rfl
  | [], _ :: _, h => by cases h
  | _ :: _, [], h => by cases h
  | p :: l, q :: m, h => by
    obtain ⟨a, b⟩ := p
    obtain ⟨a', b'⟩ := q
    have h : (Sum.inl a, V.int b) :: dI l = (Sum.inl a', V.int b') :: dI m := h
    injection h with h1 h2
    cases h1
    rw [dI_inj h2]
section
open PySem.Spec PyProof.Rows
variable {X : Cx}
def eK (l m : List PI) : Key → Bool
  | .inl i => decide (look l i = look m i)
  | .inr _ => false
theorem kv_mem : ∀ {l : List PI} {va : List (Key × Value)}, KV (dI l) va → ∀ {k : Key} {v : Value}, (k, v) ∈ va → ∃ p ∈ l, k = Sum.inl p.a ∧ ∃ t, v = .int p.b t
  | [], va, r, k, v, h => by
    cases r
    cases h
  | p :: l, va, r, k, v, h => by
    cases r with
    | @cons _ q _ qs hr t =>
      obtain ⟨h1, h2⟩ := hr
      rcases List.mem_cons.mp h with e | h
      · subst e
        exact ⟨p, List.mem_cons_self, h1.symm, h2⟩
      · obtain ⟨p', m, e, f⟩ := kv_mem (l := l) t h
        exact ⟨p', List.mem_cons_of_mem _ m, e, f⟩
theorem kv_all (f : Key → Bool) : ∀ {l : List PI} {va : List (Key × Value)}, KV (dI l) va → (va.all fun p => f p.1) = l.all fun p => f (Sum.inl p.a)
  | [], va, r => by
    cases r
    rfl
  | p :: l, va, r => by
    cases r with
    | @cons _ q _ qs hr t =>
      obtain ⟨h1, _⟩ := hr
      have h1 : Sum.inl p.a = q.1 := h1
      rw [List.all_cons, List.all_cons, kv_all f (l := l) t, ← h1]
theorem kv_at {m : List PI} {vb : List (Key × Value)} (r : KV (dI m) vb) (i : Int) : (look m i = none ∧ valueAt vb (Sum.inl i : Key) = none) ∨ ∃ z t, look m i = some z ∧ valueAt vb (Sum.inl i : Key) = some (.int z t) := by
  have h := r.val (Sum.inl i)
  rw [dI_val] at h
  cases e : look m i with
  | none =>
    rw [e] at h
    cases f : valueAt vb (Sum.inl i : Key) with
    | none => exact .inl ⟨rfl, rfl⟩
    | some y => rw [f] at h; cases h
  | some z =>
    rw [e] at h
    cases f : valueAt vb (Sum.inl i : Key) with
    | none => rw [f] at h; cases h
    | some y =>
      rw [f] at h
      obtain ⟨t, rfl⟩ : ∃ t, y = Value.int z t := h
      exact .inr ⟨z, t, rfl, rfl⟩
theorem leaf_int {s : Shared} {n : Nat} {i j : Int} {t u : Tok} : PySem.W.EqTree X.prog X.w s n (.int i t) (.int j u) (decide (i = j)) := by
  refine .leaf fun A _ => ?_
  have e : decide (i = j) = (i == j) := by
    rw [Bool.eq_iff_iff, decide_eq_true_iff, beq_iff_eq]
  rw [e]
  exact SeqAt.EqAt.int_int _ _ _ _
theorem dict_leaf {s : Shared} {l m : List PI} {va vb : List (Key × Value)} (nd : Nd l) (ra : KV (dI l) va) (rb : KV (dI m) vb) : ∀ k v y, (k, v) ∈ va → valueAt vb k = some y → PySem.W.EqTree X.prog X.w s 0 v y (eK l m k) := by
  intro k v y hm hv
  obtain ⟨p, hp, rfl, t, rfl⟩ := kv_mem ra hm
  rcases kv_at rb p.a with ⟨_, f⟩ | ⟨z, u, e, f⟩
  · rw [f] at hv; cases hv
  · rw [f] at hv
    cases hv
    have e2 : eK l m (Sum.inl p.a) = decide (p.b = z) := by
      show decide (look l p.a = look m p.a) = _
      rw [look_mem nd hp, e, Bool.eq_iff_iff, decide_eq_true_iff, decide_eq_true_iff]
      exact ⟨Option.some.inj, fun h => by rw [h]⟩
    rw [e2]
    exact leaf_int
theorem same_all {l m : List PI} {va vb : List (Key × Value)} (nd : Nd l) (ra : KV (dI l) va) (rb : KV (dI m) vb) : (va.length == vb.length && va.all fun p => (valueAt vb p.1).isSome && eK l m p.1) = sameD l m := by
  have el : va.length = l.length := by rw [← ra.length]; unfold dI; rw [List.length_map]
  have em : vb.length = m.length := by rw [← rb.length]; unfold dI; rw [List.length_map]
  unfold sameD
  rw [el, em]
  have e := kv_all (fun k => (valueAt vb k).isSome && eK l m k) ra
  rw [e]
  congr 1
  rw [Bool.eq_iff_iff, List.all_eq_true, List.all_eq_true]
  have key : ∀ p ∈ l, ((valueAt vb (Sum.inl p.a : Key)).isSome && eK l m (Sum.inl p.a)) = decide (look m p.a = some p.b) := fun p hp => by
    show ((valueAt vb (Sum.inl p.a : Key)).isSome && decide (look l p.a = look m p.a)) = _
    rw [look_mem nd hp]
    rcases kv_at rb p.a with ⟨e, f⟩ | ⟨z, u, e, f⟩
    · rw [e, f]; rfl
    · rw [e, f]
      show (true && decide (some p.b = some z)) = decide (some z = some p.b)
      rw [Bool.true_and, Bool.eq_iff_iff, decide_eq_true_iff, decide_eq_true_iff]
      exact eq_comm
  exact ⟨fun h p hp => by rw [← key p hp]; exact h p hp, fun h p hp => by rw [key p hp]; exact h p hp⟩
theorem tri {a b c : V} {us : List Value} (r : Vals [a, b, c] us) : ∃ u1 u2 u3, us = [u1, u2, u3] ∧ RelV a u1 ∧ RelV b u2 ∧ RelV c u3 := by
  cases r with
  | cons h1 r =>
    cases r with
    | cons h2 r =>
      cases r with
      | cons h3 r =>
        cases r
        exact ⟨_, _, _, rfl, h1, h2, h3⟩
/-- d == e, dicts of ints -/
def rEqDi : R2 := fun x y H Q => ∃ a b l m, x = .ref a ∧ y = .ref b ∧ H a = some (.dK (dI l)) ∧ H b = some (.dK (dI m)) ∧ Nd l ∧ Q (.bl (sameD l m)) H
theorem op_eqDi (hu : X.A.units + 64 < cLine) : OpR X (compareOp .Eq) rEqDi := by
  intro pins s σ H x y v u Q I rx ry h
  obtain ⟨a, b, l, m, rfl, rfl, ea, eb, nd, q⟩ := h
  obtain rfl : v = Value.ref a := rx
  obtain rfl : u = Value.ref b := ry
  obtain ⟨_, ya, va, ra, da⟩ := (show ObjOk X.prog X.w H s.heap a (.dK (dI l)) from I.hok a _ ea)
  obtain ⟨_, yb, vb, rb, db⟩ := (show ObjOk X.prog X.w H s.heap b (.dK (dI m)) from I.hok b _ eb)
  exact PySem.W.eq_dictsT (knd := mixKind X.prog X.w) (n := 0) (e := eK l m) ya yb da db (dict_leaf nd ra rb) (by omega) (fin_bl I q (same_all nd ra rb).symm)
/-- (r, s, d) == (r', s', d') -/
def rEqTD : R2 := fun x y H Q => ∃ a b r s d l r' s' d' m, x = .ref a ∧ y = .ref b ∧ H a = some (.tup [.int r, .int s, .ref d]) ∧ H b = some (.tup [.int r', .int s', .ref d']) ∧ H d = some (.dK (dI l)) ∧ H d' = some (.dK (dI m)) ∧ Nd l ∧ Q (.bl (decide (r = r') && decide (s = s') && sameD l m)) H
theorem op_eqTD (hu : X.A.units + 64 < cLine) : OpR X (compareOp .Eq) rEqTD := by
  intro pins s σ H x y v u Q I rx ry h
  obtain ⟨a, b, r, z, d, l, r', z', d', m, rfl, rfl, ea, eb, ed, ed', nd, q⟩ := h
  obtain rfl : v = Value.ref a := rx
  obtain rfl : u = Value.ref b := ry
  obtain ⟨_, yd, va, ra, dd⟩ := (show ObjOk X.prog X.w H s.heap d (.dK (dI l)) from I.hok d _ ed)
  obtain ⟨_, yd', vb, rb, dd'⟩ := (show ObjOk X.prog X.w H s.heap d' (.dK (dI m)) from I.hok d' _ ed')
  obtain ⟨its, r1, p1, _⟩ := I.tuple (SqT.of (K := X.K) ea)
  obtain ⟨its2, r2, p2, _⟩ := I.tuple (SqT.of (K := X.K) eb)
  obtain ⟨u1, u2, u3, rfl, ⟨t1, rfl⟩, ⟨t2, rfl⟩, e3⟩ := tri r1
  obtain ⟨w1, w2, w3, rfl, ⟨t1', rfl⟩, ⟨t2', rfl⟩, e3'⟩ := tri r2
  obtain rfl : u3 = Value.ref d := e3
  obtain rfl : w3 = Value.ref d' := e3'
  refine PySem.W.eq_tuplesT (n := 1) (e := fun j => match j with | 0 => decide (r = r') | 1 => decide (z = z') | _ => sameD l m) p1 p2 (fun j h1 h2 => ?_) (by omega) (fin_bl I q ?_)
  · match j, h1, h2 with
    | 0, _, _ => exact leaf_int
    | 1, _, _ => exact leaf_int
    | 2, _, _ =>
      by_cases e : d = d'
      · subst e
        rw [ed] at ed'
        have e2 : l = m := dI_inj (by injection ed' with ed'; injection ed')
        subst e2
        show PySem.W.EqTree X.prog X.w s 1 (.ref d) (.ref d) (sameD l l)
        rw [sameD_self nd]
        exact .same
      · have k := PySem.W.EqTree.dicts (prog := X.prog) (w := X.w) (knd := mixKind X.prog X.w) (n := 0) (e := eK l m) e yd yd' dd dd' (dict_leaf nd ra rb)
        rw [same_all nd ra rb] at k
        exact k
  · show _ = (([0, 1, 2].all _) && true)
    simp [List.all_cons, Bool.and_assoc]
end
/-! ### (r, s, d) != (r', s', d') -/
section
open PySem.SeqAt PySem.Calls PyProof.Rows PyProof.V PySem.Spec MeetsSeq MeetsSeq2 MeetsSeq3 SeqRoads2
variable {prog : Program} {w : World}
theorem ne_tup_in (p q : Addr) (xs ys : Array Value) (k m : Nat) (dx dy : Option Addr) (sx sy : Array (Option Value)) (f : Nat → Bool) :
    MeetsIn prog w (Builtin.«tuple.__ne__» ⟨[.ref p, .ref q], []⟩) (fun A R s => s.heap.get? p = some { cls := .type "tuple", dict := dx, data := .seq xs k, slots := sx } ∧ s.heap.get? q = some { cls := .type "tuple", dict := dy, data := .seq ys m, slots := sy } ∧
      (∀ j (lx : j < xs.size) (ly : j < ys.size), EqIn prog w A.in1 s xs[j] ys[j] (f j)) ∧ R (.ok (.ret (.bool (!((List.range (min xs.size ys.size)).all f && xs.size == ys.size))))) s) :=
  .of_wp fun A R s z => by
    obtain ⟨a1, a2, a3, a4, a5⟩ := s
    obtain ⟨gp, gq, tr, ret⟩ := z
    have sub := AutoSeq1.sub_tuple_tuple
    have len : (xs.toList.zip ys.toList).length = min xs.size ys.size := by simp
    wp_walk using AutoSeq1.wpAny_loadPart' gp, AutoSeq1.wpAny_loadPart' gq, wpAny_forIn_list _ (fun todo st s' => st.1 = none ∧ s' = ⟨a1, a2, a3, a4, a5⟩ ∧ ∃ i, todo = (xs.toList.zip ys.toList).drop i ∧ R (.ok (.ret (.bool (!(((List.range (min xs.size ys.size)).drop i).all f && xs.size == ys.size))))) ⟨a1, a2, a3, a4, a5⟩) _
    case turn =>
      rintro ⟨y, x⟩ todo st s' ⟨no, rfl, i, here, ans⟩
      have il : i < (xs.toList.zip ys.toList).length := by
        by_cases le : (xs.toList.zip ys.toList).length ≤ i
        · rw [List.drop_of_length_le le] at here
          cases here
        · omega
      have im : i < min xs.size ys.size := by rw [← len]; exact il
      have ix : i < xs.size := by omega
      have iy : i < ys.size := by omega
      rw [List.drop_eq_getElem_cons il] at here
      injection here with pair left
      obtain rfl : y = xs[i] := by
        have z := congrArg Prod.fst pair
        simpa using z
      obtain rfl : x = ys[i] := by
        have z := congrArg Prod.snd pair
        simpa using z
      have cut : (List.range (min xs.size ys.size)).drop i = i :: (List.range (min xs.size ys.size)).drop (i + 1) := by
        simp [List.drop_eq_getElem_cons, im]
      rw [cut, List.all_cons] at ans
      refine wpAny_bind (tr i ix iy _ _ ?_)
      cases yes : f i with
      | true =>
        rw [yes] at ans
        wp_walk
        exact ⟨rfl, rfl, i + 1, left, by simpa using ans⟩
      | false =>
        rw [yes] at ans
        wp_walk
        exact ⟨_, rfl, by simpa using ans⟩
    case fin =>
      rintro ⟨b1, b2⟩ s' ⟨no, rfl, i, here, ans⟩
      simp only at no
      subst no
      have ge : min xs.size ys.size ≤ i := by
        by_cases il : i < (xs.toList.zip ys.toList).length
        · rw [List.drop_eq_getElem_cons il] at here
          cases here
        · rw [← len]; omega
      rw [List.drop_of_length_le (by simpa using ge)] at ans
      wp_walk
      exact ⟨_, rfl, by simpa [Builtin.Tuple.tupleCompareSizes, bne] using ans⟩
    case h =>
      exact ⟨rfl, rfl, 0, rfl, by simpa using ret⟩
theorem ne_tup_rc {A : Around} {s : Shared} {E : Value → Shared → Prop} {p q : Addr} {xs ys : Array Value} {f : Nat → Bool} {Q : Value → Shared → Prop} (tp : s.heap.IsTuple p xs) (tq : s.heap.IsTuple q ys) (room : A.units < cLine)
    (tr : ∀ j (lx : j < xs.size) (ly : j < ys.size), EqIn prog w A.in1 s xs[j] ys[j] (f j)) (ret : Q (.bool (!((List.range (min xs.size ys.size)).all f && xs.size == ys.size))) s) : wpAny (model prog w) A (richCompare .NotEq (.ref p) (.ref q)) Q E s := by
  obtain ⟨⟨c1, d1, t1, sl1⟩, op, e1, n1, f1⟩ := id tp
  obtain ⟨⟨c2, d2, t2, sl2⟩, oq, e2, n2, f2⟩ := id tq
  simp only at e1 f1 e2 f2
  subst e1 f1 e2 f2
  exact wpAny_richCompare_same_room (T := "tuple") (op := .NotEq) ⟨_, op, rfl⟩ ⟨_, oq, rfl⟩ F.slot_tuple_ne (call_meetsIn F.slot_tuple_ne ⟨_, op, rfl⟩ F.entry_tuple_ne (F.args_tuple_ne_2 _ _) (ne_tup_in p q xs ys n1 n2 d1 d2 sl1 sl2 f) ⟨op, oq, tr, ⟨(fun z => nomatch z), ret⟩⟩) room
end
section
open PySem.Spec PyProof.Rows
variable {X : Cx}
def rNeTD : R2 := fun x y H Q => ∃ a b r s d l r' s' d' m, x = .ref a ∧ y = .ref b ∧ H a = some (.tup [.int r, .int s, .ref d]) ∧ H b = some (.tup [.int r', .int s', .ref d']) ∧ H d = some (.dK (dI l)) ∧ H d' = some (.dK (dI m)) ∧ Nd l ∧ Q (.bl (!(decide (r = r') && decide (s = s') && sameD l m))) H
theorem op_neTD (hu : X.A.units + 64 < cLine) : OpR X (compareOp .NotEq) rNeTD := by
  intro pins s σ H x y v u Q I rx ry h
  obtain ⟨a, b, r, z, d, l, r', z', d', m, rfl, rfl, ea, eb, ed, ed', nd, q⟩ := h
  obtain rfl : v = Value.ref a := rx
  obtain rfl : u = Value.ref b := ry
  obtain ⟨_, yd, va, ra, dd⟩ := (show ObjOk X.prog X.w H s.heap d (.dK (dI l)) from I.hok d _ ed)
  obtain ⟨_, yd', vb, rb, dd'⟩ := (show ObjOk X.prog X.w H s.heap d' (.dK (dI m)) from I.hok d' _ ed')
  obtain ⟨its, r1, p1, _⟩ := I.tuple (SqT.of (K := X.K) ea)
  obtain ⟨its2, r2, p2, _⟩ := I.tuple (SqT.of (K := X.K) eb)
  obtain ⟨u1, u2, u3, rfl, ⟨t1, rfl⟩, ⟨t2, rfl⟩, e3⟩ := tri r1
  obtain ⟨w1, w2, w3, rfl, ⟨t1', rfl⟩, ⟨t2', rfl⟩, e3'⟩ := tri r2
  obtain rfl : u3 = Value.ref d := e3
  obtain rfl : w3 = Value.ref d' := e3'
  have tree : ∀ j (h1 : j < 3) (h2 : j < 3), PySem.W.EqTree X.prog X.w s 1 (#[Value.int r t1, Value.int z t2, Value.ref d][j]) (#[Value.int r' t1', Value.int z' t2', Value.ref d'][j]) ((fun j => match j with | 0 => decide (r = r') | 1 => decide (z = z') | _ => sameD l m) j) := fun j h1 h2 => by
    match j, h1, h2 with
    | 0, _, _ => exact leaf_int
    | 1, _, _ => exact leaf_int
    | 2, _, _ =>
      by_cases e : d = d'
      · subst e
        rw [ed] at ed'
        have e2 : l = m := dI_inj (by injection ed' with ed'; injection ed')
        subst e2
        show PySem.W.EqTree X.prog X.w s 1 (.ref d) (.ref d) (sameD l l)
        rw [sameD_self nd]
        exact .same
      · have k := PySem.W.EqTree.dicts (prog := X.prog) (w := X.w) (knd := mixKind X.prog X.w) (n := 0) (e := eK l m) e yd yd' dd dd' (dict_leaf nd ra rb)
        rw [same_all nd ra rb] at k
        exact k
  refine ne_tup_rc p1 p2 (by omega) (fun j h1 h2 => (tree j h1 h2).at X.A.in1 (by show X.A.units + 1 + 1 < cLine; omega)) (fin_bl I q ?_)
  show _ = !(([0, 1, 2].all _) && true)
  simp [List.all_cons, Bool.and_assoc]
end
def top (i : Nat) : Stmt := PySem.Challenge.pw_endnever_k28_where_two_part.main.body.getD i (.Pass ⟨0, 0, 0, 0⟩)
abbrev s_L_mixed : Stmt := top 14
abbrev N_L_mixed : List Str := ["_law_cell", "_law_k", "_law_rest", "_law_number"]
theorem sc_L_mixed : FnScope ["_law_cell", "_law_k", "_law_rest", "_law_number"] ["_law_cell", "_law_k"] (defScope s_L_mixed) := ⟨rfl, rfl, rfl, by decide +kernel, rfl, by decide +kernel, by decide +kernel⟩
abbrev s_L_purse : Stmt := top 15
abbrev N_L_purse : List Str := ["_law_script", "_law_cells", "_law_number", "_law_k"]
theorem sc_L_purse : FnScope ["_law_script", "_law_cells", "_law_number", "_law_k"] ["_law_script"] (defScope s_L_purse) := ⟨rfl, rfl, rfl, by decide +kernel, rfl, by decide +kernel, by decide +kernel⟩
abbrev s_L_draw : Stmt := top 16
abbrev N_L_draw : List Str := ["_law_purse_here", "_law_out_of", "_law_drawn"]
theorem sc_L_draw : FnScope ["_law_purse_here", "_law_out_of", "_law_drawn"] ["_law_purse_here", "_law_out_of"] (defScope s_L_draw) := ⟨rfl, rfl, rfl, by decide +kernel, rfl, by decide +kernel, by decide +kernel⟩
abbrev s_L_machine : Stmt := top 17
abbrev N_L_machine : List Str := ["_law_purse_here", "_law_rows", "_law_signs", "_law_kind", "_law_found", "_law_k", "_law_row", "_law_j", "_law_entry"]
theorem sc_L_machine : FnScope ["_law_purse_here", "_law_rows", "_law_signs", "_law_kind", "_law_found", "_law_k", "_law_row", "_law_j", "_law_entry"] ["_law_purse_here"] (defScope s_L_machine) := ⟨rfl, rfl, rfl, by decide +kernel, rfl, by decide +kernel, by decide +kernel⟩
abbrev s_L_late : Stmt := top 19
abbrev N_L_late : List Str := ["_law_purse_here", "_law_found", "_law_kind", "_law_row"]
theorem sc_L_late : FnScope ["_law_purse_here", "_law_found", "_law_kind", "_law_row"] ["_law_purse_here"] (defScope s_L_late) := ⟨rfl, rfl, rfl, by decide +kernel, rfl, by decide +kernel, by decide +kernel⟩
abbrev s_L_led : Stmt := top 18
abbrev N_L_led : List Str := ["_law_purse_here", "_law_signs", "_law_way", "_law_long", "_law_rows", "_law_found", "_law_k", "_law_row", "_law_j"]
theorem sc_L_led : FnScope ["_law_purse_here", "_law_signs", "_law_way", "_law_long", "_law_rows", "_law_found", "_law_k", "_law_row", "_law_j"] ["_law_purse_here"] (defScope s_L_led) := ⟨rfl, rfl, rfl, by decide +kernel, rfl, by decide +kernel, by decide +kernel⟩
abbrev s_L_any : Stmt := top 20
abbrev N_L_any : List Str := ["_law_purse_here"]
theorem sc_L_any : FnScope ["_law_purse_here"] ["_law_purse_here"] (defScope s_L_any) := ⟨rfl, rfl, rfl, by decide +kernel, rfl, by decide +kernel, by decide +kernel⟩
abbrev s_L_other : Stmt := top 23
abbrev N_L_other : List Str := ["_law_purse_here", "_law_machine_here", "_law_found", "_law_row", "_law_kind", "_law_at", "_law_spot", "_law_entry"]
theorem sc_L_other : FnScope ["_law_purse_here", "_law_machine_here", "_law_found", "_law_row", "_law_kind", "_law_at", "_law_spot", "_law_entry"] ["_law_purse_here", "_law_machine_here"] (defScope s_L_other) := ⟨rfl, rfl, rfl, by decide +kernel, rfl, by decide +kernel, by decide +kernel⟩
abbrev s_L_walk : Stmt := top 21
abbrev N_L_walk : List Str := ["_law_machine_here", "_law_most", "_law_signs", "_law_row", "_law_place", "_law_found", "_law_entry"]
theorem sc_L_walk : FnScope ["_law_machine_here", "_law_most", "_law_signs", "_law_row", "_law_place", "_law_found", "_law_entry"] ["_law_machine_here", "_law_most"] (defScope s_L_walk) := ⟨rfl, rfl, rfl, by decide +kernel, rfl, by decide +kernel, by decide +kernel⟩
abbrev s_L_due : Stmt := top 24
abbrev N_L_due : List Str := ["_law_one", "_law_other_here", "_law_most", "_law_here", "_law_there", "_law_moment"]
theorem sc_L_due : FnScope ["_law_one", "_law_other_here", "_law_most", "_law_here", "_law_there", "_law_moment"] ["_law_one", "_law_other_here", "_law_most"] (defScope s_L_due) := ⟨rfl, rfl, rfl, by decide +kernel, rfl, by decide +kernel, by decide +kernel⟩
abbrev s_is_entry : Stmt := top 6
abbrev N_is_entry : List Str := ["entry", "rows", "signs"]
theorem sc_is_entry : FnScope ["entry", "rows", "signs"] ["entry", "rows", "signs"] (defScope s_is_entry) := ⟨rfl, rfl, rfl, by decide +kernel, rfl, by decide +kernel, by decide +kernel⟩
abbrev s_is_machine : Stmt := top 7
abbrev N_is_machine : List Str := ["machine", "rows", "signs", "row", "entry"]
theorem sc_is_machine : FnScope ["machine", "rows", "signs", "row", "entry"] ["machine"] (defScope s_is_machine) := ⟨rfl, rfl, rfl, by decide +kernel, rfl, by decide +kernel, by decide +kernel⟩
abbrev s_must_machine : Stmt := top 8
abbrev N_must_machine : List Str := ["machine"]
theorem sc_must_machine : FnScope ["machine"] ["machine"] (defScope s_must_machine) := ⟨rfl, rfl, rfl, by decide +kernel, rfl, by decide +kernel, by decide +kernel⟩
abbrev s_Goer_init : Stmt := inClass (top 10) 0
abbrev N_Goer_init : List Str := ["self", "machine", "setup"]
theorem sc_Goer_init : FnScope ["self", "machine", "setup"] ["self", "machine", "setup"] (defScope s_Goer_init) := ⟨rfl, rfl, rfl, by decide +kernel, rfl, by decide +kernel, by decide +kernel⟩
abbrev s_Goer_entry : Stmt := inClass (top 10) 1
abbrev N_Goer_entry : List Str := ["self"]
theorem sc_Goer_entry : FnScope ["self"] ["self"] (defScope s_Goer_entry) := ⟨rfl, rfl, rfl, by decide +kernel, rfl, by decide +kernel, by decide +kernel⟩
abbrev s_Goer_step : Stmt := inClass (top 10) 2
abbrev N_Goer_step : List Str := ["self", "entry"]
theorem sc_Goer_step : FnScope ["self", "entry"] ["self"] (defScope s_Goer_step) := ⟨rfl, rfl, rfl, by decide +kernel, rfl, by decide +kernel, by decide +kernel⟩
abbrev s_told_strip : Stmt := top 9
abbrev N_told_strip : List Str := ["signs", "place", "sign"]
theorem sc_told_strip : FnScope ["signs", "place", "sign"] ["signs"] (defScope s_told_strip) := ⟨rfl, rfl, rfl, by decide +kernel, rfl, by decide +kernel, by decide +kernel⟩
abbrev s_Goer_setup : Stmt := inClass (top 10) 3
abbrev N_Goer_setup : List Str := ["self"]
theorem sc_Goer_setup : FnScope ["self"] ["self"] (defScope s_Goer_setup) := ⟨rfl, rfl, rfl, by decide +kernel, rfl, by decide +kernel, by decide +kernel⟩
abbrev s_parts_from : Stmt := top 12
abbrev N_parts_from : List Str := ["one", "other", "most", "here", "there", "goes"]
theorem sc_parts_from : FnScope ["one", "other", "most", "here", "there", "goes"] ["one", "other", "most"] (defScope s_parts_from) := ⟨rfl, rfl, rfl, by decide +kernel, rfl, by decide +kernel, by decide +kernel⟩
abbrev s_law : Stmt := top 25
abbrev N_law : List Str := ["_law_script", "_law_purse_here", "_law_machine_here", "_law_k", "_law_other_here", "_law_kept", "_law_row", "_law_most", "_law_due_here"]
theorem sc_law : FnScope ["_law_script", "_law_purse_here", "_law_machine_here", "_law_k", "_law_other_here", "_law_kept", "_law_row", "_law_most", "_law_due_here"] ["_law_script"] (defScope s_law) := ⟨rfl, rfl, rfl, by decide +kernel, rfl, by decide +kernel, by decide +kernel⟩
/-- what the top has written: where each def stands, what the names hold -/
structure Tx (K : PySem.W.Frag) (mg : Str → Option Value) where
  a_L_mixed : Addr
  fd_L_mixed : FuncData
  F_L_mixed : Fun K "_law_mixed" "_law_mixed" s_L_mixed a_L_mixed fd_L_mixed
  b_L_mixed : Binds K fd_L_mixed ["_law_cell", "_law_k"] []
  m_L_mixed : mg "_law_mixed" = some (.ref a_L_mixed)
  a_L_purse : Addr
  fd_L_purse : FuncData
  F_L_purse : Fun K "_law_purse" "_law_purse" s_L_purse a_L_purse fd_L_purse
  b_L_purse : Binds K fd_L_purse ["_law_script"] []
  m_L_purse : mg "_law_purse" = some (.ref a_L_purse)
  a_L_draw : Addr
  fd_L_draw : FuncData
  F_L_draw : Fun K "_law_draw" "_law_draw" s_L_draw a_L_draw fd_L_draw
  b_L_draw : Binds K fd_L_draw ["_law_purse_here", "_law_out_of"] []
  m_L_draw : mg "_law_draw" = some (.ref a_L_draw)
  a_L_machine : Addr
  fd_L_machine : FuncData
  F_L_machine : Fun K "_law_machine" "_law_machine" s_L_machine a_L_machine fd_L_machine
  b_L_machine : Binds K fd_L_machine ["_law_purse_here"] []
  m_L_machine : mg "_law_machine" = some (.ref a_L_machine)
  a_L_late : Addr
  fd_L_late : FuncData
  F_L_late : Fun K "_law_late" "_law_late" s_L_late a_L_late fd_L_late
  b_L_late : Binds K fd_L_late ["_law_purse_here"] []
  m_L_late : mg "_law_late" = some (.ref a_L_late)
  a_L_led : Addr
  fd_L_led : FuncData
  F_L_led : Fun K "_law_led" "_law_led" s_L_led a_L_led fd_L_led
  b_L_led : Binds K fd_L_led ["_law_purse_here"] []
  m_L_led : mg "_law_led" = some (.ref a_L_led)
  a_L_any : Addr
  fd_L_any : FuncData
  F_L_any : Fun K "_law_any" "_law_any" s_L_any a_L_any fd_L_any
  b_L_any : Binds K fd_L_any ["_law_purse_here"] []
  m_L_any : mg "_law_any" = some (.ref a_L_any)
  a_L_other : Addr
  fd_L_other : FuncData
  F_L_other : Fun K "_law_other" "_law_other" s_L_other a_L_other fd_L_other
  b_L_other : Binds K fd_L_other ["_law_purse_here", "_law_machine_here"] []
  m_L_other : mg "_law_other" = some (.ref a_L_other)
  a_L_walk : Addr
  fd_L_walk : FuncData
  F_L_walk : Fun K "_law_walk" "_law_walk" s_L_walk a_L_walk fd_L_walk
  b_L_walk : Binds K fd_L_walk ["_law_machine_here", "_law_most"] []
  m_L_walk : mg "_law_walk" = some (.ref a_L_walk)
  a_L_due : Addr
  fd_L_due : FuncData
  F_L_due : Fun K "_law_due" "_law_due" s_L_due a_L_due fd_L_due
  b_L_due : Binds K fd_L_due ["_law_one", "_law_other_here", "_law_most"] []
  m_L_due : mg "_law_due" = some (.ref a_L_due)
  a_is_entry : Addr
  fd_is_entry : FuncData
  F_is_entry : Fun K "is_entry" "is_entry" s_is_entry a_is_entry fd_is_entry
  b_is_entry : Binds K fd_is_entry ["entry", "rows", "signs"] []
  m_is_entry : mg "is_entry" = some (.ref a_is_entry)
  a_is_machine : Addr
  fd_is_machine : FuncData
  F_is_machine : Fun K "is_machine" "is_machine" s_is_machine a_is_machine fd_is_machine
  b_is_machine : Binds K fd_is_machine ["machine"] []
  m_is_machine : mg "is_machine" = some (.ref a_is_machine)
  a_must_machine : Addr
  fd_must_machine : FuncData
  F_must_machine : Fun K "must_machine" "must_machine" s_must_machine a_must_machine fd_must_machine
  b_must_machine : Binds K fd_must_machine ["machine"] []
  m_must_machine : mg "must_machine" = some (.ref a_must_machine)
  a_Goer_init : Addr
  fd_Goer_init : FuncData
  F_Goer_init : Fun K "__init__" "Goer.__init__" s_Goer_init a_Goer_init fd_Goer_init
  b_Goer_init : Binds K fd_Goer_init ["self", "machine", "setup"] []
  a_Goer_entry : Addr
  fd_Goer_entry : FuncData
  F_Goer_entry : Fun K "entry" "Goer.entry" s_Goer_entry a_Goer_entry fd_Goer_entry
  b_Goer_entry : Binds K fd_Goer_entry ["self"] []
  a_Goer_step : Addr
  fd_Goer_step : FuncData
  F_Goer_step : Fun K "step" "Goer.step" s_Goer_step a_Goer_step fd_Goer_step
  b_Goer_step : Binds K fd_Goer_step ["self"] []
  a_told_strip : Addr
  fd_told_strip : FuncData
  F_told_strip : Fun K "told_strip" "told_strip" s_told_strip a_told_strip fd_told_strip
  b_told_strip : Binds K fd_told_strip ["signs"] []
  m_told_strip : mg "told_strip" = some (.ref a_told_strip)
  a_Goer_setup : Addr
  fd_Goer_setup : FuncData
  F_Goer_setup : Fun K "setup" "Goer.setup" s_Goer_setup a_Goer_setup fd_Goer_setup
  b_Goer_setup : Binds K fd_Goer_setup ["self"] []
  a_parts_from : Addr
  fd_parts_from : FuncData
  F_parts_from : Fun K "parts_from" "parts_from" s_parts_from a_parts_from fd_parts_from
  b_parts_from : Binds K fd_parts_from ["one", "other", "most"] []
  m_parts_from : mg "parts_from" = some (.ref a_parts_from)
  a_law : Addr
  fd_law : FuncData
  F_law : Fun K "law" "law" s_law a_law fd_law
  b_law : Binds K fd_law ["_law_script"] []
  m_law : mg "law" = some (.ref a_law)
  C_NoMachine : Addr
  m_NoMachine : mg "NoMachine" = some (.ref C_NoMachine)
  C_Goer : Addr
  m_Goer : mg "Goer" = some (.ref C_Goer)
  cl_Goer : Cls K C_Goer
  M_Goer : Mk K C_Goer a_Goer_init
  M_Goer_entry : Meth K C_Goer "entry" a_Goer_entry
  M_Goer_step : Meth K C_Goer "step" a_Goer_step
  M_Goer_setup : Meth K C_Goer "setup" a_Goer_setup
  nA_Goer_table : NoAttr K C_Goer "table"
  nA_Goer_row : NoAttr K C_Goer "row"
  nA_Goer_spot : NoAttr K C_Goer "spot"
  nA_Goer_signs : NoAttr K C_Goer "signs"
  nA_Goer_steps : NoAttr K C_Goer "steps"
  tk_MOST_ROWS : Tok
  m_MOST_ROWS : mg "MOST_ROWS" = some (.int 4 tk_MOST_ROWS)
  tk_MOST_SIGNS : Tok
  m_MOST_SIGNS : mg "MOST_SIGNS" = some (.int 4 tk_MOST_SIGNS)
  n_range : mg "range" = none
  n_len : mg "len" = none
  n_abs : mg "abs" = none
  n_list : mg "list" = none
  n_dict : mg "dict" = none
  n_all : mg "all" = none
  n_sorted : mg "sorted" = none
  n_max : mg "max" = none
/-! ### the fields of a Goer -/
theorem ne_Goer_table_row : ¬ (("table" : Str) = "row") := by decide +kernel
theorem ne_Goer_table_spot : ¬ (("table" : Str) = "spot") := by decide +kernel
theorem ne_Goer_table_signs : ¬ (("table" : Str) = "signs") := by decide +kernel
theorem ne_Goer_table_steps : ¬ (("table" : Str) = "steps") := by decide +kernel
theorem ne_Goer_row_table : ¬ (("row" : Str) = "table") := by decide +kernel
theorem ne_Goer_row_spot : ¬ (("row" : Str) = "spot") := by decide +kernel
theorem ne_Goer_row_signs : ¬ (("row" : Str) = "signs") := by decide +kernel
theorem ne_Goer_row_steps : ¬ (("row" : Str) = "steps") := by decide +kernel
theorem ne_Goer_spot_table : ¬ (("spot" : Str) = "table") := by decide +kernel
theorem ne_Goer_spot_row : ¬ (("spot" : Str) = "row") := by decide +kernel
theorem ne_Goer_spot_signs : ¬ (("spot" : Str) = "signs") := by decide +kernel
theorem ne_Goer_spot_steps : ¬ (("spot" : Str) = "steps") := by decide +kernel
theorem ne_Goer_signs_table : ¬ (("signs" : Str) = "table") := by decide +kernel
theorem ne_Goer_signs_row : ¬ (("signs" : Str) = "row") := by decide +kernel
theorem ne_Goer_signs_spot : ¬ (("signs" : Str) = "spot") := by decide +kernel
theorem ne_Goer_signs_steps : ¬ (("signs" : Str) = "steps") := by decide +kernel
theorem ne_Goer_steps_table : ¬ (("steps" : Str) = "table") := by decide +kernel
theorem ne_Goer_steps_row : ¬ (("steps" : Str) = "row") := by decide +kernel
theorem ne_Goer_steps_spot : ¬ (("steps" : Str) = "spot") := by decide +kernel
theorem ne_Goer_steps_signs : ¬ (("steps" : Str) = "signs") := by decide +kernel
def Goer_F (v0 v1 v2 v3 v4 : V) : List (Str × V) := [("table", v0), ("row", v1), ("spot", v2), ("signs", v3), ("steps", v4)]
theorem Goer_mk0 (v0 : V) : putF "table" v0 ([] : List (Str × V)) = ([("table", v0)] : List (Str × V)) := by
  simp only [putF]
theorem Goer_mk1 (v0 v1 : V) : putF "row" v1 ([("table", v0)] : List (Str × V)) = ([("table", v0), ("row", v1)] : List (Str × V)) := by
  simp only [putF, if_neg ne_Goer_table_row]
theorem Goer_mk2 (v0 v1 v2 : V) : putF "spot" v2 ([("table", v0), ("row", v1)] : List (Str × V)) = ([("table", v0), ("row", v1), ("spot", v2)] : List (Str × V)) := by
  simp only [putF, if_neg ne_Goer_table_spot, if_neg ne_Goer_row_spot]
theorem Goer_mk3 (v0 v1 v2 v3 : V) : putF "signs" v3 ([("table", v0), ("row", v1), ("spot", v2)] : List (Str × V)) = ([("table", v0), ("row", v1), ("spot", v2), ("signs", v3)] : List (Str × V)) := by
  simp only [putF, if_neg ne_Goer_table_signs, if_neg ne_Goer_row_signs, if_neg ne_Goer_spot_signs]
theorem Goer_mk4 (v0 v1 v2 v3 v4 : V) : putF "steps" v4 ([("table", v0), ("row", v1), ("spot", v2), ("signs", v3)] : List (Str × V)) = ([("table", v0), ("row", v1), ("spot", v2), ("signs", v3), ("steps", v4)] : List (Str × V)) := by
  simp only [putF, if_neg ne_Goer_table_steps, if_neg ne_Goer_row_steps, if_neg ne_Goer_spot_steps, if_neg ne_Goer_signs_steps]
theorem Goer_get_table {v0 v1 v2 v3 v4 : V} : (Goer_F v0 v1 v2 v3 v4).lookup ("table" : Str) = some v0 := by
  have e : Goer_F v0 v1 v2 v3 v4 = putF "table" v0 (Goer_F v0 v1 v2 v3 v4) := by
    unfold Goer_F
    simp only [putF, if_true]
  rw [e, lookup_putF, if_pos rfl]
theorem Goer_put_table {v0 v1 v2 v3 v4 y : V} : putF "table" y (Goer_F v0 v1 v2 v3 v4) = Goer_F y v1 v2 v3 v4 := by
  unfold Goer_F
  simp only [putF, if_true]
theorem Goer_get_row {v0 v1 v2 v3 v4 : V} : (Goer_F v0 v1 v2 v3 v4).lookup ("row" : Str) = some v1 := by
  have e : Goer_F v0 v1 v2 v3 v4 = putF "row" v1 (Goer_F v0 v1 v2 v3 v4) := by
    unfold Goer_F
    simp only [putF, if_neg ne_Goer_table_row, if_true]
  rw [e, lookup_putF, if_pos rfl]
theorem Goer_put_row {v0 v1 v2 v3 v4 y : V} : putF "row" y (Goer_F v0 v1 v2 v3 v4) = Goer_F v0 y v2 v3 v4 := by
  unfold Goer_F
  simp only [putF, if_neg ne_Goer_table_row, if_true]
theorem Goer_get_spot {v0 v1 v2 v3 v4 : V} : (Goer_F v0 v1 v2 v3 v4).lookup ("spot" : Str) = some v2 := by
  have e : Goer_F v0 v1 v2 v3 v4 = putF "spot" v2 (Goer_F v0 v1 v2 v3 v4) := by
    unfold Goer_F
    simp only [putF, if_neg ne_Goer_table_spot, if_neg ne_Goer_row_spot, if_true]
  rw [e, lookup_putF, if_pos rfl]
theorem Goer_put_spot {v0 v1 v2 v3 v4 y : V} : putF "spot" y (Goer_F v0 v1 v2 v3 v4) = Goer_F v0 v1 y v3 v4 := by
  unfold Goer_F
  simp only [putF, if_neg ne_Goer_table_spot, if_neg ne_Goer_row_spot, if_true]
theorem Goer_get_signs {v0 v1 v2 v3 v4 : V} : (Goer_F v0 v1 v2 v3 v4).lookup ("signs" : Str) = some v3 := by
  have e : Goer_F v0 v1 v2 v3 v4 = putF "signs" v3 (Goer_F v0 v1 v2 v3 v4) := by
    unfold Goer_F
    simp only [putF, if_neg ne_Goer_table_signs, if_neg ne_Goer_row_signs, if_neg ne_Goer_spot_signs, if_true]
  rw [e, lookup_putF, if_pos rfl]
theorem Goer_put_signs {v0 v1 v2 v3 v4 y : V} : putF "signs" y (Goer_F v0 v1 v2 v3 v4) = Goer_F v0 v1 v2 y v4 := by
  unfold Goer_F
  simp only [putF, if_neg ne_Goer_table_signs, if_neg ne_Goer_row_signs, if_neg ne_Goer_spot_signs, if_true]
theorem Goer_get_steps {v0 v1 v2 v3 v4 : V} : (Goer_F v0 v1 v2 v3 v4).lookup ("steps" : Str) = some v4 := by
  have e : Goer_F v0 v1 v2 v3 v4 = putF "steps" v4 (Goer_F v0 v1 v2 v3 v4) := by
    unfold Goer_F
    simp only [putF, if_neg ne_Goer_table_steps, if_neg ne_Goer_row_steps, if_neg ne_Goer_spot_steps, if_neg ne_Goer_signs_steps, if_true]
  rw [e, lookup_putF, if_pos rfl]
theorem Goer_put_steps {v0 v1 v2 v3 v4 y : V} : putF "steps" y (Goer_F v0 v1 v2 v3 v4) = Goer_F v0 v1 v2 v3 y := by
  unfold Goer_F
  simp only [putF, if_neg ne_Goer_table_steps, if_neg ne_Goer_row_steps, if_neg ne_Goer_spot_steps, if_neg ne_Goer_signs_steps, if_true]
theorem Goer_no {v0 v1 v2 v3 v4 : V} {m : Str} (h0 : ¬ m = "table") (h1 : ¬ m = "row") (h2 : ¬ m = "spot") (h3 : ¬ m = "signs") (h4 : ¬ m = "steps") : (Goer_F v0 v1 v2 v3 v4).lookup m = none := by
  have h : ∀ (f : Str) (v : V) (r : List (Str × V)), ¬ m = f → r.lookup m = none → ((f, v) :: r).lookup m = none := fun f v r n q => by
    rw [List.lookup_cons, beq_eq_false_iff_ne.mpr n]; exact q
  unfold Goer_F
  exact h _ _ _ h0 (h _ _ _ h1 (h _ _ _ h2 (h _ _ _ h3 (h _ _ _ h4 rfl))))
theorem Goer_few {v0 v1 v2 v3 v4 : V} : (Goer_F v0 v1 v2 v3 v4).length < 1000 := by show 5 < 1000; decide
section
variable {P : Program} {w : World} {K : PySem.W.Frag} {mg : Str → Option Value} {base : Heap}
/-! ### draws -/
def sp_L_mixed : Sp := fun vs H Q _ => ∃ c k : Int, vs = [.int c, .int k] ∧ 0 ≤ k ∧ k < 1000 ∧ ∀ n : Int, 0 ≤ n → n < 2147483587 → Q (.int n) H
theorem ok_L_mixed (t : Tx K mg) : FnOk P w K mg base CX0 1 t.a_L_mixed t.fd_L_mixed ["_law_cell", "_law_k"] sp_L_mixed := by
  refine t.F_L_mixed.ok sc_L_mixed (fun vs H Q E h => ?_) (fun cdv A outer s H vs Q E hr h => ?_)
  · obtain ⟨c, k, rfl, _⟩ := h
    rfl
  · obtain ⟨c, k, rfl, k0, k1, q⟩ := h
    refine ⟨_, (pss_cons (ps_set (i := 2) sc_L_mixed.nd rfl (by first | exact Or.inl rfl | exact Or.inr rfl) (pe_op op_mod (pv 0) (pe_op op_pow pe_int pe_int)))
      (pss_cons (ps_set (i := 3) sc_L_mixed.nd rfl (by first | exact Or.inl rfl | exact Or.inr rfl) (pe_op op_mod (pe_op op_mul (pe_op op_add (pe_op op_add (pe_op op_add (pe_op op_mul (pv 2) (pv 2)) (pe_op op_mul pe_int (pv 2))) (pe_op op_mul pe_int (pv 1))) pe_int) pe_int) pe_int))
      (pss_one (ps_ret (pe_op op_mod (pe_op op_add (pe_op op_mul (pv 3) (pv 3)) pe_int) pe_int))))), ?_⟩
    have e15 : (10 : Int) ^ (15 : Int).toNat = 1000000000000000 := by decide
    refine ⟨_, rfl, _, _, rfl, rfl, ⟨by decide, by decide, by decide⟩, _, _, rfl, rfl, (by show (0 : Int) < 10 ^ (15 : Int).toNat; decide), ?_⟩
    rw [e15]
    have h0 : (0 : Int) ≤ c % 1000000000000000 := Int.emod_nonneg _ (by decide)
    have h1 : c % 1000000000000000 < 1000000000000000 := Int.emod_lt_of_pos _ (by decide)
    generalize c % 1000000000000000 = r at h0 h1
    refine ⟨_, rfl, _, rfl, _, _, rfl, rfl, .inl ⟨by omega, by omega⟩, _, rfl, _, _, rfl, rfl, .inl ⟨by decide, by decide⟩, _, _, rfl, rfl, _, rfl, _, _, rfl, rfl, .inl ⟨by decide, by decide⟩, _, _, rfl, rfl, _, _, rfl, rfl,
      _, _, rfl, rfl, .inr ⟨by decide, by decide⟩, _, _, rfl, rfl, (by show (0 : Int) < 2147483629; decide), ?_⟩
    have g0 := Int.emod_nonneg ((r * r + 3 * r + 7919 * k + 1) * 48271) (show (2147483629 : Int) ≠ 0 by decide)
    have g1 := Int.emod_lt_of_pos ((r * r + 3 * r + 7919 * k + 1) * 48271) (show (0 : Int) < 2147483629 by decide)
    generalize (r * r + 3 * r + 7919 * k + 1) * 48271 % 2147483629 = n at g0 g1
    refine ⟨_, rfl, _, rfl, _, _, rfl, rfl, .inl ⟨by omega, by omega⟩, _, _, rfl, rfl, _, _, rfl, rfl, (by show (0 : Int) < 2147483587; decide), ?_⟩
    exact q _ (Int.emod_nonneg _ (by decide)) (Int.emod_lt_of_pos _ (by decide))
/-- the purse: two numbers that aren't below 0 -/
def PurseO (a b : Int) : HO := .lst [.int a, .int b]
def sp_L_purse (K : PySem.W.Frag) : Sp := fun vs H Q _ => ∃ (l : Addr) (ns : List Int), vs = [.ref l] ∧ SqL K H l (ns.map V.int) ∧ ns.length ≤ 63 ∧
  ∀ (a b : Int) (p : Addr) (H' : Hp), 0 ≤ a → 0 ≤ b → Same H H' → H p = none → H' p = some (PurseO a b) → Q (.ref p) H'
theorem ok_L_purse (t : Tx K mg) : FnOk P w K mg base CX0 2 t.a_L_purse t.fd_L_purse ["_law_script"] (sp_L_purse K) := by
  refine t.F_L_purse.ok sc_L_purse (fun vs H Q E h => ?_) (fun cdv A outer s H vs Q E hr h => ?_)
  · obtain ⟨l, ns, rfl, _⟩ := h
    rfl
  · obtain ⟨l, ns, rfl, hS, hn, q⟩ := h
    refine ⟨_, (pss_cons (ps_set (i := 1) sc_L_purse.nd rfl (by first | exact Or.inl rfl | exact Or.inr rfl) (pe_op op_cat (pe_slice sl_list (pv 0) po_none (po_some pe_int)) (pe_lst (pa_cons pe_int pa_nil))))
      (pss_cons (ps_set (i := 2) sc_L_purse.nd rfl (by first | exact Or.inl rfl | exact Or.inr rfl) pe_int)
      (pss_cons (ps_for PassesOwn.never rfl (pi_range1 (by rfl) t.n_range (pa_cons pe_int pa_nil)) (pg_name (i := 3) sc_L_purse.nd rfl (by first | exact Or.inl rfl | exact Or.inr rfl)) (pss_one (ps_set (i := 2) sc_L_purse.nd rfl (by first | exact Or.inl rfl | exact Or.inr rfl) (pe_op op_add (pe_op op_mul (pv 2) pe_int) (pe_call (ok_L_mixed t) (hr.mono (by decide)) (by rfl) t.m_L_mixed t.F_L_mixed.kp t.b_L_mixed .nil pass0 (pa_cons (pe_ix ix_list (pv 1) (pe_op op_mod (pv 3) (pe_callB (id := "len") call_lenQ (by rfl) t.n_len (by decide +kernel) (pa_cons (pv 1) pa_nil))) (fun _ _ => rfl)) (pa_cons (pv 3) pa_nil)))))))
      (pss_cons (ps_if (pt_cmpR op_ge (pe_callB (id := "abs") call_abs (by rfl) t.n_abs (by decide +kernel) (pa_cons (pe_ix ix_list (pv 1) pe_int (fun _ _ => rfl)) pa_nil)) (pe_op op_pow pe_int pe_int) (nomark _)) (pss_one (ps_ret (pe_lst (pa_cons (pe_callB (id := "abs") call_abs (by rfl) t.n_abs (by decide +kernel) (pa_cons (pe_ix ix_list (pv 1) pe_int (fun _ _ => rfl)) pa_nil)) (pa_cons (pv 2) pa_nil))))) pss_nil)
      (pss_one (ps_ret (pe_lst (pa_cons (pv 2) (pa_cons (pv 2) pa_nil))))))))), ?_⟩
    refine ⟨_, rfl, _, rfl, l, _, rfl, hS, fun p np => ?_⟩
    rw [cut_63 hn]
    have e0 : ([V.int 0] : List V) = [(0 : Int)].map V.int := rfl
    refine ⟨by show 1 ≤ sizeLine; decide, fun p2 np2 => ⟨p, p2, _, _, rfl, rfl, (by rw [upd_ne (ne_of_none upd_same np2)]; exact upd_same), upd_same, (by show _ + 1 ≤ _; rw [List.length_map]; exact Nat.le_trans (Nat.add_le_add_right hn 1) (by decide)), fun p3 np3 => ?_⟩⟩
    rw [e0, ← List.map_append]
    have s3 : Same H (upd (upd (upd H p (.lst (ns.map V.int))) p2 (.lst ([(0 : Int)].map V.int))) p3 (.lst ((ns ++ [0]).map V.int))) := sm_new (sm_new (sm_new (Same.refl H) np) np2) np3
    have hl : 0 < (ns ++ [0]).length := by simp
    generalize ec : ns ++ [0] = cs at s3 hl
    have h3 : (upd (upd (upd H p (.lst (ns.map V.int))) p2 (.lst ([(0 : Int)].map V.int))) p3 (.lst (cs.map V.int))) p3 = some (.lst (cs.map V.int)) := upd_same
    generalize upd (upd (upd H p (.lst (ns.map V.int))) p2 (.lst ([(0 : Int)].map V.int))) p3 (.lst (cs.map V.int)) = H3 at s3 h3
    refine ⟨64, rfl, by decide, by decide, for_range (lo := 0) (n := 64) (fun i σ H2 => ∃ (n : Int) (v : Option V), σ = [some (.ref l), some (.ref p3), some (.int n), v] ∧ H2 = H3 ∧ 0 ≤ n) ⟨1, none, rfl, rfl, by decide⟩ ?_ ?_⟩
    · rintro i σ H2 hi ⟨n, v, rfl, rfl, hn0⟩
      refine ⟨_, rfl, _, _, rfl, rfl, .inr ⟨by decide, by decide⟩, ?_⟩
      have hm := Int.emod_nonneg (0 + (i : Int)) (show ((cs.map V.int).length : Int) ≠ 0 by rw [List.length_map]; omega)
      have hm1 := Int.emod_lt_of_pos (0 + (i : Int)) (show (0 : Int) < ((cs.map V.int).length : Int) by rw [List.length_map]; omega)
      have hj : (((0 + (i : Int)) % ((cs.map V.int).length : Int)).toNat : Int) = (0 + (i : Int)) % ((cs.map V.int).length : Int) := Int.toNat_of_nonneg hm
      have hj1 : ((0 + (i : Int)) % ((cs.map V.int).length : Int)).toNat < cs.length := by rw [List.length_map] at hm1 ⊢; omega
      refine ⟨_, rfl, _, rfl, _, rfl, p3, _, rfl, .inl (SqL.of h3), _, _, rfl, rfl, (by rw [List.length_map]; omega), p3, _, _, _, rfl, rfl, SqL.of h3, at_of hj.symm (by rw [List.getElem?_map, List.getElem?_eq_getElem hj1]; rfl), ?_⟩
      refine ⟨_, rfl, _, _, rfl, by omega, by omega, fun m m0 m1 => ⟨_, _, rfl, rfl, ?_⟩⟩
      exact ⟨_, _, rfl, rfl, by omega⟩
    · rintro σ H2 ⟨n, v, rfl, rfl, hn0⟩
      have h0 : (cs.map V.int)[0]? = some (.int (cs[0])) := by rw [List.getElem?_map, List.getElem?_eq_getElem hl]; rfl
      refine ⟨_, rfl, p3, _, _, _, rfl, rfl, SqL.of h3, atI_nat (j := 0) h0, _, rfl, _, _, rfl, rfl, ⟨by decide, by decide, by decide⟩, _, _, rfl, rfl, _, rfl, ?_⟩
      refine ite2 (fun c => ?_) (fun c => ?_)
      · refine ⟨_, rfl, p3, _, _, _, rfl, rfl, SqL.of h3, atI_nat (j := 0) h0, _, rfl, _, rfl, by show 2 ≤ sizeLine; decide, fun q0 nq => ?_⟩
        exact q _ _ q0 _ (by split <;> omega) hn0 (sm_new s3 nq) (s3.free nq) upd_same
      · refine ⟨_, rfl, _, rfl, by show 2 ≤ sizeLine; decide, fun q0 nq => ?_⟩
        exact q _ _ q0 _ hn0 hn0 (sm_new s3 nq) (s3.free nq) upd_same
def sp_L_draw : Sp := fun vs H Q _ => ∃ (p : Addr) (a b n : Int), vs = [.ref p, .int n] ∧ H p = some (PurseO a b) ∧ 0 ≤ a ∧ 0 ≤ b ∧ 0 < n ∧ n < 1267650600228229401496703205376 ∧
  ∀ d a' b' : Int, 0 ≤ d → d < n → 0 ≤ a' → 0 ≤ b' → Q (.int d) (upd H p (PurseO a' b'))
theorem ok_L_draw (t : Tx K mg) : FnOk P w K mg base CX0 1 t.a_L_draw t.fd_L_draw ["_law_purse_here", "_law_out_of"] sp_L_draw := by
  refine t.F_L_draw.ok sc_L_draw (fun vs H Q E h => ?_) (fun cdv A outer s H vs Q E hr h => ?_)
  · obtain ⟨p, a, b, n, rfl, _⟩ := h
    rfl
  · obtain ⟨p, a, b, n, rfl, hp, ha, hb, n0, n1, q⟩ := h
    refine ⟨_, (pss_cons (ps_if (pt_cmpR op_eq (pe_ix ix_list (pv 0) pe_int (fun _ _ => rfl)) pe_int (nomark _)) (pss_one (ps_asg (pe_ix ix_list (pv 0) pe_int (fun _ _ => rfl)) (pg_sub (pv 0) pe_int set_list))) pss_nil)
      (pss_cons (ps_set (i := 2) sc_L_draw.nd rfl (by first | exact Or.inl rfl | exact Or.inr rfl) (pe_op op_mod (pe_ix ix_list (pv 0) pe_int (fun _ _ => rfl)) (pv 1)))
      (pss_cons (ps_asg (pe_op op_fdivW (pe_ix ix_list (pv 0) pe_int (fun _ _ => rfl)) (pv 1)) (pg_sub (pv 0) pe_int set_list))
      (pss_one (ps_ret (pv 2)))))), ?_⟩
    refine ⟨_, rfl, p, _, _, _, rfl, rfl, SqL.of hp, atI_nat (j := 0) rfl, rfl, _, rfl, ?_⟩
    refine ite2 (fun c => ?_) (fun c => ?_)
    · refine ⟨_, rfl, p, _, _, _, rfl, rfl, SqL.of hp, atI_nat (j := 1) rfl, _, rfl, p, _, _, 0, rfl, rfl, hp, rfl, ?_⟩
      refine ⟨_, rfl, p, _, _, _, rfl, rfl, SqL.of upd_same, atI_nat (j := 0) rfl, _, rfl, _, _, rfl, rfl, n0, ?_⟩
      refine ⟨_, rfl, p, _, _, _, rfl, rfl, SqL.of upd_same, atI_nat (j := 0) rfl, _, rfl, _, _, rfl, rfl, wide_div n0 (b := 100) (by have e : (2 : Nat) ^ 100 = 1267650600228229401496703205376 := rfl; rw [e]; omega) (by decide) (by decide), _, rfl, p, _, _, 0, rfl, rfl, upd_same, rfl, _, rfl, ?_⟩
      rw [upd_upd]
      exact q _ _ _ (Int.emod_nonneg _ (by omega)) (Int.emod_lt_of_pos _ n0) (Int.ediv_nonneg hb (by omega)) hb
    · refine ⟨_, rfl, p, _, _, _, rfl, rfl, SqL.of hp, atI_nat (j := 0) rfl, _, rfl, _, _, rfl, rfl, n0, ?_⟩
      refine ⟨_, rfl, p, _, _, _, rfl, rfl, SqL.of hp, atI_nat (j := 0) rfl, _, rfl, _, _, rfl, rfl, wide_div n0 (b := 100) (by have e : (2 : Nat) ^ 100 = 1267650600228229401496703205376 := rfl; rw [e]; omega) (by decide) (by decide), _, rfl, p, _, _, 0, rfl, rfl, hp, rfl, _, rfl, ?_⟩
      exact q _ _ _ (Int.emod_nonneg _ (by omega)) (Int.emod_lt_of_pos _ n0) (Int.ediv_nonneg ha (by omega)) hb
/-! ### machines that are machines -/
structure EOk (R S : Nat) (e : Ent) : Prop where
  ok : ∀ p w r, e = .go p w r → (0 ≤ p ∧ p < S) ∧ (w = -1 ∨ w = 1) ∧ 0 ≤ r ∧ r < R
structure MOk (M : Mach) (R S : Nat) : Prop where
  r1 : 1 ≤ R
  r4 : R ≤ 4
  s2 : 2 ≤ S
  s4 : S ≤ 4
  len : M.length = R
  row : ∀ r ∈ M, r.length = S
  ent : ∀ r ∈ M, ∀ e ∈ r, EOk R S e
def sp_is_entry : Sp := fun vs H Q _ => ∃ (F : Hp) (v : V) (e : Ent) (R S : Nat), vs = [v, .int R, .int S] ∧ Same F H ∧ Is F v e ∧ EOk R S e ∧ ∀ H', Gr mu0 F H F H' → Q (.bl true) H'
theorem ok_is_entry (t : Tx K mg) : FnOk P w K mg base CX0 1 t.a_is_entry t.fd_is_entry ["entry", "rows", "signs"] sp_is_entry := by
  refine t.F_is_entry.ok sc_is_entry (fun vs H Q E h => ?_) (fun cdv A outer s H vs Q E hr h => ?_)
  · obtain ⟨F, v, e, R, S, rfl, _⟩ := h
    rfl
  · obtain ⟨F, v, e, R, S, rfl, sF, hv, he, q⟩ := h
    refine ⟨_, (pss_cons (ps_if (pt_cmpR (op_eqD hr.units) (pv 0) (pe_tup pa_nil) (nomark _)) (pss_one (ps_ret pe_bl)) pss_nil)
      (pss_one (ps_ret (pe_and (pe_cmpR op_eq (pe_callB (id := "len") call_lenQ (by rfl) t.n_len (by decide +kernel) (pa_cons (pv 0) pa_nil)) pe_int (nomark _)) (pe_and (pe_chain op_le op_lt pe_int (pe_ix ix_tup (pv 0) pe_int (fun _ _ => rfl)) (pv 2)) (pe_and (pe_cmpR op_in_seq (pe_ix ix_tup (pv 0) pe_int (fun _ _ => rfl)) (pe_lst (pa_cons (pe_un un_neg pe_int) (pa_cons pe_int pa_nil))) (by rfl)) (pe_one (pe_chain op_le op_lt pe_int (pe_ix ix_tup (pv 0) pe_int (fun _ _ => rfl)) (pv 1))))))))), ?_⟩
    have g0 : Gr mu0 F H F H := Gr.refl sF
    refine ⟨_, rfl, by show 0 ≤ sizeLine; decide, fun p np => ?_⟩
    have g1 : Gr mu0 F H F (upd H p (.tup [])) := g0.own np
    refine eq_dat (a := e) (b := Ent.emp) (hv.up g1.fh) ⟨p, rfl, upd_same⟩ ?_
    refine ⟨_, rfl, ?_⟩
    refine ite2 (fun c => ?_) (fun c => ?_)
    · exact q _ g1
    · cases e with
      | emp => exact absurd (decide_eq_true rfl) c
      | go pu wa ro =>
        obtain ⟨a, rfl, ha⟩ := hv
        obtain ⟨⟨o1, o2⟩, o3, o4, o5⟩ := he.ok _ _ _ rfl
        have h1 := g1.fh _ _ ha
        refine ⟨_, rfl, a, _, rfl, .inr (SqT.of h1), rfl, _, rfl, ifT rfl ?_⟩
        refine ⟨_, rfl, a, _, _, _, rfl, rfl, SqT.of h1, atI_nat (j := 0) rfl, _, _, rfl, rfl, _, rfl, ifT (decide_eq_true o1) ⟨_, rfl, _, _, rfl, rfl, _, rfl, ifT (decide_eq_true o2) ?_⟩⟩
        refine ⟨_, rfl, a, _, _, _, rfl, rfl, SqT.of h1, atI_nat (j := 1) rfl, _, rfl, two_le, fun l nl => ?_⟩
        have g2 := g1.own (o := .lst [.int (-1), .int 1]) nl
        have h2 := g2.fh _ _ ha
        refine ⟨l, _, rfl, .inl (SqL.of upd_same), rfl, rfl, _, rfl, ifT ?_ ?_⟩
        · rcases o3 with rfl | rfl <;> rfl
        · refine ⟨_, rfl, a, _, _, _, rfl, rfl, SqT.of h2, atI_nat (j := 2) rfl, _, _, rfl, rfl, _, rfl, ifT (decide_eq_true o4) ⟨_, rfl, _, _, rfl, rfl, ?_⟩⟩
          show Q (.bl (decide (ro < (R : Int)))) _
          rw [decide_eq_true o5]
          exact q _ g2
/-- all bools of a list of trues -/
theorem all_rep (n : Nat) : (List.replicate n true).all id = true := by simp
theorem map_rep (n : Nat) : (List.replicate n true).map V.bl = List.replicate n (V.bl true) := by simp
theorem rep_snoc (n : Nat) : List.replicate n (V.bl true) ++ [V.bl true] = List.replicate (n + 1) (V.bl true) := by
  rw [← List.replicate_succ']
def sp_is_machine : Sp := fun vs H Q _ => ∃ (F : Hp) (v : V) (M : Mach) (R S : Nat), vs = [v] ∧ Same F H ∧ Is F v M ∧ MOk M R S ∧ ∀ H', Gr mu0 F H F H' → Q (.bl true) H'
theorem ok_is_machine (t : Tx K mg) : FnOk P w K mg base CX0 2 t.a_is_machine t.fd_is_machine ["machine"] sp_is_machine := by
  refine t.F_is_machine.ok sc_is_machine (fun vs H Q E h => ?_) (fun cdv A outer s H vs Q E hr h => ?_)
  · obtain ⟨F, v, M, R, S, rfl, _⟩ := h
    rfl
  · obtain ⟨F, v, M, R, S, rfl, sF, hv, hM, q⟩ := h
    refine ⟨_, (pss_cons (ps_set (i := 1) sc_is_machine.nd rfl (by first | exact Or.inl rfl | exact Or.inr rfl) (pe_callB (id := "len") call_lenQ (by rfl) t.n_len (by decide +kernel) (pa_cons (pv 0) pa_nil)))
      (pss_cons (ps_if (pt_not (pt_chain op_le op_le pe_int (pv 1) (pe_glob (v := .int 4) (by rfl) t.m_MOST_ROWS ⟨_, rfl⟩))) (pss_one (ps_ret pe_bl)) pss_nil)
      (pss_cons (ps_set (i := 2) sc_is_machine.nd rfl (by first | exact Or.inl rfl | exact Or.inr rfl) (pe_callB (id := "len") call_lenQ (by rfl) t.n_len (by decide +kernel) (pa_cons (pe_ix ix_list (pv 0) pe_int (fun _ _ => rfl)) pa_nil)))
      (pss_cons (ps_if (PW.pt (pw_or (pt_not (pt_chain op_le op_le pe_int (pv 2) (pe_glob (v := .int 4) (by rfl) t.m_MOST_SIGNS ⟨_, rfl⟩))) (pw_or1 (pt_not (pt_val (pe_callB (id := "all") (cr_all rfl) (by rfl) t.n_all (by decide +kernel) (pa_cons (pe_lc (own := [("row", 3)]) (g := gName 3) (tt := tYes) rfl sc_is_machine.nd (pi_list (pv 0)) (blkOk_by (N := N_is_machine) (sc := defScope s_is_machine) (by decide +kernel)) (fun _ _ _ _ _ => (pg_name (i := 3) sc_is_machine.nd rfl (by first | exact Or.inl rfl | exact Or.inr rfl))) (fun _ _ _ _ _ => pts_nil) (fun _ _ _ _ _ => (pe_cmpR op_eq (pe_callB (id := "len") (crK (K := K) (r := rLenQ) rfl call_lenQ) (by rfl) t.n_len (by decide +kernel) (pa_cons (pv 3) pa_nil)) (pv 2) (nomark _)))) pa_nil))))))) (pss_one (ps_ret pe_bl)) pss_nil)
      (pss_one (ps_ret (pe_callB (id := "all") (cr_all rfl) (by rfl) t.n_all (by decide +kernel) (pa_cons (pe_lc (own := [("row", 3)]) (g := gName 3) (tt := tYes) rfl sc_is_machine.nd (pi_list (pv 0)) (blkOk_by (N := N_is_machine) (sc := defScope s_is_machine) (by decide +kernel)) (fun _ _ _ _ _ => (pg_name (i := 3) sc_is_machine.nd rfl (by first | exact Or.inl rfl | exact Or.inr rfl))) (fun _ _ _ _ _ => pts_nil) (fun _ _ _ _ _ => (pe_callB (id := "all") (crK (K := K) (r := rAll) rfl (cr_all rfl)) (by rfl) t.n_all (by decide +kernel) (pa_cons (pe_lc (own := [("entry", 4)]) (g := gName 4) (tt := tYes) rfl sc_is_machine.nd (pi_listK (K := K) rfl (pv 3)) (blkOk_by (N := N_is_machine) (sc := { kind := PySem.ScopeKind.function, names := [(PySem.Str.ofString ".0", PySem.NameKind.local), (PySem.Str.ofString "row", PySem.NameKind.local), (PySem.Str.ofString "all", PySem.NameKind.globalImplicit), (PySem.Str.ofString "rows", PySem.NameKind.cell), (PySem.Str.ofString "signs", PySem.NameKind.cell)], isGenerator := false, isCoroutine := false }) (by decide +kernel)) (fun _ _ _ _ _ => (pg_name (i := 4) sc_is_machine.nd rfl (by first | exact Or.inl rfl | exact Or.inr rfl))) (fun _ _ _ _ _ => pts_nil) (fun _ _ _ _ _ => (pe_call (ok_is_entry t) (hr.mono (by decide)) (by rfl) t.m_is_entry t.F_is_entry.kp t.b_is_entry .nil pass0 (pa_cons (pv 4) (pa_cons (pv 1) (pa_cons (pv 2) pa_nil)))))) pa_nil)))) pa_nil)))))))), ?_⟩
    have g0 : Gr mu0 F H F H := Gr.refl sF
    have r1 := hM.r1
    have r4 := hM.r4
    have s2 := hM.s2
    have s4 := hM.s4
    obtain ⟨a, rs, rfl, ha, hrs⟩ := hv
    have lrs : rs.length = R := hrs.1.trans hM.len
    have h0 := sF _ _ ha
    have l0 : 0 < rs.length := by omega
    have hx0 : rs[0]? = some rs[0] := List.getElem?_eq_getElem l0
    obtain ⟨row0, hM0, hr0⟩ := hrs.get' hx0
    obtain ⟨a0, es0, e0, ha0, hes0⟩ := hr0
    have ls0 : es0.length = S := hes0.1.trans (hM.row _ (List.mem_of_getElem? hM0))
    have hb0 := sF _ _ ha0
    -- rows = len(machine); signs = len(machine[0])
    refine ⟨_, rfl, a, rs, rfl, .inl (SqL.of h0), _, rfl, _, _, rfl, rfl, _, rfl, ifT (decide_eq_true (by omega)) ⟨_, _, rfl, rfl, _, rfl, ?_⟩⟩
    refine ifF (by rw [decide_eq_true (show (rs.length : Int) ≤ 4 by omega)]; rfl) ?_
    refine ⟨_, rfl, a, rs, _, _, rfl, rfl, SqL.of h0, atI_nat (j := 0) hx0, ?_⟩
    rw [e0]
    refine ⟨a0, es0, rfl, .inl (SqL.of hb0), _, rfl, _, _, rfl, rfl, _, rfl, ifT (decide_eq_true (by omega)) ⟨_, _, rfl, rfl, _, rfl, ?_⟩⟩
    refine ifF (by rw [decide_eq_true (show (es0.length : Int) ≤ 4 by omega)]; rfl) ?_
    -- all([len(row) == signs for row in machine])
    refine ⟨_, rfl, a, rfl, ⟨_, SqL.of h0⟩, fun D nD => lc_list (K := K) (a := a) (xs := rs) (fun i G => Gr mu0 F H F G ∧ G D = some (.lst (List.replicate i (V.bl true)))) ⟨g0.own nD, upd_same⟩ (fun i G _ p => SqL.of (p.1.fh _ _ ha)) ?_ ?_⟩
    · rintro i x G hi ⟨gG, hD⟩
      obtain ⟨row, hMi, b, es, rfl, hb, hes⟩ := hrs.get' hi
      have ls : es.length = S := hes.1.trans (hM.row _ (List.mem_of_getElem? hMi))
      have il : i < rs.length := (List.getElem?_eq_some_iff.mp hi).1
      refine ⟨rfl, ?_⟩
      refine yes ⟨_, rfl, b, es, rfl, .inl (SqL.of (gG.fh _ _ hb)), _, rfl, rfl, _, hD, by rw [List.length_replicate]; exact lt_size (by omega), ?_⟩
      have e : (V.bl (decide (V.int (es.length : Int) = V.int (es0.length : Int)))) = V.bl true := by rw [ls, ls0]; simp
      rw [e, rep_snoc]
      exact ⟨gG.set (ne_of_none' sF nD) (.inl nD), upd_same⟩
    · rintro G ⟨gG, hD⟩
      refine ⟨D, List.replicate rs.length true, rfl, SqL.of (by rw [map_rep]; exact hD), _, rfl, ifF (by rw [all_rep]; rfl) ?_⟩
      -- all([all([is_entry(entry, rows, signs) for entry in row]) for row in machine])
      refine ⟨_, rfl, a, rfl, ⟨_, SqL.of (gG.fh _ _ ha)⟩, fun D1 nD1 => lc_list (K := K) (a := a) (xs := rs) (fun i G1 => Gr mu0 F H F G1 ∧ H D1 = none ∧ G1 D1 = some (.lst (List.replicate i (V.bl true)))) ⟨gG.own nD1, gG.th _ nD1, upd_same⟩ (fun i G1 _ p => SqL.of (p.1.fh _ _ ha)) ?_ ?_⟩
      · rintro i x G1 hi ⟨gG1, nH, hD1⟩
        obtain ⟨row, hMi, b, es, rfl, hb, hes⟩ := hrs.get' hi
        have ls : es.length = S := hes.1.trans (hM.row _ (List.mem_of_getElem? hMi))
        have il : i < rs.length := (List.getElem?_eq_some_iff.mp hi).1
        refine ⟨rfl, yes ⟨_, rfl, b, rfl, ⟨_, SqL.of (gG1.fh _ _ hb)⟩, fun D2 nD2 => lc_list (K := K) (a := b) (xs := es) (fun j G2 => Gr mu0 F H F G2 ∧ H D2 = none ∧ D1 ≠ D2 ∧ G2 D1 = some (.lst (List.replicate i (V.bl true))) ∧ G2 D2 = some (.lst (List.replicate j (V.bl true))))
          ⟨gG1.own nD2, gG1.th _ nD2, ne_of_none hD1 nD2, by rw [upd_ne (ne_of_none hD1 nD2)]; exact hD1, upd_same⟩ (fun j G2 _ p => SqL.of (p.1.fh _ _ hb)) ?_ ?_⟩⟩
        · rintro j y G2 hj ⟨gG2, nH2, d12, h1, h2⟩
          obtain ⟨e, hej, hye⟩ := hes.get' hj
          have jl : j < es.length := (List.getElem?_eq_some_iff.mp hj).1
          refine ⟨rfl, yes ⟨_, rfl, _, rfl, _, rfl, F, y, e, R, S, ?_, gG2.fh, hye, hM.ent _ (List.mem_of_getElem? hMi) _ (List.mem_of_getElem? hej), fun G3 g3 => ?_⟩⟩
          · rw [lrs, ls0]
            rfl
          · have gH3 := gG2.trans g3
            refine ⟨_, g3.fr _ _ h2 (fun z => z), by rw [List.length_replicate]; exact lt_size (by omega), ?_⟩
            rw [rep_snoc]
            exact ⟨gH3.set (sF.free nH2) (.inl nH2), nH2, d12, by rw [upd_ne d12]; exact g3.fr _ _ h1 (fun z => z), upd_same⟩
        · rintro G2 ⟨gG2, nH2, d12, h1, h2⟩
          refine ⟨D2, List.replicate es.length true, rfl, SqL.of (by rw [map_rep]; exact h2), ?_⟩
          refine ⟨_, h1, by rw [List.length_replicate]; exact lt_size (by omega), ?_⟩
          rw [all_rep, rep_snoc]
          exact ⟨gG2.set (sF.free nH) (.inl nH), nH, upd_same⟩
      · rintro G1 ⟨gG1, nH, hD1⟩
        refine ⟨D1, List.replicate rs.length true, rfl, SqL.of (by rw [map_rep]; exact hD1), ?_⟩
        rw [all_rep]
        exact q _ gG1
def sp_must_machine : Sp := fun vs H Q _ => ∃ (F : Hp) (v : V) (M : Mach) (R S : Nat), vs = [v] ∧ Same F H ∧ Is F v M ∧ MOk M R S ∧ ∀ H', Gr mu0 F H F H' → Q .non H'
theorem ok_must_machine (t : Tx K mg) : FnOk P w K mg base CX0 3 t.a_must_machine t.fd_must_machine ["machine"] sp_must_machine := by
  refine t.F_must_machine.ok sc_must_machine (fun vs H Q E h => ?_) (fun cdv A outer s H vs Q E hr h => ?_)
  · obtain ⟨F, v, M, R, S, rfl, _⟩ := h
    rfl
  · obtain ⟨F, v, M, R, S, rfl, sF, hv, hM, q⟩ := h
    refine ⟨_, (pss_one (ps_if (pt_not (pt_val (pe_call (ok_is_machine t) (hr.mono (by decide)) (by rfl) t.m_is_machine t.F_is_machine.kp t.b_is_machine .nil pass0 (pa_cons (pv 0) pa_nil)))) (pss_one ps_never) pss_nil)), ?_⟩
    exact ⟨_, rfl, F, _, M, R, S, rfl, sF, hv, hM, fun H' g => ⟨_, rfl, ifF rfl (q _ g)⟩⟩
/-! ### a machine on its way -/
/-- a Goer stands at g, its dict at d -/
structure GoAt (C : Addr) (H : Hp) (g d : Addr) (tb : V) (r s : Int) (l : List PI) (n : Int) : Prop where
  ob : ∃ dx, H g = some (.ins C dx (Goer_F tb (.int r) (.int s) (.ref d) (.int n)))
  dc : H d = some (.dK (dI l))
theorem GoAt.ne {C : Addr} {H : Hp} {g d : Addr} {tb : V} {r s : Int} {l : List PI} {n : Int} (h : GoAt C H g d tb r s l n) : g ≠ d := by
  obtain ⟨dx, e⟩ := h.ob
  exact ne_of e h.dc (by intro z; cases z)
theorem GoAt.gr {mu : Addr → Prop} {C : Addr} {F H F' H' : Hp} {g d : Addr} {tb : V} {r s : Int} {l : List PI} {n : Int} (h : GoAt C H g d tb r s l n) (a : Gr mu F H F' H') (hg : ¬ mu g) (hd : ¬ mu d) : GoAt C H' g d tb r s l n := by
  obtain ⟨dx, e⟩ := h.ob
  exact ⟨⟨dx, a.fr _ _ e hg⟩, a.fr _ _ h.dc hd⟩
/-- places, and strips that are told, as a setup -/
abbrev Setup := T3 Int Int (List PI)
def sp_Goer_init (C : Addr) : Sp := fun vs H Q _ => ∃ (F : Hp) (g dx : Addr) (tb u : V) (x : Setup), vs = [.ref g, tb, u] ∧ H g = some (.ins C dx []) ∧ F g = none ∧ Same F H ∧ Is F u x ∧
  ∀ (d : Addr) (H' : Hp), H d = none → Gr (muP g) F H F H' → GoAt C H' g d tb x.a x.b (merge [] x.c) 0 → Q .non H'
theorem ok_Goer_init (t : Tx K mg) : FnOk P w K mg base CX0 1 t.a_Goer_init t.fd_Goer_init ["self", "machine", "setup"] (sp_Goer_init t.C_Goer) := by
  refine t.F_Goer_init.ok sc_Goer_init (fun vs H Q E h => ?_) (fun cdv A outer s H vs Q E hr h => ?_)
  · obtain ⟨F, g, dx, tb, u, x, rfl, _⟩ := h
    rfl
  · obtain ⟨F, g, dx, tb, u, x, rfl, hg, fg, sF, hu, q⟩ := h
    refine ⟨_, (pss_cons (ps_fld (pv 0) (pv 1) rfl)
      (pss_cons (ps_fld (pv 0) (pe_ix ix_tup (pv 2) pe_int (fun _ _ => rfl)) rfl)
      (pss_cons (ps_fld (pv 0) (pe_ix ix_tup (pv 2) pe_int (fun _ _ => rfl)) rfl)
      (pss_cons (ps_fld (pv 0) (pe_callTy (T := "dict") (call_dictQ rfl) (by rfl) t.n_dict (by decide +kernel) (pa_cons (pe_ix ix_tup (pv 2) pe_int (fun _ _ => rfl)) pa_nil)) rfl)
      (pss_one (ps_fld (pv 0) pe_int rfl)))))), ?_⟩
    obtain ⟨p, x1, x2, x3, rfl, hp, e1, e2, hl⟩ := hu
    have e1 : x1 = .int x.a := e1
    have e2 : x2 = .int x.b := e2
    subst e1
    subst e2
    obtain ⟨a, xs, rfl, ha, hxs⟩ := hl
    have g0 : Gr (muP g) F H F H := Gr.refl sF
    refine ⟨_, rfl, _, rfl, g, t.C_Goer, dx, [], rfl, hg, t.cl_Goer, t.nA_Goer_table, by show 0 < 1000; decide, ?_⟩
    have g1 := g0.set (o := .ins t.C_Goer dx [("table", tb)]) fg (.inr rfl)
    rw [Goer_mk0]
    refine ⟨_, rfl, p, _, _, _, rfl, rfl, SqT.of (g1.fh _ _ hp), atI_nat (j := 0) rfl, _, rfl, g, t.C_Goer, dx, _, rfl, upd_same, t.cl_Goer, t.nA_Goer_row, by show 1 < 1000; decide, ?_⟩
    have g2 := g1.set (o := .ins t.C_Goer dx [("table", tb), ("row", .int x.a)]) fg (.inr rfl)
    rw [Goer_mk1]
    refine ⟨_, rfl, p, _, _, _, rfl, rfl, SqT.of (g2.fh _ _ hp), atI_nat (j := 1) rfl, _, rfl, g, t.C_Goer, dx, _, rfl, upd_same, t.cl_Goer, t.nA_Goer_spot, by show 2 < 1000; decide, ?_⟩
    have g3 := g2.set (o := .ins t.C_Goer dx [("table", tb), ("row", .int x.a), ("spot", .int x.b)]) fg (.inr rfl)
    rw [Goer_mk2]
    refine ⟨_, rfl, p, _, _, _, rfl, rfl, SqT.of (g3.fh _ _ hp), atI_nat (j := 2) rfl, ?_⟩
    refine dict_pairs (hxs.up g3.fh) (SqL.of (g3.fh _ _ ha)) fun d nd => ?_
    have g4 := g3.own (o := .dK (dI (merge [] x.c))) nd
    have gd : g ≠ d := ne_of_none upd_same nd
    refine ⟨_, rfl, g, t.C_Goer, dx, _, rfl, (upd_ne gd).trans upd_same, t.cl_Goer, t.nA_Goer_signs, by show 3 < 1000; decide, ?_⟩
    have g5 := g4.set (o := .ins t.C_Goer dx [("table", tb), ("row", .int x.a), ("spot", .int x.b), ("signs", .ref d)]) fg (.inr rfl)
    rw [Goer_mk3]
    refine ⟨_, rfl, g, t.C_Goer, dx, _, rfl, upd_same, t.cl_Goer, t.nA_Goer_steps, by show 4 < 1000; decide, ?_⟩
    have g6 := g5.set (o := .ins t.C_Goer dx [("table", tb), ("row", .int x.a), ("spot", .int x.b), ("signs", .ref d), ("steps", .int 0)]) fg (.inr rfl)
    rw [Goer_mk4]
    exact q d _ (g3.th _ nd) g6 ⟨⟨dx, upd_same⟩, by rw [upd_ne gd.symm, upd_ne gd.symm, upd_same]⟩
def sp_Goer_entry (C : Addr) : Sp := fun vs H Q _ => ∃ (F : Hp) (g d : Addr) (tb : V) (M : Mach) (r s : Int) (l : List PI) (n : Int) (row : List Ent) (e : Ent), vs = [.ref g] ∧ Same F H ∧ Is F tb M ∧ GoAt C H g d tb r s l n ∧
  0 ≤ r ∧ M[r.toNat]? = some row ∧ 0 ≤ (look l s).getD 0 ∧ row[((look l s).getD 0).toNat]? = some e ∧ ∀ v, Is F v e → Q v H
theorem ok_Goer_entry (t : Tx K mg) : FnOk P w K mg base CX0 1 t.a_Goer_entry t.fd_Goer_entry ["self"] (sp_Goer_entry t.C_Goer) := by
  refine t.F_Goer_entry.ok sc_Goer_entry (fun vs H Q E h => ?_) (fun cdv A outer s H vs Q E hr h => ?_)
  · obtain ⟨F, g, d, tb, M, r, s, l, n, row, e, rfl, _⟩ := h
    rfl
  · obtain ⟨F, g, d, tb, M, r, s, l, n, row, e, rfl, sF, hM, hg, hr0, hrow, hs0, he, q⟩ := h
    refine ⟨_, (pss_one (ps_ret (pe_ix ix_list (pe_ix ix_list (pe_fld (pv 0) rfl) (pe_fld (pv 0) rfl) (fun _ _ => rfl)) (pe_dget2 (hu_of hr) (pe_fld (pv 0) rfl) (pe_fld (pv 0) rfl) pe_int ⟨by rfl, by rfl, by rfl, by rfl⟩) (fun _ _ => rfl)))), ?_⟩
    obtain ⟨⟨dx, ho⟩, hd⟩ := id hg
    obtain ⟨a, rs, rfl, ha, hrs⟩ := hM
    obtain ⟨x, hx, b, es, rfl, hb, hes⟩ := hrs.get hrow
    obtain ⟨y, hy, hye⟩ := hes.get he
    refine ⟨_, rfl, g, t.C_Goer, dx, _, _, rfl, ho, t.cl_Goer, t.nA_Goer_table, Goer_get_table, ?_⟩
    refine ⟨_, rfl, g, t.C_Goer, dx, _, _, rfl, ho, t.cl_Goer, t.nA_Goer_row, Goer_get_row, a, _, _, _, rfl, rfl, SqL.of (sF _ _ ha), at_of (Int.toNat_of_nonneg hr0).symm hx, ?_⟩
    refine ⟨_, rfl, g, t.C_Goer, dx, _, _, rfl, ho, t.cl_Goer, t.nA_Goer_signs, Goer_get_signs, d, rfl, .inl ⟨_, .inl hd⟩, _, rfl, g, t.C_Goer, dx, _, _, rfl, ho, t.cl_Goer, t.nA_Goer_spot, Goer_get_spot, _, DGet.k (k := Sum.inl s) hd, ?_⟩
    rw [dI_val]
    have e1 : ((look l s).map V.int).getD (.int 0) = .int ((look l s).getD 0) := by cases look l s <;> rfl
    rw [e1]
    exact ⟨b, _, _, _, rfl, rfl, SqL.of (sF _ _ hb), at_of (Int.toNat_of_nonneg hs0).symm hy, q _ hye⟩
/-- one step -/
def stepL (l : List PI) (s p : Int) : List PI := put l s p
def sp_Goer_step (C : Addr) : Sp := fun vs H Q _ => ∃ (F : Hp) (g d : Addr) (tb : V) (M : Mach) (r s : Int) (l : List PI) (n : Int) (row : List Ent) (e : Ent), vs = [.ref g] ∧ Same F H ∧ F g = none ∧ F d = none ∧ Is F tb M ∧ GoAt C H g d tb r s l n ∧
  0 ≤ r ∧ M[r.toNat]? = some row ∧ 0 ≤ (look l s).getD 0 ∧ row[((look l s).getD 0).toNat]? = some e ∧ l.length ≤ 100000 ∧
  (e = .emp → ∀ H', Gr mu0 F H F H' → Q (.bl false) H') ∧
  (∀ p w r', e = .go p w r' → ∀ H', Gr (fun c => c = g ∨ c = d) F H F H' → GoAt C H' g d tb r' (s + w) (put l s p) (n + 1) → Q (.bl true) H')
theorem ok_Goer_step (t : Tx K mg) : FnOk P w K mg base CX0 2 t.a_Goer_step t.fd_Goer_step ["self"] (sp_Goer_step t.C_Goer) := by
  refine t.F_Goer_step.ok sc_Goer_step (fun vs H Q E h => ?_) (fun cdv A outer s H vs Q E hr h => ?_)
  · obtain ⟨F, g, d, tb, M, r, s, l, n, row, e, rfl, _⟩ := h
    rfl
  · obtain ⟨F, g, d, tb, M, r, s, l, n, row, e, rfl, sF, fg, fd, hM, hg, hr0, hrow, hs0, he, hl, q1, q2⟩ := h
    refine ⟨_, (pss_cons (ps_set (i := 1) sc_Goer_step.nd rfl (by first | exact Or.inl rfl | exact Or.inr rfl) (pe_meth0 (pv 0) t.cl_Goer t.M_Goer_entry (ok_Goer_entry t) (hr.mono (by decide)) t.b_Goer_entry .nil pass0))
      (pss_cons (ps_if (pt_cmpR (op_eqD hr.units) (pv 1) (pe_tup pa_nil) (nomark _)) (pss_one (ps_ret pe_bl)) pss_nil)
      (pss_cons (ps_dput (hu_of hr) (pe_fld (pv 0) rfl) (pe_fld (pv 0) rfl) (pe_ix ix_tup (pv 1) pe_int (fun _ _ => rfl)) rfl)
      (pss_cons (ps_fldaug (pv 0) (pe_ix ix_tup (pv 1) pe_int (fun _ _ => rfl)) in_add)
      (pss_cons (ps_fld (pv 0) (pe_ix ix_tup (pv 1) pe_int (fun _ _ => rfl)) rfl)
      (pss_cons (ps_fldaug (pv 0) pe_int in_add)
      (pss_one (ps_ret pe_bl)))))))), ?_⟩
    obtain ⟨⟨dx, ho⟩, hd⟩ := id hg
    have gd := hg.ne
    have g0 : Gr (fun c => c = g ∨ c = d) F H F H := Gr.refl sF
    have g00 : Gr mu0 F H F H := Gr.refl sF
    refine ⟨_, rfl, g, dx, _, rfl, ho, Goer_no (by decide +kernel) (by decide +kernel) (by decide +kernel) (by decide +kernel) (by decide +kernel), F, g, d, tb, M, r, s, l, n, row, e, rfl, sF, hM, hg, hr0, hrow, hs0, he, fun v hv => ?_⟩
    refine ⟨_, rfl, nil_le, fun p np => ?_⟩
    refine eq_dat (a := e) (b := Ent.emp) (hv.up (g0.own np).fh) ⟨p, rfl, upd_same⟩ ?_
    refine ⟨_, rfl, ?_⟩
    refine ite2 (fun c => ?_) (fun c => ?_)
    · exact q1 (of_decide_eq_true c) _ (g00.own np)
    · cases e with
      | emp => exact absurd (decide_eq_true rfl) c
      | go pu wa ro =>
        obtain ⟨a, rfl, ha⟩ := hv
        have g1 := g0.own (o := .tup []) np
        have gp : g ≠ p := ne_of_none ho np
        have dp : d ≠ p := ne_of_none hd np
        have ho1 := (upd_ne (H := H) (o := .tup []) gp).trans ho
        have hd1 := (upd_ne (H := H) (o := .tup []) dp).trans hd
        -- self.signs[self.spot] = entry[0]
        refine ⟨_, rfl, a, _, _, _, rfl, rfl, SqT.of (g1.fh _ _ ha), atI_nat (j := 0) rfl, _, rfl, g, t.C_Goer, dx, _, _, rfl, ho1, t.cl_Goer, t.nA_Goer_signs, Goer_get_signs, _, rfl, g, t.C_Goer, dx, _, _, rfl, ho1, t.cl_Goer, t.nA_Goer_spot, Goer_get_spot, d, _, rfl, DPut.k (k := Sum.inl s) hd1 (by show (dI l).length < _; unfold dI; rw [List.length_map]; exact lt_size (by omega)), ?_⟩
        rw [dI_put]
        have g2 := g1.set (o := .dK (dI (put l s pu))) fd (.inr (.inr rfl))
        have ho2 := (upd_ne (H := upd H p (.tup [])) (o := .dK (dI (put l s pu))) gd).trans ho1
        -- self.spot += entry[1]
        refine ⟨_, rfl, g, t.C_Goer, dx, _, _, rfl, ho2, t.cl_Goer, t.nA_Goer_spot, Goer_get_spot, _, rfl, a, _, _, _, rfl, rfl, SqT.of (g2.fh _ _ ha), atI_nat (j := 1) rfl, _, _, rfl, rfl, _, _, ho2, Goer_few, ?_⟩
        rw [Goer_put_spot]
        have g3 := g2.set (o := .ins t.C_Goer dx (Goer_F tb (.int r) (.int (s + wa)) (.ref d) (.int n))) fg (.inr (.inl rfl))
        -- self.row = entry[2]
        refine ⟨_, rfl, a, _, _, _, rfl, rfl, SqT.of (g3.fh _ _ ha), atI_nat (j := 2) rfl, _, rfl, g, t.C_Goer, dx, _, rfl, upd_same, t.cl_Goer, t.nA_Goer_row, Goer_few, ?_⟩
        rw [Goer_put_row]
        have g4 := g3.set (o := .ins t.C_Goer dx (Goer_F tb (.int ro) (.int (s + wa)) (.ref d) (.int n))) fg (.inr (.inl rfl))
        -- self.steps += 1
        refine ⟨_, rfl, g, t.C_Goer, dx, _, _, rfl, upd_same, t.cl_Goer, t.nA_Goer_steps, Goer_get_steps, _, _, rfl, rfl, _, _, upd_same, Goer_few, ?_⟩
        rw [Goer_put_steps]
        have g5 := g4.set (o := .ins t.C_Goer dx (Goer_F tb (.int ro) (.int (s + wa)) (.ref d) (.int (n + 1)))) fg (.inr (.inl rfl))
        refine q2 _ _ _ rfl _ g5 ⟨⟨dx, upd_same⟩, ?_⟩
        rw [upd_ne gd.symm, upd_ne gd.symm, upd_ne gd.symm, upd_same]
/-! ### machines drawn: lists that may be changed yet -/
structure MaO (H F1 H1 : Hp) (m : Addr) (rs : List Addr) (ess : List (List V)) (M : Mach) : Prop where
  ow : Ow H F1 H1 m (.lst (rs.map V.ref))
  nd : rs.Nodup
  ne : m ∉ rs
  len : rs.length = ess.length
  rows : ∀ (i : Nat) r es, rs[i]? = some r → ess[i]? = some es → Ow H F1 H1 r (.lst es)
  dat : All2 (fun es row => IsAll F1 es row) ess M
section
variable {mu mu' : Addr → Prop} {H F F1 H1 F2 H2 : Hp} {m : Addr} {rs : List Addr} {ess : List (List V)} {M : Mach}
theorem MaO.row (x : MaO H F1 H1 m rs ess M) {r : Addr} (h : r ∈ rs) : ∃ es, Ow H F1 H1 r (.lst es) := by
  obtain ⟨i, hi⟩ := List.getElem?_of_mem h
  have l := (List.getElem?_eq_some_iff.mp hi).1
  exact ⟨ess[i]'(by rw [← x.len]; exact l), x.rows i r _ hi (List.getElem?_eq_getElem _)⟩
theorem MaO.gr (x : MaO H F1 H1 m rs ess M) (g : Gr mu F1 H1 F2 H2) (k : ∀ c, mu c → c ≠ m ∧ c ∉ rs) : MaO H F2 H2 m rs ess M where
  ow := x.ow.call g fun z => (k m z).1 rfl
  nd := x.nd
  ne := x.ne
  len := x.len
  rows := fun i r es h1 h2 => (x.rows i r es h1 h2).call g fun z => (k r z).2 (List.mem_of_getElem? h1)
  dat := x.dat.imp fun es row z => z.up g.ff
theorem MaO.off (x : MaO H F1 H1 m rs ess M) {p : Addr} {o : HO} (h : H p = some o) : ∀ c, muP p c → c ≠ m ∧ c ∉ rs := fun c e => by
  rw [show c = p from e]
  refine ⟨fun z => ?_, fun z => ?_⟩
  · rw [z, x.ow.n] at h; cases h
  · obtain ⟨es, w⟩ := x.row z
    rw [w.n] at h; cases h
theorem MaO.offn (x : MaO H F1 H1 m rs ess M) {p : Addr} (h : H1 p = none) : p ≠ m ∧ p ∉ rs := by
  refine ⟨fun z => ?_, fun z => ?_⟩
  · rw [z, x.ow.h] at h; cases h
  · obtain ⟨es, w⟩ := x.row z
    rw [w.h] at h; cases h
/-- a row that is done comes in -/
theorem MaO.add (x : MaO H F1 H1 m rs ess M) {r : Addr} {es : List V} {row : List Ent} (w : Ow H F1 H1 r (.lst es)) (k : r ≠ m ∧ r ∉ rs) (d : IsAll F1 es row) : MaO H F1 (upd H1 m (.lst ((rs ++ [r]).map V.ref))) m (rs ++ [r]) (ess ++ [es]) (M ++ [row]) where
  ow := x.ow.set
  nd := nd_snoc x.nd k.2
  ne := fun z => by
    rcases List.mem_append.mp z with z | z
    · exact x.ne z
    · exact k.1 (List.mem_singleton.mp z).symm
  len := by rw [List.length_append, List.length_append, x.len]; rfl
  rows := fun i r' es' h1 h2 => by
    by_cases l : i < rs.length
    · rw [List.getElem?_append_left l] at h1
      rw [List.getElem?_append_left (by rw [← x.len]; exact l)] at h2
      exact (x.rows i r' es' h1 h2).other fun z => x.ne (by rw [← z]; exact List.mem_of_getElem? h1)
    · rw [List.getElem?_append_right (by omega)] at h1
      rw [List.getElem?_append_right (by rw [← x.len]; omega), ← x.len] at h2
      cases e : i - rs.length with
      | zero =>
        rw [e] at h1 h2
        cases h1; cases h2
        exact w.other k.1
      | succ n => rw [e] at h1; cases h1
  dat := x.dat.app (All2.one d)
/-- an entry of it is changed -/
theorem MaO.put (x : MaO H F1 H1 m rs ess M) {i j : Nat} {r : Addr} {es : List V} {row : List Ent} {v : V} {e : Ent} (hr : rs[i]? = some r) (hes : ess[i]? = some es) (hrow : M[i]? = some row) (hv : Is F1 v e) :
    MaO H F1 (upd H1 r (.lst (es.set j v))) m rs (ess.set i (es.set j v)) (M.set i (row.set j e)) where
  ow := x.ow.other fun z => x.ne (by rw [z]; exact List.mem_of_getElem? hr)
  nd := x.nd
  ne := x.ne
  len := by rw [List.length_set]; exact x.len
  rows := fun i' r' es' h1 h2 => by
    by_cases e : i = i'
    · subst e
      rw [hr] at h1
      cases h1
      rw [List.getElem?_set_self (List.getElem?_eq_some_iff.mp hes).1] at h2
      cases h2
      exact (x.rows i r es hr hes).set
    · rw [List.getElem?_set_ne e] at h2
      exact (x.rows i' r' es' h1 h2).other fun z => e (nd_ix x.nd hr (by rw [← z]; exact h1))
  dat := x.dat.set ((x.dat.2 i es row hes hrow).set hv j) i
/-- it is changed no more -/
theorem MaO.frz (x : MaO H F1 H1 m rs ess M) (g : Gr mu F H F1 H1) : ∃ F2, Gr mu F H F2 H1 ∧ Same F1 F2 ∧ Is F2 (.ref m) M ∧ (∀ c, c ≠ m → c ∉ rs → F2 c = F1 c) ∧ ∀ c, c = m ∨ c ∈ rs → F2 c = H1 c := by
  have own : ∀ c, (c = m ∨ c ∈ rs) → H c = none ∧ F1 c = none ∧ ∃ o, H1 c = some o := fun c h => by
    rcases h with rfl | h
    · exact ⟨x.ow.n, x.ow.f, _, x.ow.h⟩
    · obtain ⟨es, w⟩ := x.row h
      exact ⟨w.n, w.f, _, w.h⟩
  have s : Same F1 (fun c => if c = m ∨ c ∈ rs then H1 c else F1 c) := fun c o h => by
    by_cases e : c = m ∨ c ∈ rs
    · rw [(own c e).2.1] at h; cases h
    · simp only [e, if_false]; exact h
  refine ⟨fun c => if c = m ∨ c ∈ rs then H1 c else F1 c, ⟨fun c o h => s c o (g.ff c o h), fun c o h => ?_, fun c o h => ?_, g.fr, g.th⟩, s, ⟨m, rs.map V.ref, rfl, ?_, by rw [List.length_map, x.len]; exact x.dat.1, fun i v row h1 h2 => ?_⟩, fun c h1 h2 => if_neg fun z => z.elim h1 h2, fun c h => if_pos h⟩
  · by_cases e : c = m ∨ c ∈ rs
    · simp only [e, if_true] at h; exact h
    · simp only [e, if_false] at h; exact g.fh c o h
  · by_cases e : c = m ∨ c ∈ rs
    · exact .inr (own c e).1
    · simp only [e, if_false] at h; exact g.nw c o h
  · show (if m = m ∨ m ∈ rs then H1 m else F1 m) = _
    rw [if_pos (.inl rfl)]; exact x.ow.h
  · rw [List.getElem?_map] at h1
    cases hr : rs[i]? with
    | none => rw [hr] at h1; cases h1
    | some r =>
      rw [hr] at h1
      cases h1
      obtain ⟨es, hes, hd⟩ := x.dat.get h2
      refine ⟨r, es, rfl, ?_, hd.up s⟩
      show (if r = m ∨ r ∈ rs then H1 r else F1 r) = _
      rw [if_pos (.inr (List.mem_of_getElem? hr))]
      exact (x.rows i r es hr hes).h
/-- it may be changed again -/
theorem MaO.thaw {F0 F3 G : Hp} (s0 : Same F0 H) (x : MaO H F1 H1 m rs ess M) (s : Same F1 F2) (on : ∀ c, c = m ∨ c ∈ rs → F2 c = H1 c) (s' : Same F2 F3) (g : Gr mu F0 H F3 G) : ∃ F', Gr mu F0 H F' G ∧ Same F1 F' ∧ MaO H F' G m rs ess M := by
  have own : ∀ c, (c = m ∨ c ∈ rs) → H c = none ∧ F1 c = none ∧ ∀ o, H1 c = some o → G c = some o := fun c h => by
    have k : ∀ o, H1 c = some o → G c = some o := fun o e => g.fh _ _ (s' _ _ ((on c h).trans e))
    rcases id h with rfl | h
    · exact ⟨x.ow.n, x.ow.f, k⟩
    · obtain ⟨es, w⟩ := x.row h
      exact ⟨w.n, w.f, k⟩
  have sa : Same F1 (fun c => if c = m ∨ c ∈ rs then none else F3 c) := fun c o h => by
    by_cases e : c = m ∨ c ∈ rs
    · rw [(own c e).2.1] at h; cases h
    · simp only [e, if_false]; exact s' _ _ (s _ _ h)
  have sb : Same (fun c => if c = m ∨ c ∈ rs then none else F3 c) F3 := fun c o h => by
    by_cases e : c = m ∨ c ∈ rs
    · simp only [e, if_true] at h; cases h
    · simp only [e, if_false] at h; exact h
  have no : ∀ c, (c = m ∨ c ∈ rs) → (fun c => if c = m ∨ c ∈ rs then none else F3 c) c = none := fun c e => if_pos e
  refine ⟨fun c => if c = m ∨ c ∈ rs then none else F3 c, ⟨fun c o h => ?_, fun c o h => g.fh _ _ (sb _ _ h), fun c o h => g.nw _ _ (sb _ _ h), g.fr, g.th⟩, sa, ⟨⟨x.ow.n, no _ (.inl rfl), (own _ (.inl rfl)).2.2 _ x.ow.h⟩, x.nd, x.ne, x.len, fun i r es h1 h2 => ?_, x.dat.imp fun es row z => z.up sa⟩⟩
  · by_cases e : c = m ∨ c ∈ rs
    · have z := s0 c o h
      rw [(own c e).1] at z; cases z
    · simp only [e, if_false]; exact g.ff c o h
  · have w := x.rows i r es h1 h2
    have m' : r = m ∨ r ∈ rs := .inr (List.mem_of_getElem? h1)
    exact ⟨w.n, no _ m', (own _ m').2.2 _ w.h⟩
theorem MaO.at (x : MaO H F1 H1 m rs ess M) {i : Nat} {row : List Ent} (h : M[i]? = some row) : ∃ r es, rs[i]? = some r ∧ ess[i]? = some es ∧ Ow H F1 H1 r (.lst es) ∧ IsAll F1 es row := by
  obtain ⟨es, hes, al⟩ := x.dat.get h
  have l : i < rs.length := by rw [x.len]; exact (List.getElem?_eq_some_iff.mp hes).1
  exact ⟨_, es, List.getElem?_eq_getElem l, hes, x.rows i _ es (List.getElem?_eq_getElem l) hes, al⟩
end
theorem ixN_of {n : Nat} {k : Int} (h0 : 0 ≤ k) (h1 : k < n) : ixN n k = some k.toNat := by
  unfold ixN
  rw [if_pos h0, if_pos h1]
theorem Gr.pf {mu : Addr → Prop} {F H F1 H1 : Hp} {p : Addr} {o : HO} (g : Gr mu F H F1 H1) (f : F p = none) (h : H p = some o) : F1 p = none := by
  cases e : F1 p with
  | none => rfl
  | some z =>
    rcases g.nw p z e with k | k
    · rw [f] at k; cases k
    · rw [h] at k; cases k
/-- a draw: the purse alone is another one -/
theorem Gr.drw {F H F1 H1 : Hp} {p : Addr} {o : HO} {a b : Int} (g : Gr (muP p) F H F1 H1) (f : F p = none) (h : H p = some o) : Gr (muP p) F H F1 (upd H1 p (PurseO a b)) ∧ Gr (muP p) F1 H1 F1 (upd H1 p (PurseO a b)) :=
  ⟨g.set (g.pf f h) (.inr rfl), (Gr.refl g.fh).set (g.pf f h) (.inr rfl)⟩
theorem MOk.set {M : Mach} {R S i j : Nat} {row : List Ent} {e : Ent} (h : MOk M R S) (hr : M[i]? = some row) (he : EOk R S e) : MOk (M.set i (row.set j e)) R S := by
  have mr := List.mem_of_getElem? hr
  refine ⟨h.r1, h.r4, h.s2, h.s4, by rw [List.length_set]; exact h.len, fun r z => ?_, fun r z e' z' => ?_⟩
  · rcases List.mem_or_eq_of_mem_set z with z | rfl
    · exact h.row r z
    · rw [List.length_set]; exact h.row row mr
  · rcases List.mem_or_eq_of_mem_set z with z | rfl
    · exact h.ent r z e' z'
    · rcases List.mem_or_eq_of_mem_set z' with z' | rfl
      · exact h.ent row mr e' z'
      · exact he
def sp_L_machine : Sp := fun vs H Q _ => ∃ (F : Hp) (p : Addr) (a b : Int), vs = [.ref p] ∧ Same F H ∧ F p = none ∧ H p = some (PurseO a b) ∧ 0 ≤ a ∧ 0 ≤ b ∧
  ∀ (F' H' : Hp) (m : Addr) (rs : List Addr) (ess : List (List V)) (M : Mach) (R S : Nat) (a' b' : Int), Gr (muP p) F H F' H' → H' p = some (PurseO a' b') → 0 ≤ a' → 0 ≤ b' → MOk M R S → MaO H F' H' m rs ess M → Q (.ref m) H'
theorem ok_L_machine (t : Tx K mg) : FnOk P w K mg base CX0 2 t.a_L_machine t.fd_L_machine ["_law_purse_here"] sp_L_machine := by
  refine t.F_L_machine.ok sc_L_machine (fun vs H Q E h => ?_) (fun cdv A outer s H vs Q E hr h => ?_)
  · obtain ⟨F, p, a, b, rfl, _⟩ := h
    rfl
  · obtain ⟨F, p, a, b, rfl, sF, fp, hp, ha, hb, q⟩ := h
    refine ⟨_, (pss_cons (ps_set (i := 1) sc_L_machine.nd rfl (by first | exact Or.inl rfl | exact Or.inr rfl) (pe_op op_add pe_int (pe_call (ok_L_draw t) (hr.mono (by decide)) (by rfl) t.m_L_draw t.F_L_draw.kp t.b_L_draw .nil pass0 (pa_cons (pv 0) (pa_cons pe_int pa_nil)))))
      (pss_cons (ps_set (i := 2) sc_L_machine.nd rfl (by first | exact Or.inl rfl | exact Or.inr rfl) (pe_op op_add pe_int (pe_call (ok_L_draw t) (hr.mono (by decide)) (by rfl) t.m_L_draw t.F_L_draw.kp t.b_L_draw .nil pass0 (pa_cons (pv 0) (pa_cons pe_int pa_nil)))))
      (pss_cons (ps_set (i := 3) sc_L_machine.nd rfl (by first | exact Or.inl rfl | exact Or.inr rfl) (pe_call (ok_L_draw t) (hr.mono (by decide)) (by rfl) t.m_L_draw t.F_L_draw.kp t.b_L_draw .nil pass0 (pa_cons (pv 0) (pa_cons pe_int pa_nil))))
      (pss_cons (ps_set (i := 4) sc_L_machine.nd rfl (by first | exact Or.inl rfl | exact Or.inr rfl) (pe_lst pa_nil))
      (pss_cons (ps_for PassesOwn.never rfl (pi_range1 (by rfl) t.n_range (pa_cons (pv 1) pa_nil)) (pg_name (i := 5) sc_L_machine.nd rfl (by first | exact Or.inl rfl | exact Or.inr rfl)) (pss_cons (ps_set (i := 6) sc_L_machine.nd rfl (by first | exact Or.inl rfl | exact Or.inr rfl) (pe_lst pa_nil))
      (pss_cons (ps_for PassesOwn.never rfl (pi_range1 (by rfl) t.n_range (pa_cons (pv 2) pa_nil)) (pg_name (i := 7) sc_L_machine.nd rfl (by first | exact Or.inl rfl | exact Or.inr rfl)) (pss_cons (ps_set (i := 8) sc_L_machine.nd rfl (by first | exact Or.inl rfl | exact Or.inr rfl) (pe_tup (pa_cons (pe_call (ok_L_draw t) (hr.mono (by decide)) (by rfl) t.m_L_draw t.F_L_draw.kp t.b_L_draw .nil pass0 (pa_cons (pv 0) (pa_cons (pv 2) pa_nil))) (pa_cons (pe_op op_sub (pe_op op_mul pe_int (pe_call (ok_L_draw t) (hr.mono (by decide)) (by rfl) t.m_L_draw t.F_L_draw.kp t.b_L_draw .nil pass0 (pa_cons (pv 0) (pa_cons pe_int pa_nil)))) pe_int) (pa_cons (pe_call (ok_L_draw t) (hr.mono (by decide)) (by rfl) t.m_L_draw t.F_L_draw.kp t.b_L_draw .nil pass0 (pa_cons (pv 0) (pa_cons (pv 1) pa_nil))) pa_nil)))))
      (pss_cons (ps_if (PW.pt (pw_and (pt_cmpR op_gt (pv 3) pe_int (nomark _)) (pw_and1 (pt_cmpR op_eq (pe_call (ok_L_draw t) (hr.mono (by decide)) (by rfl) t.m_L_draw t.F_L_draw.kp t.b_L_draw .nil pass0 (pa_cons (pv 0) (pa_cons (pe_op op_add pe_int (pe_op op_mul pe_int (pv 3))) pa_nil))) pe_int (nomark _))))) (pss_one (ps_set (i := 8) sc_L_machine.nd rfl (by first | exact Or.inl rfl | exact Or.inr rfl) (pe_tup pa_nil))) pss_nil)
      (pss_one (ps_expr (pe_bm PySem.F.plainAttrs_list PySem.F.slot_list_append PySem.F.type_list_append mt_append (pv 6) (pa_cons (pv 8) pa_nil)))))))
      (pss_one (ps_expr (pe_bm PySem.F.plainAttrs_list PySem.F.slot_list_append PySem.F.type_list_append mt_append (pv 4) (pa_cons (pv 6) pa_nil)))))))
      (pss_cons (ps_if (pt_cmpR op_eq (pv 3) pe_int (nomark _)) (pss_one (ps_asg (pe_tup pa_nil) (pg_sub (pe_ix ix_list (pv 4) (pe_call (ok_L_draw t) (hr.mono (by decide)) (by rfl) t.m_L_draw t.F_L_draw.kp t.b_L_draw .nil pass0 (pa_cons (pv 0) (pa_cons (pv 1) pa_nil))) (fun _ _ => rfl)) (pe_call (ok_L_draw t) (hr.mono (by decide)) (by rfl) t.m_L_draw t.F_L_draw.kp t.b_L_draw .nil pass0 (pa_cons (pv 0) (pa_cons (pv 2) pa_nil))) set_list))) pss_nil)
      (pss_one (ps_ret (pv 4))))))))), ?_⟩
    have g0 : Gr (muP p) F H F H := Gr.refl sF
    -- rows, signs, kind
    refine ⟨_, rfl, p, a, b, 4, rfl, hp, ha, hb, by decide, by decide, fun d1 a1 b1 d10 d11 ha1 hb1 => ⟨_, _, rfl, rfl, ?_⟩⟩
    have g1 := g0.set (o := PurseO a1 b1) fp (.inr rfl)
    refine ⟨_, rfl, p, a1, b1, 3, rfl, upd_same, ha1, hb1, by decide, by decide, fun d2 a2 b2 d20 d21 ha2 hb2 => ⟨_, _, rfl, rfl, ?_⟩⟩
    have g2 := g1.set (o := PurseO a2 b2) fp (.inr rfl)
    refine ⟨_, rfl, p, a2, b2, 4, rfl, upd_same, ha2, hb2, by decide, by decide, fun d3 a3 b3 d30 d31 ha3 hb3 => ?_⟩
    have g3 := g2.set (o := PurseO a3 b3) fp (.inr rfl)
    generalize eH3 : upd (upd (upd H p (PurseO a1 b1)) p (PurseO a2 b2)) p (PurseO a3 b3) = H3 at g3
    have hp3 : H3 p = some (PurseO a3 b3) := by rw [← eH3]; exact upd_same
    have eR : ((1 + d1).toNat : Int) = 1 + d1 := Int.toNat_of_nonneg (by omega)
    have eS : ((2 + d2).toNat : Int) = 2 + d2 := Int.toNat_of_nonneg (by omega)
    generalize hR : (1 + d1).toNat = R at eR
    generalize hS : (2 + d2).toNat = S at eS
    dsimp only
    rw [← eR, ← eS]
    have R4 : R ≤ 4 := by omega
    have R1 : 1 ≤ R := by omega
    have S4 : S ≤ 4 := by omega
    have S2 : 2 ≤ S := by omega
    -- found = []
    refine ⟨nil_le, fun D nD => ?_⟩
    have x0 : MaO H F (upd H3 D (.lst [])) D [] [] [] := ⟨Ow.mk1 g3 nD, List.nodup_nil, (fun z => nomatch z), rfl, fun i r es h _ => (by cases h), All2.nil⟩
    have g4 := g3.own (o := .lst []) nD
    refine ⟨_, rfl, (R : Int), rfl, by omega, by omega, for_range (lo := 0) (n := ((R : Int)).toNat) (fun i σ G => ∃ (F1 : Hp) (rs : List Addr) (ess : List (List V)) (M : Mach) (a b : Int) (v5 v6 v7 v8 : Option V), σ = [some (.ref p), some (.int R), some (.int S), some (.int d3), some (.ref D), v5, v6, v7, v8] ∧
      Gr (muP p) F H F1 G ∧ G p = some (PurseO a b) ∧ 0 ≤ a ∧ 0 ≤ b ∧ MaO H F1 G D rs ess M ∧ M.length = i ∧ ∀ row ∈ M, row.length = S ∧ ∀ e ∈ row, EOk R S e) ⟨F, [], [], [], a3, b3, none, none, none, none, rfl, g4, ?_, ha3, hb3, x0, rfl, fun row z => nomatch z⟩ ?_ ?_⟩
    · rw [upd_ne (ne_of_none hp3 nD)]; exact hp3
    · rintro i σ G hi ⟨F1, rs, ess, M, a, b, v5, v6, v7, v8, rfl, g, hpG, ha, hb, x, hl, hM⟩
      -- row = []
      refine ⟨nil_le, fun r nr => ?_⟩
      have gr := g.own (o := .lst []) nr
      have wr : Ow H F1 (upd G r (.lst [])) r (.lst []) := Ow.mk1 g nr
      have xr := x.gr ((Gr.refl (mu := mu0) g.fh).own (o := .lst []) nr) fun c z => z.elim
      have offr := x.offn nr
      have hpr : (upd G r (.lst [])) p = some (PurseO a b) := by rw [upd_ne (ne_of_none hpG nr)]; exact hpG
      refine ⟨_, rfl, (S : Int), rfl, by omega, by omega, for_range (lo := 0) (n := ((S : Int)).toNat) (fun j σ G => ∃ (F1 : Hp) (es : List V) (row : List Ent) (a b : Int) (v7 v8 : Option V), σ = [some (.ref p), some (.int R), some (.int S), some (.int d3), some (.ref D), some (.int (0 + i)), some (.ref r), v7, v8] ∧
        Gr (muP p) F H F1 G ∧ G p = some (PurseO a b) ∧ 0 ≤ a ∧ 0 ≤ b ∧ MaO H F1 G D rs ess M ∧ Ow H F1 G r (.lst es) ∧ IsAll F1 es row ∧ row.length = j ∧ ∀ e ∈ row, EOk R S e) ⟨F1, [], [], a, b, v7, v8, rfl, gr, hpr, ha, hb, xr, wr, All2.nil, rfl, fun e z => nomatch z⟩ ?_ ?_⟩
      · rintro j σ G hj ⟨F1, es, row, a, b, v7, v8, rfl, g, hpG, ha, hb, x, w, al, hl, hrow⟩
        have wp : r ≠ p := fun z => by rw [z] at w; rw [w.n] at hp; cases hp
        have wD : r ≠ D := offr.1
        -- the entry
        refine ⟨_, rfl, _, rfl, p, a, b, (S : Int), rfl, hpG, ha, hb, by omega, by omega, fun e1 a1 b1 e10 e11 ha1 hb1 => ?_⟩
        obtain ⟨g1, k1⟩ := g.drw (a := a1) (b := b1) fp hp
        refine ⟨_, rfl, p, a1, b1, 2, rfl, upd_same, ha1, hb1, by decide, by decide, fun e2 a2 b2 e20 e21 ha2 hb2 => ⟨_, _, rfl, rfl, .inl ⟨by decide, by decide⟩, _, _, rfl, rfl, ?_⟩⟩
        obtain ⟨g2, k2⟩ := g1.drw (a := a2) (b := b2) fp hp
        refine ⟨_, rfl, _, rfl, p, a2, b2, (R : Int), rfl, upd_same, ha2, hb2, by omega, by omega, fun e3 a3 b3 e30 e31 ha3 hb3 => ⟨three_le, fun q0 nq => ?_⟩⟩
        obtain ⟨g3, k3⟩ := g2.drw (a := a3) (b := b3) fp hp
        have k := (k1.trans k2).trans k3
        have x3 := x.gr k (x.off hp)
        have w3 := w.call k wp
        have hp3 : (upd (upd (upd G p (PurseO a1 b1)) p (PurseO a2 b2)) p (PurseO a3 b3)) p = some (PurseO a3 b3) := upd_same
        generalize upd (upd (upd G p (PurseO a1 b1)) p (PurseO a2 b2)) p (PurseO a3 b3) = G3 at g3 k x3 w3 hp3 nq
        have g4 := g3.new (o := .tup [.int e1, .int (2 * e2 - 1), .int e3]) nq
        have k4 := (Gr.refl (mu := mu0) g3.fh).new (o := .tup [.int e1, .int (2 * e2 - 1), .int e3]) nq
        have x4 := x3.gr k4 fun c z => z.elim
        have w4 := w3.call k4 fun z => z
        have hp4 := k4.fr _ _ hp3 fun z => z
        have ee : Is (upd F1 q0 (.tup [.int e1, .int (2 * e2 - 1), .int e3])) (.ref q0) (Ent.go e1 (2 * e2 - 1) e3) := ⟨q0, rfl, upd_same⟩
        have eo : EOk R S (Ent.go e1 (2 * e2 - 1) e3) := ⟨fun p w r z => by cases z; exact ⟨⟨e10, e11⟩, by omega, e30, e31⟩⟩
        have al4 := al.up k4.ff
        generalize upd F1 q0 (.tup [.int e1, .int (2 * e2 - 1), .int e3]) = F4 at g4 k4 x4 w4 ee al4
        generalize upd G3 q0 (.tup [.int e1, .int (2 * e2 - 1), .int e3]) = G4 at g4 k4 x4 w4 hp4
        -- what is the same in both ways: the entry comes in
        have fin : ∀ (F5 G5 : Hp) (q5 : Addr) (e5 : Ent) (a5 b5 : Int), Gr (muP p) F H F5 G5 → G5 p = some (PurseO a5 b5) → 0 ≤ a5 → 0 ≤ b5 → MaO H F5 G5 D rs ess M → Ow H F5 G5 r (.lst es) → IsAll F5 es row → Is F5 (.ref q5) e5 → EOk R S e5 →
            ∃ (F1 : Hp) (es1 : List V) (row : List Ent) (a b : Int) (v7 v8 : Option V), [some (.ref p), some (.int R), some (.int S), some (.int d3), some (.ref D), some (.int (0 + i)), some (.ref r), some (.int (0 + j)), some (.ref q5)] = [some (.ref p), some (.int R), some (.int S), some (.int d3), some (.ref D), some (.int (0 + i)), some (.ref r), v7, v8] ∧
              Gr (muP p) F H F1 (upd G5 r (.lst (es ++ [.ref q5]))) ∧ (upd G5 r (.lst (es ++ [.ref q5]))) p = some (PurseO a b) ∧ 0 ≤ a ∧ 0 ≤ b ∧ MaO H F1 (upd G5 r (.lst (es ++ [.ref q5]))) D rs ess M ∧ Ow H F1 (upd G5 r (.lst (es ++ [.ref q5]))) r (.lst es1) ∧ IsAll F1 es1 row ∧ row.length = j + 1 ∧ ∀ e ∈ row, EOk R S e := by
          intro F5 G5 q5 e5 a5 b5 g5 hp5 ha5 hb5 x5 w5 al5 ie5 eo5
          refine ⟨F5, es ++ [.ref q5], row ++ [e5], a5, b5, _, _, rfl, g5.set w5.f (.inl w5.n), by rw [upd_ne (Ne.symm wp)]; exact hp5, ha5, hb5, x5.gr (mu := fun c => c = r) ((Gr.refl g5.fh).set w5.f (.inr rfl)) (fun c z => by rw [show c = r from z]; exact offr), w5.set, al5.app (All2.one ie5), by rw [List.length_append, hl]; rfl, fun e z => ?_⟩
          rcases List.mem_append.mp z with z | z
          · exact hrow e z
          · rw [List.mem_singleton.mp z]; exact eo5
        have ll : ∀ G5 F5 : Hp, IsAll F5 es row → es.length < sizeLine := fun _ _ z => by rw [z.1, hl]; exact lt_size (by omega)
        refine ⟨_, rfl, _, _, rfl, rfl, _, rfl, ?_⟩
        refine ite2 (fun c => ?_) (fun c => ?_)
        · refine ⟨_, rfl, _, rfl, _, _, rfl, rfl, .inl ⟨by decide, by decide⟩, _, _, rfl, rfl, p, a3, b3, _, rfl, hp4, ha3, hb3, by omega, by omega, fun e4 a4 b4 e40 e41 ha4 hb4 => ⟨rfl, _, rfl, ?_⟩⟩
          obtain ⟨g5, k5⟩ := g4.drw (a := a4) (b := b4) fp hp
          have x5 := x4.gr k5 (x4.off hp)
          have w5 := w4.call k5 wp
          have al5 := al4.up k5.ff
          have hp5 : (upd G4 p (PurseO a4 b4)) p = some (PurseO a4 b4) := upd_same
          generalize upd G4 p (PurseO a4 b4) = G5 at g5 k5 x5 w5 hp5
          refine ite2 (fun c => ?_) (fun c => ?_)
          · refine ⟨nil_le, fun q2 nq2 => ?_⟩
            have g6 := g5.new (o := .tup []) nq2
            have k6 := (Gr.refl (mu := mu0) g5.fh).new (o := .tup []) nq2
            have x6 := x5.gr k6 fun c z => z.elim
            have w6 := w5.call k6 fun z => z
            refine ⟨_, rfl, .inl ⟨rfl, _, SqL.of w6.h⟩, _, rfl, r, _, _, rfl, rfl, w6.h, ll G5 _ al5, ?_⟩
            exact fin _ _ q2 .emp a4 b4 g6 (k6.fr _ _ hp5 fun z => z) ha4 hb4 x6 w6 (al5.up k6.ff) ⟨q2, rfl, upd_same⟩ ⟨fun p w r z => by cases z⟩
          · refine ⟨_, rfl, .inl ⟨rfl, _, SqL.of w5.h⟩, _, rfl, r, _, _, rfl, rfl, w5.h, ll G5 _ al5, ?_⟩
            exact fin _ _ q0 _ a4 b4 g5 hp5 ha4 hb4 x5 w5 al5 (ee.up k5.ff) eo
        · refine ifF rfl ?_
          refine ⟨_, rfl, .inl ⟨rfl, _, SqL.of w4.h⟩, _, rfl, r, _, _, rfl, rfl, w4.h, ll G4 _ al4, ?_⟩
          exact fin _ _ q0 _ a3 b3 g4 hp4 ha3 hb3 x4 w4 al4 ee eo
      · rintro σ G ⟨F1, es, row, a, b, v7, v8, rfl, g, hpG, ha, hb, x, w, al, hl2, hrow⟩
        have hl2 : row.length = S := by rw [hl2]; exact Int.toNat_natCast S
        refine ⟨_, rfl, .inl ⟨rfl, _, SqL.of x.ow.h⟩, _, rfl, D, _, _, rfl, rfl, x.ow.h, by rw [List.length_map, x.len, x.dat.1, hl]; exact lt_size (by omega), ?_⟩
        have e1 : rs.map V.ref ++ [V.ref r] = (rs ++ [r]).map V.ref := by rw [List.map_append]; rfl
        rw [e1]
        have pD : p ≠ D := fun z => by rw [z] at hp; rw [x.ow.n] at hp; cases hp
        refine ⟨F1, rs ++ [r], ess ++ [es], M ++ [row], a, b, _, _, _, _, rfl, g.set x.ow.f (.inl x.ow.n), by rw [upd_ne pD]; exact hpG, ha, hb, x.add w offr al, by rw [List.length_append, hl]; rfl, fun row' z => ?_⟩
        rcases List.mem_append.mp z with z | z
        · exact hM row' z
        · rw [List.mem_singleton.mp z]; exact ⟨hl2, hrow⟩
    · rintro σ G ⟨F1, rs, ess, M, a, b, v5, v6, v7, v8, rfl, g, hpG, ha, hb, x, hl, hM⟩
      have hl : M.length = R := by rw [hl]; exact Int.toNat_natCast R
      have mok : ∀ M' : Mach, M'.length = R → (∀ row ∈ M', row.length = S ∧ ∀ e ∈ row, EOk R S e) → MOk M' R S := fun M' h1 h2 => ⟨R1, R4, S2, S4, h1, fun r z => (h2 r z).1, fun r z => (h2 r z).2⟩
      refine ⟨_, rfl, rfl, _, rfl, ?_⟩
      refine ite2 (fun c => ?_) (fun c => ?_)
      · refine ⟨nil_le, fun q2 nq2 => ?_⟩
        have g6 := g.new (o := .tup []) nq2
        have k6 := (Gr.refl (mu := mu0) g.fh).new (o := .tup []) nq2
        have x6 := x.gr k6 fun c z => z.elim
        have hp6 := k6.fr _ _ hpG fun z => z
        have i6 : Is (upd F1 q2 (.tup [])) (.ref q2) Ent.emp := ⟨q2, rfl, upd_same⟩
        generalize upd F1 q2 (.tup []) = F6 at g6 k6 x6 i6
        generalize upd G q2 (.tup []) = G6 at g6 k6 x6 hp6
        refine ⟨_, rfl, _, rfl, _, rfl, p, a, b, (R : Int), rfl, hp6, ha, hb, by omega, by omega, fun i1 a1 b1 i10 i11 ha1 hb1 => ?_⟩
        obtain ⟨g7, k7⟩ := g6.drw (a := a1) (b := b1) fp hp
        have x7 := x6.gr k7 (x6.off hp)
        have hi : i1.toNat < rs.length := by rw [x.len, x.dat.1, hl]; omega
        have hrs : rs[i1.toNat]? = some rs[i1.toNat] := List.getElem?_eq_getElem hi
        have hes : ess[i1.toNat]? = some (ess[i1.toNat]'(by rw [← x.len]; exact hi)) := List.getElem?_eq_getElem _
        obtain ⟨row, hrow, al⟩ := x7.dat.get' hes
        have w7 := x7.rows _ _ _ hrs hes
        refine ⟨D, _, i1, _, rfl, rfl, SqL.of x7.ow.h, at_of (Int.toNat_of_nonneg i10).symm (by rw [List.getElem?_map, hrs]; rfl), ?_⟩
        refine ⟨_, rfl, _, rfl, p, a1, b1, (S : Int), rfl, upd_same, ha1, hb1, by omega, by omega, fun i2 a2 b2 i20 i21 ha2 hb2 => ?_⟩
        obtain ⟨g8, k8⟩ := g7.drw (a := a2) (b := b2) fp hp
        have x8 := x7.gr k8 (x7.off hp)
        have w8 := x8.rows _ _ _ hrs hes
        have ml : row ∈ M := List.mem_of_getElem? hrow
        have lr := (hM row ml).1
        refine ⟨_, _, i2, i2.toNat, rfl, rfl, w8.h, ixN_of i20 (by rw [al.1, lr]; exact i21), ?_⟩
        have hp8 : (upd (upd G6 p (PurseO a1 b1)) p (PurseO a2 b2)) p = some (PurseO a2 b2) := upd_same
        generalize upd (upd G6 p (PurseO a1 b1)) p (PurseO a2 b2) = G8 at g8 k8 x8 w8 hp8
        have pr : p ≠ rs[i1.toNat] := fun z => by rw [z] at hp; rw [w8.n] at hp; cases hp
        refine ⟨_, rfl, ?_⟩
        refine q F6 _ D rs _ _ R S a2 b2 (g8.set w8.f (.inl w8.n)) (by rw [upd_ne pr]; exact hp8) ha2 hb2 (mok _ (by rw [List.length_set]; exact hl) fun row' z => ?_) (x8.put (j := i2.toNat) hrs hes hrow i6)
        rcases List.mem_or_eq_of_mem_set z with z | rfl
        · exact hM row' z
        · refine ⟨by rw [List.length_set]; exact lr, fun e z => ?_⟩
          rcases List.mem_or_eq_of_mem_set z with z | rfl
          · exact (hM row ml).2 e z
          · exact ⟨fun p w r z => by cases z⟩
      · exact ⟨_, rfl, q F1 G D rs ess M R S a b g hpG ha hb (mok M hl hM) x⟩
/-! ### small things -/
theorem ln {H : Hp} {p q : Addr} {o u : HO} (n : H q = none) (h : H p = some o) : upd H q u p = some o := (upd_ne (ne_of_none h n)).trans h
theorem kt_int_int {K : PySem.W.Frag} : PySem.W.kitOne K (.type "int") (.type "int") = some true := kit_ty (by decide +kernel)
theorem kt_int_bool {K : PySem.W.Frag} : PySem.W.kitOne K (.type "int") (.type "bool") = some false := kit_ty (by decide +kernel)
theorem kt_tup {K : PySem.W.Frag} : PySem.W.kitOne K (.type "tuple") (.type "tuple") = some true := kit_ty (by decide +kernel)
theorem kt_list {K : PySem.W.Frag} : PySem.W.kitOne K (.type "list") (.type "list") = some true := kit_ty (by decide +kernel)
theorem gr_purse {H H1 : Hp} (s : Same H H1) : Gr mu0 H H H H1 := ⟨fun _ _ h => h, s, fun _ _ h => .inl h, fun c o h _ => s c o h, fun c h => s.free h⟩
theorem at_end {xs : List V} {k : Nat} {v : V} (l : xs.length = k + 1) (h : xs[k]? = some v) : atI xs (-1) = some v := by
  have e : ixN xs.length (-1) = some k := by
    unfold ixN
    rw [if_neg (by decide), if_pos (by omega)]
    congr 1
    omega
  unfold atI
  rw [e]
  exact h
theorem cut_all {xs : List V} {j : Nat} (h : xs.length ≤ j) : cutV xs none (some (j : Int)) = xs := by
  unfold cutV
  have e1 : HT.sIx xs.length 0 none = 0 := rfl
  have e2 : HT.sIx xs.length xs.length (some (j : Int)) = xs.length := by
    simp only [HT.sIx]
    rw [if_neg (by omega), Int.toNat_natCast]
    omega
  rw [e1, e2, List.drop_zero, Nat.sub_zero, List.take_length]
theorem map_take_succ {α β : Type} {f : α → β} {xs : List α} {i : Nat} {x : α} (h : xs[i]? = some x) : (xs.take (i + 1)).map f = (xs.take i).map f ++ [f x] := by
  rw [List.take_add_one, h, List.map_append]; rfl
theorem cut_1 {xs : List V} : cutV xs (some 1) none = xs.drop 1 := by
  unfold cutV
  have e2 : HT.sIx xs.length xs.length none = xs.length := rfl
  rw [e2]
  cases xs with
  | nil => simp
  | cons x xs =>
    have e1 : HT.sIx (x :: xs).length 0 (some 1) = 1 := by
      simp only [HT.sIx, List.length_cons]
      rw [if_neg (by decide), show (1 : Int).toNat = 1 from rfl]
      omega
    rw [e1]
    show (xs.take (xs.length + 1 - 1)) = xs
    rw [Nat.add_sub_cancel, List.take_length]
theorem cut32 : ¬ (HT.sIx 3 0 none = 0 ∧ HT.sIx 3 3 (some 2) = 3) := by decide
theorem Gr.frzS {mu : Addr → Prop} {F H F1 H1 : Hp} (g : Gr mu F H F1 H1) (P : Addr → Prop) [DecidablePred P] (h : ∀ c, P c → H c = none ∧ F1 c = none) : Gr mu F H (fun c => if P c then H1 c else F1 c) H1 ∧ Same F1 (fun c => if P c then H1 c else F1 c) := by
  have s : Same F1 (fun c => if P c then H1 c else F1 c) := fun c o e => by
    by_cases p : P c
    · rw [(h c p).2] at e; cases e
    · simp only [p, if_false]; exact e
  refine ⟨⟨fun c o e => s c o (g.ff c o e), fun c o e => ?_, fun c o e => ?_, g.fr, g.th⟩, s⟩
  · by_cases p : P c
    · simp only [p, if_true] at e; exact e
    · simp only [p, if_false] at e; exact g.fh c o e
  · by_cases p : P c
    · exact .inr (h c p).1
    · simp only [p, if_false] at e; exact g.nw c o e
/-! ### what a machine does -/
structure Cfg where
  r : Int
  s : Int
  l : List PI
def entOf (M : Mach) (c : Cfg) : Ent := ((M[c.r.toNat]?.getD [])[((look c.l c.s).getD 0).toNat]?).getD .emp
def stepC (M : Mach) (c : Cfg) : Option Cfg := match entOf M c with
  | .emp => none
  | .go p w r => some ⟨r, c.s + w, put c.l c.s p⟩
structure CfOk (R S : Nat) (c : Cfg) : Prop where
  r0 : 0 ≤ c.r
  r1 : c.r < R
  nd : Nd c.l
  sg : ∀ q ∈ c.l, 0 ≤ q.b ∧ q.b < S
theorem CfOk.look {R S : Nat} {c : Cfg} (h : CfOk R S c) (s1 : 1 ≤ S) (x : Int) : 0 ≤ (look c.l x).getD 0 ∧ (look c.l x).getD 0 < S := by
  cases e : E.look c.l x with
  | none => simp only [Option.getD_none]; omega
  | some v => exact h.sg _ (mem_look e)
theorem CfOk.ent {M : Mach} {R S : Nat} {c : Cfg} (hM : MOk M R S) (h : CfOk R S c) : ∃ row, M[c.r.toNat]? = some row ∧ 0 ≤ (E.look c.l c.s).getD 0 ∧ row[((E.look c.l c.s).getD 0).toNat]? = some (entOf M c) ∧ EOk R S (entOf M c) := by
  have hr : c.r.toNat < M.length := by have := h.r0; have := h.r1; have := hM.len; omega
  have h1 : M[c.r.toNat]? = some M[c.r.toNat] := List.getElem?_eq_getElem hr
  have m1 := List.mem_of_getElem? h1
  obtain ⟨s0, s1⟩ := h.look (by have := hM.s2; omega) c.s
  have hs : ((E.look c.l c.s).getD 0).toNat < M[c.r.toNat].length := by rw [hM.row _ m1]; omega
  have h2 : M[c.r.toNat][((E.look c.l c.s).getD 0).toNat]? = some _ := List.getElem?_eq_getElem hs
  have e : entOf M c = M[c.r.toNat][((E.look c.l c.s).getD 0).toNat] := by
    unfold entOf
    rw [h1, Option.getD_some, h2, Option.getD_some]
  exact ⟨_, h1, s0, by rw [e]; exact h2, by rw [e]; exact hM.ent _ m1 _ (List.mem_of_getElem? h2)⟩
theorem CfOk.step {M : Mach} {R S : Nat} {c c' : Cfg} (hM : MOk M R S) (h : CfOk R S c) (e : stepC M c = some c') : CfOk R S c' := by
  obtain ⟨row, _, _, _, eo⟩ := h.ent hM
  unfold stepC at e
  split at e
  · cases e
  · rename_i p w r he
    cases e
    obtain ⟨o1, _, o3, o4⟩ := eo.ok _ _ _ he
    refine ⟨o3, o4, nd_put h.nd _ _, fun q m => ?_⟩
    rcases mem_put m with m | rfl
    · exact h.sg q m
    · exact o1
/-- the setups behind 0, 1, .. n steps, up to the end -/
def trace (M : Mach) : Nat → Cfg → List Cfg
  | 0, c => [c]
  | n + 1, c => c :: (match stepC M c with | none => [] | some c' => trace M n c')
/-- a setup with its signs in a dict -/
def cfAt (H : Hp) (v : V) (c : Cfg) : Prop := ∃ t d, v = .ref t ∧ H t = some (.tup [.int c.r, .int c.s, .ref d]) ∧ H d = some (.dK (dI c.l))
theorem cfAt.up {H H' : Hp} {v : V} {c : Cfg} (h : cfAt H v c) (s : Same H H') : cfAt H' v c := by
  obtain ⟨t, d, e, h1, h2⟩ := h
  exact ⟨t, d, e, s _ _ h1, s _ _ h2⟩
theorem dict_copy {H : Hp} {a : Addr} {l : List PI} (h : H a = some (.dK (dI l))) : Rd H a (.dK (dI l)) := .inl h
theorem stepC_none {M : Mach} {c : Cfg} : stepC M c = none ↔ entOf M c = .emp := by
  unfold stepC
  cases entOf M c with
  | emp => exact ⟨fun _ => rfl, fun _ => rfl⟩
  | go p w r => exact ⟨(fun h => nomatch h), (fun h => nomatch h)⟩
theorem stepC_go {M : Mach} {c : Cfg} {p w r : Int} (h : entOf M c = .go p w r) : stepC M c = some ⟨r, c.s + w, put c.l c.s p⟩ := by
  unfold stepC
  rw [h]
theorem mach_ent {F : Hp} {m : V} {M : Mach} {i j : Nat} {row : List Ent} {e : Ent} (hm : Is F m M) (h1 : M[i]? = some row) (h2 : row[j]? = some e) : ∃ am rs ra es v, m = .ref am ∧ F am = some (.lst rs) ∧ rs[i]? = some (.ref ra) ∧ F ra = some (.lst es) ∧ es[j]? = some v ∧ Is F v e := by
  obtain ⟨am, rs, e1, ham, hrs⟩ := hm
  obtain ⟨x, hx, ra, es, rfl, hra, hes⟩ := hrs.get h1
  obtain ⟨v, hv, hve⟩ := hes.get h2
  exact ⟨am, rs, ra, es, v, e1, ham, hx, hra, hv, hve⟩
theorem getD_int (o : Option Int) (x : Int) : (o.map V.int).getD (.int x) = .int (o.getD x) := by cases o <;> rfl
theorem trace_end {M : Mach} {c : Cfg} (h : stepC M c = none) : ∀ n, trace M n c = [c]
  | 0 => rfl
  | n + 1 => by
    unfold trace
    rw [h]
theorem trace_go {M : Mach} {c c' : Cfg} (h : stepC M c = some c') (n : Nat) : trace M (n + 1) c = c :: trace M n c' := by
  show c :: (match stepC M c with | none => [] | some c' => trace M n c') = _
  rw [h]
theorem size_dI {l : List PI} {n : Nat} (h : l.length ≤ n) (k : n ≤ 1000000) : (dI l).length < sizeLine := by
  unfold dI; rw [List.length_map]; exact lt_size (by omega)
/-! ### runs from the empty strip -/
def c0 : Cfg := ⟨0, 0, []⟩
def stepsC (M : Mach) : Nat → Option Cfg
  | 0 => some c0
  | k + 1 => (stepsC M k).bind (stepC M)
theorem stepsC_next {M : Mach} {k : Nat} {c : Cfg} (h : stepsC M k = some c) : stepsC M (k + 1) = stepC M c := by
  show (stepsC M k).bind (stepC M) = _
  rw [h]; rfl
theorem stepsC_back {M : Mach} {k : Nat} {c : Cfg} (h : stepsC M (k + 1) = some c) : ∃ b, stepsC M k = some b ∧ stepC M b = some c := Option.bind_eq_some_iff.mp h
theorem stepsC_end {M : Mach} {k : Nat} {c : Cfg} (h : stepsC M k = some c) (e : stepC M c = none) : ∀ j, stepsC M (k + 1 + j) = none
  | 0 => by rw [Nat.add_zero, stepsC_next h]; exact e
  | j + 1 => by
    show (stepsC M (k + 1 + j)).bind (stepC M) = _
    rw [stepsC_end h e j]; rfl
theorem c0_ok {R S : Nat} (r1 : 1 ≤ R) : CfOk R S c0 := ⟨Int.le_refl _, by show (0 : Int) < R; omega, nd_nil, fun z m => nomatch m⟩
theorem stepC_len {M : Mach} {c c' : Cfg} (e : stepC M c = some c') : c'.l.length ≤ c.l.length + 1 := by
  unfold stepC at e
  split at e
  · cases e
  · cases e
    exact put_len _ _ _
theorem stepsC_ok {M : Mach} {R S : Nat} (hM : MOk M R S) : ∀ {k : Nat} {c : Cfg}, stepsC M k = some c → CfOk R S c ∧ c.l.length ≤ k
  | 0, c, h => by
    cases h
    exact ⟨c0_ok hM.r1, Nat.le_refl _⟩
  | k + 1, c, h => by
    obtain ⟨b, hb, e⟩ := stepsC_back h
    obtain ⟨i1, i2⟩ := stepsC_ok hM hb
    have := stepC_len e
    exact ⟨i1.step hM e, by omega⟩
/-- where a run of at most n steps stands: behind k of them, at c -/
structure Gone (M : Mach) (n k : Nat) (c : Cfg) : Prop where
  le : k ≤ n
  stp : stepsC M k = some c
  fin : stepC M c = none ∨ k = n
theorem Gone.lt {M : Mach} {n k k' : Nat} {c c' : Cfg} (a : Gone M n k c) (b : Gone M n k' c') : ¬ k < k' := fun l => by
  rcases a.fin with e | e
  · have h := stepsC_end a.stp e (k' - (k + 1))
    rw [show k + 1 + (k' - (k + 1)) = k' by omega, b.stp] at h
    cases h
  · have := b.le; omega
theorem Gone.uniq {M : Mach} {n k k' : Nat} {c c' : Cfg} (a : Gone M n k c) (b : Gone M n k' c') : k = k' ∧ c = c' := by
  have e : k = k' := by have := a.lt b; have := b.lt a; omega
  subst e
  have h := a.stp
  rw [b.stp] at h
  cases h
  exact ⟨rfl, rfl⟩
/-! ### a strip without noughts -/
def pop (l : List PI) (x : Int) : List PI := l.filter fun p => decide (p.a ≠ x)
theorem dI_pop (l : List PI) (x : Int) : dropK (dI l) (Sum.inl x) = dI (pop l x) := by
  unfold dropK dI pop
  rw [List.filter_map]
  congr 2
  funext p
  have e : ((Sum.inl p.a : Key) ≠ Sum.inl x) = (p.a ≠ x) := propext ⟨fun h z => h (by rw [z]), fun h z => h (Sum.inl.inj z)⟩
  simp only [Function.comp, e]
theorem look_pop (x y : Int) : ∀ l : List PI, look (pop l x) y = if y = x then none else look l y
  | [] => by show look [] y = _; rw [look_nil]; split <;> rfl
  | p :: l => by
    have ih := look_pop x y l
    unfold pop at ih ⊢
    rw [List.filter_cons, look_cons]
    by_cases e : p.a = x
    · rw [if_neg (by simp [e]), ih]
      by_cases f : y = x
      · rw [if_pos f, if_pos f]
      · rw [if_neg f, if_neg f, if_neg (by rw [e]; exact fun z => f z.symm)]
    · rw [if_pos (by simp [e]), look_cons, ih]
      by_cases f : p.a = y
      · rw [if_pos f, if_pos f, if_neg (by rw [← f]; exact e)]
      · rw [if_neg f, if_neg f]
theorem nd_pop {l : List PI} (h : Nd l) (x : Int) : Nd (pop l x) := List.Sublist.nodup (List.Sublist.map _ List.filter_sublist) h
theorem nd_nodup {l : List PI} (h : Nd l) : l.Nodup := (List.pairwise_map.mp h).imp fun z e => z (by rw [e])
structure ZRel (l l' : List PI) : Prop where
  n : Nd l
  n' : Nd l'
  z : ∀ q ∈ l', q.b ≠ 0
  lk : ∀ x, (look l x).getD 0 = (look l' x).getD 0
theorem ZRel.nil : ZRel [] [] := ⟨nd_nil, nd_nil, fun q m => (nomatch m), fun x => rfl⟩
theorem ZRel.put {l l' : List PI} (h : ZRel l l') (x : Int) {v : Int} (e : v ≠ 0) : ZRel (put l x v) (put l' x v) := by
  refine ⟨nd_put h.n _ _, nd_put h.n' _ _, fun q m => ?_, fun y => ?_⟩
  · rcases mem_put m with m | rfl
    · exact h.z q m
    · exact e
  · rw [look_put, look_put]
    split
    · rfl
    · exact h.lk y
theorem ZRel.pop {l l' : List PI} (h : ZRel l l') (x : Int) : ZRel (E.put l x 0) (pop (E.put l' x 0) x) := by
  refine ⟨nd_put h.n _ _, nd_pop (nd_put h.n' _ _) _, fun q m => ?_, fun y => ?_⟩
  · obtain ⟨m, e⟩ := List.mem_filter.mp m
    have e : q.a ≠ x := of_decide_eq_true e
    rcases mem_put m with m | rfl
    · exact h.z q m
    · exact absurd rfl e
  · rw [look_put, look_pop, look_put]
    split
    · rfl
    · exact h.lk y
theorem ZRel.perm {l l' : List PI} (h : ZRel l l') : (l.filter nz).Perm l' := by
  refine (List.perm_ext_iff_of_nodup (List.Sublist.nodup List.filter_sublist (nd_nodup h.n)) (nd_nodup h.n')).mpr fun q => ?_
  have k := h.lk q.a
  rw [List.mem_filter]
  constructor
  · rintro ⟨m, e⟩
    have e : q.b ≠ 0 := of_decide_eq_true e
    rw [look_mem h.n m, Option.getD_some] at k
    cases f : look l' q.a with
    | none => rw [f] at k; exact absurd k e
    | some z =>
      rw [f, Option.getD_some] at k
      have m' := mem_look f
      rw [← k] at m'
      exact m'
  · intro m
    have e := h.z q m
    rw [look_mem h.n' m, Option.getD_some] at k
    cases f : look l q.a with
    | none => rw [f] at k; exact absurd k.symm e
    | some z =>
      rw [f, Option.getD_some] at k
      have m' := mem_look f
      rw [k] at m'
      exact ⟨m', decide_eq_true e⟩
theorem ZRel.told {l l' : List PI} (h : ZRel l l') : told l = srt l' :=
  srt_uniq (srt_srt _) (srt_srt _) (((srt_perm _).trans h.perm).trans (srt_perm _).symm)
theorem ZRel.len {l l' : List PI} (h : ZRel l l') : l'.length ≤ l.length := by
  rw [← h.perm.length_eq]; exact List.length_filter_le _ _
/-- a setup with its signs other than 0 in a dict -/
def zAt (H : Hp) (v : V) (c : Cfg) : Prop := ∃ t d l', v = .ref t ∧ H t = some (.tup [.int c.r, .int c.s, .ref d]) ∧ H d = some (.dK (dI l')) ∧ ZRel c.l l'
theorem zAt.up {H H' : Hp} {v : V} {c : Cfg} (h : zAt H v c) (s : Same H H') : zAt H' v c := by
  obtain ⟨t, d, l', e, h1, h2, h3⟩ := h
  exact ⟨t, d, l', e, s _ _ h1, s _ _ h2, h3⟩
/-- the setups behind 0, 1, .. k steps -/
def ZAll (H : Hp) (M : Mach) (xs : List V) (k : Nat) : Prop := xs.length = k + 1 ∧ ∀ i v, xs[i]? = some v → ∃ c, stepsC M i = some c ∧ zAt H v c
theorem ZAll.up {H H' : Hp} {M : Mach} {xs : List V} {k : Nat} (h : ZAll H M xs k) (s : Same H H') : ZAll H' M xs k :=
  ⟨h.1, fun i v e => by obtain ⟨c, a, b⟩ := h.2 i v e; exact ⟨c, a, b.up s⟩⟩
theorem ZAll.one {H : Hp} {M : Mach} {v : V} (h : zAt H v c0) : ZAll H M [v] 0 := ⟨rfl, fun i u e => by
  cases i with
  | zero => cases e; exact ⟨c0, rfl, h⟩
  | succ n => cases e⟩
theorem ZAll.app {H : Hp} {M : Mach} {xs : List V} {k : Nat} {v : V} {c : Cfg} (h : ZAll H M xs k) (e : stepsC M (k + 1) = some c) (z : zAt H v c) : ZAll H M (xs ++ [v]) (k + 1) := by
  refine ⟨by rw [List.length_append, h.1]; rfl, fun i u hu => ?_⟩
  by_cases l : i < xs.length
  · rw [List.getElem?_append_left l] at hu
    exact h.2 i u hu
  · rw [List.getElem?_append_right (by omega)] at hu
    cases j : i - xs.length with
    | zero =>
      rw [j] at hu
      cases hu
      have := h.1
      rw [show i = k + 1 by omega]
      exact ⟨c, e, z⟩
    | succ n => rw [j] at hu; cases hu
theorem ZAll.get {H : Hp} {M : Mach} {xs : List V} {k i : Nat} {c : Cfg} (h : ZAll H M xs k) (l : i ≤ k) (e : stepsC M i = some c) : ∃ v, xs[i]? = some v ∧ zAt H v c := by
  have l' : i < xs.length := by rw [h.1]; omega
  obtain ⟨c', e', z⟩ := h.2 i _ (List.getElem?_eq_getElem l')
  rw [e] at e'
  cases e'
  exact ⟨_, List.getElem?_eq_getElem l', z⟩
/-- the entry at c, looked up by a strip of the same signs -/
theorem CfOk.ent' {M : Mach} {R S : Nat} {c : Cfg} {l' : List PI} (hM : MOk M R S) (h : CfOk R S c) (z : ZRel c.l l') : ∃ row, M[c.r.toNat]? = some row ∧ 0 ≤ (E.look l' c.s).getD 0 ∧ row[((E.look l' c.s).getD 0).toNat]? = some (entOf M c) ∧ EOk R S (entOf M c) := by
  rw [← z.lk]
  exact h.ent hM
/-! ### words -/
/-- a text that may stand in a datum -/
structure TStr where
  x : Str
  ok : PyData.strOk x = true
  deriving DecidableEq
instance : Dat TStr where
  rep := fun _ v d => v = .str d.x
  mono := fun _ h => h
  py := fun d => .str d.x
  dp := fun h => h ▸ .str _
  can := fun d => d.ok
  dep := 0
  depth := fun _ => Nat.le_refl _
  eqv := fun a b => by
    obtain ⟨a, _⟩ := a; obtain ⟨b, _⟩ := b
    simp [PyData.eqv]
def sp_told_strip : Sp := fun vs H Q _ => ∃ (F : Hp) (d : Addr) (l : List PI), vs = [.ref d] ∧ Same F H ∧ H d = some (.dK (dI l)) ∧ l.length ≤ 100000 ∧
  ∀ (F' H' : Hp) (p : Addr) (xs : List V), Gr mu0 F H F' H' → Ow H F' H' p (.lst xs) → IsAll F' xs (told l) → Q (.ref p) H'
theorem ok_told_strip (t : Tx K mg) : FnOk P w K mg base CX0 1 t.a_told_strip t.fd_told_strip ["signs"] sp_told_strip := by
  refine t.F_told_strip.ok sc_told_strip (fun vs H Q E h => ?_) (fun cdv A outer s H vs Q E hr h => ?_)
  · obtain ⟨F, d, l, rfl, _⟩ := h
    rfl
  · obtain ⟨F, d, l, rfl, sF, hd, hl, q⟩ := h
    refine ⟨_, (pss_one (ps_ret (pe_callB (id := "sorted") call_sortQ (by rfl) t.n_sorted (by decide +kernel) (pa_cons (pe_lock (pe_lc (own := [("place", 1), ("sign", 2)]) rfl sc_told_strip.nd (pi_items (pv 0)) (blkOk_by (N := N_told_strip) (sc := defScope s_told_strip) (by decide +kernel)) (fun _ _ _ _ _ => (pg_tupK (K := K) (n := 2) rfl rfl (pgs_cons (pg_name (i := 1) sc_told_strip.nd rfl (by first | exact Or.inl rfl | exact Or.inr rfl)) (pgs_cons (pg_name (i := 2) sc_told_strip.nd rfl (by first | exact Or.inl rfl | exact Or.inr rfl)) pgs_nil)))) (fun _ _ _ _ _ => (pts_one (pt_cmpR op_ne (pv 2) pe_int (nomark _)))) (fun _ _ _ _ _ => (pe_tup (pa_cons (pv 1) (pa_cons (pv 2) pa_nil)))))) pa_nil)))), ?_⟩
    refine ⟨d, _, hd, trivial, fun od => ?_⟩
    have sL := lock_in (d := d) (o := .frz od (.dK (dI l))) sF
    have g0 : Gr mu0 _ (upd H d (.frz od (.dK (dI l)))) _ (upd H d (.frz od (.dK (dI l)))) := Gr.refl sL
    have dl : (dI l).length = l.length := by unfold dI; rw [List.length_map]
    generalize eH1 : upd H d (.frz od (.dK (dI l))) = H1 at g0
    generalize eF1 : (fun c => if c = d then none else F c) = F1 at g0
    have hd1 : H1 d = some (.frz od (.dK (dI l))) := by rw [← eH1]; exact upd_same
    refine ⟨_, rfl, d, od, dI l, rfl, hd1, fun D nD => lc_it walk_items (fun i G => ∃ F2 xs, Gr mu0 F1 H1 F2 G ∧ Ow H1 F2 G D (.lst xs) ∧ IsAll F2 xs ((l.take i).filter nz)) ⟨F1, [], g0.own nD, Ow.mk1 g0 nD, All2.nil⟩ (fun i G _ ⟨F2, xs, g, _⟩ => g.fr _ _ hd1 (fun z => z)) ?_ ?_⟩
    · rintro i x G G' hi ⟨F2, xs, g, w, al⟩ ⟨T, x1, x2, rfl, nT, rfl, e1, e2⟩
      rw [dl] at hi
      have e1 : (dI l)[i]?.map (fun kv => kV kv.1) = some x1 := e1
      have e2 : (dI l)[i]?.map Prod.snd = some x2 := e2
      rw [dI_get hi] at e1 e2
      cases e1
      cases e2
      have g1 := g.new (o := .tup [.int l[i].a, .int l[i].b]) nT
      have w1 := w.new (u := .tup [.int l[i].a, .int l[i].b]) nT
      refine ⟨T, _, rfl, SqT.of upd_same, rfl, _, _, rfl, _, _, rfl, rfl, rfl, _, rfl, rfl, _, rfl, ?_⟩
      rw [filter_take_succ hi]
      refine ite2 (fun c => ?_) (fun c => ?_)
      · have c' : nz l[i] = true := by
          refine decide_eq_true fun z => ?_
          have c : (!decide (V.int l[i].b = V.int 0)) = true := c
          rw [z, decide_eq_true rfl] at c
          cases c
        rw [if_pos c']
        refine ⟨_, rfl, _, rfl, two_le, fun T2 nT2 => ⟨xs, (w1.new nT2).h, ?_, ?_⟩⟩
        · rw [al.1]
          exact lt_size (Nat.le_trans (List.length_filter_le _ _) (by rw [List.length_take]; omega))
        · have g2 := g1.new (o := .tup [.int l[i].a, .int l[i].b]) nT2
          have w2 := w1.new (u := .tup [.int l[i].a, .int l[i].b]) nT2
          refine ⟨_, _, g2.set w2.f (.inl w2.n), w2.set, (al.up (fun c o h => ?_)).app (All2.one ⟨T2, _, _, rfl, upd_same, rfl, rfl⟩)⟩
          rw [upd_ne (ne_of_none (g1.fh _ _ ((Gr.refl (mu := mu0) g.fh).new nT |>.ff c o h)) nT2)]
          exact (Gr.refl (mu := mu0) g.fh).new nT |>.ff c o h
      · have c' : ¬ nz l[i] = true := fun z => by
          refine c ?_
          have z := of_decide_eq_true z
          show (!decide (V.int l[i].b = V.int 0)) = true
          rw [decide_eq_false (fun e => z (V.int.inj e))]; rfl
        rw [if_neg c', List.append_nil]
        exact ⟨_, xs, g1, w1, al.up ((Gr.refl (mu := mu0) g.fh).new nT).ff⟩
    · rintro G ⟨F2, xs, g, w, al⟩
      rw [dl, List.take_length] at al
      subst eH1
      subst eF1
      obtain ⟨h1, h2, h3⟩ := lock_out sF hd g
      refine ⟨h1, ?_⟩
      have hDd : D ≠ d := by
        rintro rfl
        rw [w.h] at h1; cases h1
      refine sort_pairs (K := K) (l := l.filter nz) (xs := xs) h3.fh (al.up h2) (SqL.of (by rw [upd_ne hDd]; exact w.h)) fun ys p np hys => ?_
      exact q _ _ p ys (h3.own np) (Ow.mk1 h3 np) hys
def sp_Goer_setup (C : Addr) : Sp := fun vs H Q _ => ∃ (F : Hp) (g d : Addr) (tb : V) (r s : Int) (l : List PI) (n : Int), vs = [.ref g] ∧ Same F H ∧ GoAt C H g d tb r s l n ∧ l.length ≤ 100000 ∧
  ∀ (F' H' : Hp) (p u : Addr) (xs : List V), Gr mu0 F H F' H' → Ow H F' H' p (.lst xs) → IsAll F' xs (told l) → Ow H F' H' u (.tup [.int r, .int s, .ref p]) → Q (.ref u) H'
theorem ok_Goer_setup (t : Tx K mg) : FnOk P w K mg base CX0 2 t.a_Goer_setup t.fd_Goer_setup ["self"] (sp_Goer_setup t.C_Goer) := by
  refine t.F_Goer_setup.ok sc_Goer_setup (fun vs H Q E h => ?_) (fun cdv A outer s H vs Q E hr h => ?_)
  · obtain ⟨F, g, d, tb, r, s, l, n, rfl, _⟩ := h
    rfl
  · obtain ⟨F, g, d, tb, r, s, l, n, rfl, sF, hg, hl, q⟩ := h
    refine ⟨_, (pss_one (ps_ret (pe_tup (pa_cons (pe_fld (pv 0) rfl) (pa_cons (pe_fld (pv 0) rfl) (pa_cons (pe_call (ok_told_strip t) (hr.mono (by decide)) (by rfl) t.m_told_strip t.F_told_strip.kp t.b_told_strip .nil pass0 (pa_cons (pe_fld (pv 0) rfl) pa_nil)) pa_nil)))))), ?_⟩
    obtain ⟨⟨dx, ho⟩, hd⟩ := id hg
    refine ⟨_, rfl, g, t.C_Goer, dx, _, _, rfl, ho, t.cl_Goer, t.nA_Goer_row, Goer_get_row, _, rfl, g, t.C_Goer, dx, _, _, rfl, ho, t.cl_Goer, t.nA_Goer_spot, Goer_get_spot, _, rfl, g, t.C_Goer, dx, _, _, rfl, ho, t.cl_Goer, t.nA_Goer_signs, Goer_get_signs, ?_⟩
    refine ⟨F, d, l, rfl, sF, hd, hl, fun F' H' p xs gr w al => ⟨three_le, fun u nu => ?_⟩⟩
    exact q F' _ p u xs (gr.own nu) (w.own nu) al (Ow.mk1 gr nu)
/-! ### machines that are led along -/
theorem MaO.slot {H F1 H1 : Hp} {m : Addr} {rs : List Addr} {ess : List (List V)} {M : Mach} {R S i : Nat} (x : MaO H F1 H1 m rs ess M) (hM : MOk M R S) (hi : i < R) : ∃ r es row, rs[i]? = some r ∧ ess[i]? = some es ∧ M[i]? = some row ∧ Ow H F1 H1 r (.lst es) ∧ es.length = S ∧ (rs.map V.ref)[i]? = some (.ref r) := by
  have h : M[i]? = some _ := List.getElem?_eq_getElem (by rw [hM.len]; exact hi)
  obtain ⟨r, es, h1, h2, w, al⟩ := x.at h
  exact ⟨r, es, _, h1, h2, h, w, al.1.trans (hM.row _ (List.mem_of_getElem? h)), by rw [List.getElem?_map, h1]; rfl⟩
def sp_L_led : Sp := sp_L_machine
theorem ok_L_led (t : Tx K mg) : FnOk P w K mg base CX0 2 t.a_L_led t.fd_L_led ["_law_purse_here"] sp_L_led := by
  refine t.F_L_led.ok sc_L_led (fun vs H Q E h => ?_) (fun cdv A outer s H vs Q E hr h => ?_)
  · obtain ⟨F, p, a, b, rfl, _⟩ := h
    rfl
  · obtain ⟨F, p, a, b, rfl, sF, fp, hp, ha, hb, q⟩ := h
    refine ⟨_, (pss_cons (ps_set (i := 1) sc_L_led.nd rfl (by first | exact Or.inl rfl | exact Or.inr rfl) (pe_op op_add pe_int (pe_call (ok_L_draw t) (hr.mono (by decide)) (by rfl) t.m_L_draw t.F_L_draw.kp t.b_L_draw .nil pass0 (pa_cons (pv 0) (pa_cons pe_int pa_nil)))))
      (pss_cons (ps_set (i := 2) sc_L_led.nd rfl (by first | exact Or.inl rfl | exact Or.inr rfl) (pe_op op_sub (pe_op op_mul pe_int (pe_call (ok_L_draw t) (hr.mono (by decide)) (by rfl) t.m_L_draw t.F_L_draw.kp t.b_L_draw .nil pass0 (pa_cons (pv 0) (pa_cons pe_int pa_nil)))) pe_int))
      (pss_cons (ps_set (i := 3) sc_L_led.nd rfl (by first | exact Or.inl rfl | exact Or.inr rfl) (pe_op op_add pe_int (pe_call (ok_L_draw t) (hr.mono (by decide)) (by rfl) t.m_L_draw t.F_L_draw.kp t.b_L_draw .nil pass0 (pa_cons (pv 0) (pa_cons pe_int pa_nil)))))
      (pss_cons (ps_set (i := 4) sc_L_led.nd rfl (by first | exact Or.inl rfl | exact Or.inr rfl) pe_int)
      (pss_cons (ps_set (i := 5) sc_L_led.nd rfl (by first | exact Or.inl rfl | exact Or.inr rfl) (pe_lst pa_nil))
      (pss_cons (ps_for PassesOwn.never rfl (pi_range1 (by rfl) t.n_range (pa_cons (pv 4) pa_nil)) (pg_name (i := 6) sc_L_led.nd rfl (by first | exact Or.inl rfl | exact Or.inr rfl)) (pss_cons (ps_setLc (i := 7) (own := [("_law_j", 8)]) (g := gName 8) (tt := tYes) rfl sc_L_led.nd rfl rfl (sw_true rfl rfl rfl (by decide +kernel)) (pi_range1 (by rfl) t.n_range (pa_cons (pv 1) pa_nil)) (blkOk_by (N := N_L_led) (sc := defScope s_L_led) (by decide +kernel)) (fun _ _ _ _ _ => (pg_name (i := 8) sc_L_led.nd rfl (by first | exact Or.inl rfl | exact Or.inr rfl))) (fun _ _ _ _ _ => pts_nil) (fun _ _ _ _ _ => (pe_tup (pa_cons (pe_call (ok_L_draw t) (hr.mono (by decide)) (by rfl) t.m_L_draw t.F_L_draw.kp t.b_L_draw .nil pass0 (pa_cons (pv 0) (pa_cons (pv 1) pa_nil))) (pa_cons (pe_op op_sub (pe_op op_mul pe_int (pe_call (ok_L_draw t) (hr.mono (by decide)) (by rfl) t.m_L_draw t.F_L_draw.kp t.b_L_draw .nil pass0 (pa_cons (pv 0) (pa_cons pe_int pa_nil)))) pe_int) (pa_cons (pe_call (ok_L_draw t) (hr.mono (by decide)) (by rfl) t.m_L_draw t.F_L_draw.kp t.b_L_draw .nil pass0 (pa_cons (pv 0) (pa_cons (pv 4) pa_nil))) pa_nil))))))
      (pss_cons (ps_asg (pe_tup (pa_cons (pe_call (ok_L_draw t) (hr.mono (by decide)) (by rfl) t.m_L_draw t.F_L_draw.kp t.b_L_draw .nil pass0 (pa_cons (pv 0) (pa_cons (pv 1) pa_nil))) (pa_cons (pv 2) (pa_cons (pe_op op_mod (pe_op op_add (pv 6) pe_int) (pe_op op_add (pv 3) pe_int)) pa_nil)))) (pg_sub (pv 7) pe_int set_list))
      (pss_one (ps_expr (pe_bm PySem.F.plainAttrs_list PySem.F.slot_list_append PySem.F.type_list_append mt_append (pv 5) (pa_cons (pv 7) pa_nil)))))))
      (pss_cons (ps_if (pt_cmpR op_eq (pe_call (ok_L_draw t) (hr.mono (by decide)) (by rfl) t.m_L_draw t.F_L_draw.kp t.b_L_draw .nil pass0 (pa_cons (pv 0) (pa_cons pe_int pa_nil))) pe_int (nomark _)) (pss_cons (ps_asg (pe_tup (pa_cons (pe_op op_add pe_int (pe_call (ok_L_draw t) (hr.mono (by decide)) (by rfl) t.m_L_draw t.F_L_draw.kp t.b_L_draw .nil pass0 (pa_cons (pv 0) (pa_cons (pe_op op_sub (pv 1) pe_int) pa_nil)))) (pa_cons (pv 2) (pa_cons pe_int pa_nil)))) (pg_sub (pe_ix ix_list (pv 5) pe_int (fun _ _ => rfl)) pe_int set_list))
      (pss_one (ps_asg (pe_tup (pa_cons (pe_call (ok_L_draw t) (hr.mono (by decide)) (by rfl) t.m_L_draw t.F_L_draw.kp t.b_L_draw .nil pass0 (pa_cons (pv 0) (pa_cons (pv 1) pa_nil))) (pa_cons (pe_op op_sub pe_int (pv 2)) (pa_cons (pe_call (ok_L_draw t) (hr.mono (by decide)) (by rfl) t.m_L_draw t.F_L_draw.kp t.b_L_draw .nil pass0 (pa_cons (pv 0) (pa_cons pe_int pa_nil))) pa_nil)))) (pg_sub (pe_ix ix_list (pv 5) pe_int (fun _ _ => rfl)) pe_int set_list)))) pss_nil)
      (pss_one (ps_ret (pv 5)))))))))), ?_⟩
    have g0 : Gr (muP p) F H F H := Gr.refl sF
    -- signs, way, long, rows
    refine ⟨_, rfl, p, a, b, 3, rfl, hp, ha, hb, by decide, by decide, fun d1 a1 b1 d10 d11 ha1 hb1 => ⟨_, _, rfl, rfl, ?_⟩⟩
    have g1 := g0.set (o := PurseO a1 b1) fp (.inr rfl)
    refine ⟨_, rfl, p, a1, b1, 2, rfl, upd_same, ha1, hb1, by decide, by decide, fun d2 a2 b2 d20 d21 ha2 hb2 => ⟨_, _, rfl, rfl, .inl ⟨by decide, by decide⟩, _, _, rfl, rfl, ?_⟩⟩
    have g2 := g1.set (o := PurseO a2 b2) fp (.inr rfl)
    refine ⟨_, rfl, p, a2, b2, 3, rfl, upd_same, ha2, hb2, by decide, by decide, fun d3 a3 b3 d30 d31 ha3 hb3 => ⟨_, _, rfl, rfl, ?_⟩⟩
    have g3 := g2.set (o := PurseO a3 b3) fp (.inr rfl)
    have hp3 : (upd (upd (upd H p (PurseO a1 b1)) p (PurseO a2 b2)) p (PurseO a3 b3)) p = some (PurseO a3 b3) := upd_same
    generalize upd (upd (upd H p (PurseO a1 b1)) p (PurseO a2 b2)) p (PurseO a3 b3) = H3 at g3 hp3
    obtain ⟨S, eS⟩ : ∃ S : Nat, 2 + d1 = (S : Int) := Int.eq_ofNat_of_zero_le (by omega)
    have S4 : S ≤ 4 := by omega
    have S2 : 2 ≤ S := by omega
    obtain ⟨wy, ew⟩ : ∃ wy : Int, 2 * d2 - 1 = wy := ⟨_, rfl⟩
    have wok : wy = -1 ∨ wy = 1 := by omega
    dsimp only
    rw [eS, ew]
    -- found = []
    refine ⟨nil_le, fun D nD => ?_⟩
    have x0 : MaO H F (upd H3 D (.lst [])) D [] [] [] := ⟨Ow.mk1 g3 nD, List.nodup_nil, (fun z => nomatch z), rfl, fun i r es h _ => (by cases h), All2.nil⟩
    have g4 := g3.own (o := .lst []) nD
    have hp4 := ln (u := .lst []) nD hp3
    refine ⟨_, rfl, 4, rfl, by decide, by decide, for_range (lo := 0) (n := 4) (fun i σ G => ∃ (F1 : Hp) (rs : List Addr) (ess : List (List V)) (M : Mach) (a b : Int) (v6 v7 : Option V), σ = [some (.ref p), some (.int S), some (.int wy), some (.int (1 + d3)), some (.int 4), some (.ref D), v6, v7, none] ∧
      Gr (muP p) F H F1 G ∧ G p = some (PurseO a b) ∧ 0 ≤ a ∧ 0 ≤ b ∧ MaO H F1 G D rs ess M ∧ M.length = i ∧ ∀ row ∈ M, row.length = S ∧ ∀ e ∈ row, EOk 4 S e) ⟨F, [], [], [], a3, b3, none, none, rfl, g4, hp4, ha3, hb3, x0, rfl, fun row z => nomatch z⟩ ?_ ?_⟩
    · rintro i σ G hi ⟨F1, rs, ess, M, a, b, v6, v7, rfl, g, hpG, ha, hb, x, hl, hM⟩
      -- row = [.. for j in range(signs)]
      refine ⟨_, rfl, (S : Int), rfl, by omega, by omega, fun r nr => ?_⟩
      have gr := g.own (o := .lst []) nr
      have wr : Ow H F1 (upd G r (.lst [])) r (.lst []) := Ow.mk1 g nr
      have xr := x.gr ((Gr.refl (mu := mu0) g.fh).own (o := .lst []) nr) fun c z => z.elim
      have offr := x.offn nr
      have hpr := ln (u := .lst []) nr hpG
      refine lc_range (lo := 0) (n := ((S : Int)).toNat) (fun j G => ∃ (F1 : Hp) (es : List V) (row : List Ent) (a b : Int),
        Gr (muP p) F H F1 G ∧ G p = some (PurseO a b) ∧ 0 ≤ a ∧ 0 ≤ b ∧ MaO H F1 G D rs ess M ∧ Ow H F1 G r (.lst es) ∧ IsAll F1 es row ∧ row.length = j ∧ ∀ e ∈ row, EOk 4 S e) ⟨F1, [], [], a, b, gr, hpr, ha, hb, xr, wr, All2.nil, rfl, fun e z => nomatch z⟩ ?_ ?_
      · rintro j G hj ⟨F1, es, row, a, b, g, hpG, ha, hb, x, w, al, hl, hrow⟩
        have wp : r ≠ p := fun z => by rw [z] at w; rw [w.n] at hp; cases hp
        refine ⟨rfl, yes ?_⟩
        refine ⟨_, rfl, _, rfl, p, a, b, (S : Int), rfl, hpG, ha, hb, by omega, by omega, fun e1 a1 b1 e10 e11 ha1 hb1 => ?_⟩
        obtain ⟨g1, k1⟩ := g.drw (a := a1) (b := b1) fp hp
        refine ⟨_, rfl, p, a1, b1, 2, rfl, upd_same, ha1, hb1, by decide, by decide, fun e2 a2 b2 e20 e21 ha2 hb2 => ⟨_, _, rfl, rfl, .inl ⟨by decide, by decide⟩, _, _, rfl, rfl, ?_⟩⟩
        obtain ⟨g2, k2⟩ := g1.drw (a := a2) (b := b2) fp hp
        refine ⟨_, rfl, _, rfl, p, a2, b2, 4, rfl, upd_same, ha2, hb2, by decide, by decide, fun e3 a3 b3 e30 e31 ha3 hb3 => ⟨three_le, fun q0 nq => ?_⟩⟩
        obtain ⟨g3, k3⟩ := g2.drw (a := a3) (b := b3) fp hp
        have k := (k1.trans k2).trans k3
        have x3 := x.gr k (x.off hp)
        have w3 := w.call k wp
        have hp3 : (upd (upd (upd G p (PurseO a1 b1)) p (PurseO a2 b2)) p (PurseO a3 b3)) p = some (PurseO a3 b3) := upd_same
        generalize upd (upd (upd G p (PurseO a1 b1)) p (PurseO a2 b2)) p (PurseO a3 b3) = G3 at g3 k x3 w3 hp3 nq
        have g4 := g3.new (o := .tup [.int e1, .int (2 * e2 - 1), .int e3]) nq
        have k4 := (Gr.refl (mu := mu0) g3.fh).new (o := .tup [.int e1, .int (2 * e2 - 1), .int e3]) nq
        have x4 := x3.gr k4 fun c z => z.elim
        have w4 := w3.call k4 fun z => z
        have hp4 := k4.fr _ _ hp3 fun z => z
        have ee : Is (upd F1 q0 (.tup [.int e1, .int (2 * e2 - 1), .int e3])) (.ref q0) (Ent.go e1 (2 * e2 - 1) e3) := ⟨q0, rfl, upd_same⟩
        have eo : EOk 4 S (Ent.go e1 (2 * e2 - 1) e3) := ⟨fun p w r z => by cases z; exact ⟨⟨e10, e11⟩, by omega, e30, e31⟩⟩
        refine ⟨es, w4.h, by rw [al.1, hl]; exact lt_size (by omega), _, es ++ [.ref q0], row ++ [_], a3, b3, g4.set w4.f (.inl w4.n), by rw [upd_ne (Ne.symm wp)]; exact hp4, ha3, hb3, x4.gr (mu := fun c => c = r) ((Gr.refl g4.fh).set w4.f (.inr rfl)) (fun c z => by rw [show c = r from z]; exact offr), w4.set, (al.up k4.ff).app (All2.one ee), by rw [List.length_append, hl]; rfl, fun e z => ?_⟩
        rcases List.mem_append.mp z with z | z
        · exact hrow e z
        · rw [List.mem_singleton.mp z]; exact eo
      · rintro G ⟨F1, es, row, a, b, g, hpG, ha, hb, x, w, al, hl2, hrow⟩
        have hl2 : row.length = S := by rw [hl2]; exact Int.toNat_natCast S
        have wp : r ≠ p := fun z => by rw [z] at w; rw [w.n] at hp; cases hp
        -- row[0] = ..
        refine ⟨_, rfl, _, rfl, p, a, b, (S : Int), rfl, hpG, ha, hb, by omega, by omega, fun e1 a1 b1 e10 e11 ha1 hb1 => ?_⟩
        obtain ⟨g1, k1⟩ := g.drw (a := a1) (b := b1) fp hp
        have x1 := x.gr k1 (x.off hp)
        have w1 := w.call k1 wp
        have hp1 : (upd G p (PurseO a1 b1)) p = some (PurseO a1 b1) := upd_same
        generalize upd G p (PurseO a1 b1) = G1 at g1 k1 x1 w1 hp1
        refine ⟨_, rfl, _, rfl, _, _, rfl, rfl, _, rfl, _, _, rfl, rfl, _, _, rfl, rfl, by omega, three_le, fun q0 nq => ?_⟩
        have m0 := Int.emod_nonneg (0 + (i : Int) + 1) (b := 1 + d3 + 1) (by omega)
        have m1 := Int.emod_lt_of_pos (0 + (i : Int) + 1) (b := 1 + d3 + 1) (by omega)
        have g2 := g1.new (o := .tup [.int e1, .int wy, .int ((0 + (i : Int) + 1) % (1 + d3 + 1))]) nq
        have k2 := (Gr.refl (mu := mu0) g1.fh).new (o := .tup [.int e1, .int wy, .int ((0 + (i : Int) + 1) % (1 + d3 + 1))]) nq
        have x2 := x1.gr k2 fun c z => z.elim
        have w2 := w1.call k2 fun z => z
        have hp2 := k2.fr _ _ hp1 fun z => z
        have ee : Is (upd F1 q0 (.tup [.int e1, .int wy, .int ((0 + (i : Int) + 1) % (1 + d3 + 1))])) (.ref q0) (Ent.go e1 wy ((0 + (i : Int) + 1) % (1 + d3 + 1))) := ⟨q0, rfl, upd_same⟩
        have eo : EOk 4 S (Ent.go e1 wy ((0 + (i : Int) + 1) % (1 + d3 + 1))) := ⟨fun p w r z => by cases z; exact ⟨⟨e10, e11⟩, wok, m0, Int.lt_of_lt_of_le m1 (by omega)⟩⟩
        have al2 := al.up k2.ff
        generalize upd F1 q0 (.tup [.int e1, .int wy, .int ((0 + (i : Int) + 1) % (1 + d3 + 1))]) = F2 at g2 k2 x2 w2 ee al2
        generalize upd G1 q0 (.tup [.int e1, .int wy, .int ((0 + (i : Int) + 1) % (1 + d3 + 1))]) = G2 at g2 k2 x2 w2 hp2
        refine ⟨_, rfl, r, _, 0, 0, rfl, rfl, w2.h, ixN_of (Int.le_refl _) (by rw [al.1, hl2]; omega), ?_⟩
        have g3 := g2.set (o := .lst (es.set 0 (.ref q0))) w2.f (.inl w2.n)
        have x3 := x2.gr (mu := fun c => c = r) ((Gr.refl g2.fh).set (o := .lst (es.set 0 (.ref q0))) w2.f (.inr rfl)) (fun c z => by rw [show c = r from z]; exact offr)
        have w3 := w2.set (u := .lst (es.set 0 (.ref q0)))
        have hp3 := (upd_ne (o := .lst (es.set 0 (.ref q0))) (Ne.symm wp)).trans hp2
        have al3 := al2.set ee 0
        -- found.append(row)
        refine ⟨_, rfl, .inl ⟨rfl, _, SqL.of x3.ow.h⟩, _, rfl, D, _, _, rfl, rfl, x3.ow.h, by rw [List.length_map, x.len, x.dat.1, hl]; exact lt_size (by omega), ?_⟩
        have e1' : rs.map V.ref ++ [V.ref r] = (rs ++ [r]).map V.ref := by rw [List.map_append]; rfl
        rw [e1']
        have pD : p ≠ D := fun z => by rw [z] at hp; rw [x.ow.n] at hp; cases hp
        refine ⟨F2, rs ++ [r], ess ++ [_], M ++ [_], a1, b1, _, _, rfl, g3.set x3.ow.f (.inl x3.ow.n), by rw [upd_ne pD]; exact hp3, ha1, hb1, x3.add w3 offr al3, by rw [List.length_append, hl]; rfl, fun row' z => ?_⟩
        rcases List.mem_append.mp z with z | z
        · exact hM row' z
        · rw [List.mem_singleton.mp z]
          refine ⟨by rw [List.length_set]; exact hl2, fun e z => ?_⟩
          rcases List.mem_or_eq_of_mem_set z with z | rfl
          · exact hrow e z
          · exact eo
    · rintro σ G ⟨F1, rs, ess, M, a, b, v6, v7, rfl, g, hpG, ha, hb, x, hl, hM⟩
      have mok : MOk M 4 S := ⟨by decide, by decide, S2, S4, hl, fun r z => (hM r z).1, fun r z => (hM r z).2⟩
      -- if draw(3) == 0
      refine ⟨_, rfl, p, a, b, 3, rfl, hpG, ha, hb, by decide, by decide, fun c0 a1 b1 c00 c01 ha1 hb1 => ⟨rfl, _, rfl, ?_⟩⟩
      obtain ⟨g1, k1⟩ := g.drw (a := a1) (b := b1) fp hp
      have x1 := x.gr k1 (x.off hp)
      have hp1 : (upd G p (PurseO a1 b1)) p = some (PurseO a1 b1) := upd_same
      generalize upd G p (PurseO a1 b1) = G1 at g1 k1 x1 hp1
      refine ite2 (fun _ => ?_) (fun _ => ⟨_, rfl, q F1 G1 D rs ess M 4 S a1 b1 g1 hp1 ha1 hb1 mok x1⟩)
      -- found[0][0] = ..
      refine ⟨_, rfl, _, rfl, _, _, rfl, rfl, p, a1, b1, ((S : Int) - 1), rfl, hp1, ha1, hb1, by omega, by omega, fun e1 a2 b2 e10 e11 ha2 hb2 => ⟨_, _, rfl, rfl, _, rfl, three_le, fun q1 nq1 => ?_⟩⟩
      obtain ⟨g2, k2⟩ := g1.drw (a := a2) (b := b2) fp hp
      have x2 := x1.gr k2 (x1.off hp)
      have hp2 : (upd G1 p (PurseO a2 b2)) p = some (PurseO a2 b2) := upd_same
      generalize upd G1 p (PurseO a2 b2) = G2 at g2 k2 x2 hp2 nq1
      have g3 := g2.new (o := .tup [.int (1 + e1), .int wy, .int 1]) nq1
      have k3 := (Gr.refl (mu := mu0) g2.fh).new (o := .tup [.int (1 + e1), .int wy, .int 1]) nq1
      have x3 := x2.gr k3 fun c z => z.elim
      have hp3 := k3.fr _ _ hp2 fun z => z
      have ee : Is (upd F1 q1 (.tup [.int (1 + e1), .int wy, .int 1])) (.ref q1) (Ent.go (1 + e1) wy 1) := ⟨q1, rfl, upd_same⟩
      have eo : EOk 4 S (Ent.go (1 + e1) wy 1) := ⟨fun p w r z => by cases z; exact ⟨⟨by omega, by omega⟩, wok, by decide, by decide⟩⟩
      generalize upd F1 q1 (.tup [.int (1 + e1), .int wy, .int 1]) = F3 at g3 x3 ee
      generalize upd G2 q1 (.tup [.int (1 + e1), .int wy, .int 1]) = G3 at g3 x3 hp3
      obtain ⟨r0, es0, row0, hr0, he0, hw0, w0, l0, m0⟩ := x3.slot mok (i := 0) (by decide)
      refine ⟨_, rfl, D, _, _, _, rfl, rfl, SqL.of x3.ow.h, atI_nat (j := 0) m0, r0, _, 0, 0, rfl, rfl, w0.h, ixN_of (Int.le_refl _) (by omega), ?_⟩
      have pr0 : p ≠ r0 := fun z => by rw [z] at hp; rw [w0.n] at hp; cases hp
      have g4 := g3.set (o := .lst (es0.set 0 (.ref q1))) w0.f (.inl w0.n)
      have x4 := x3.put (j := 0) hr0 he0 hw0 ee
      have hp4 := (upd_ne (o := .lst (es0.set 0 (.ref q1))) pr0).trans hp3
      have mok4 := mok.set (j := 0) hw0 eo
      generalize upd G3 r0 (.lst (es0.set 0 (.ref q1))) = G4 at g4 x4 hp4
      generalize M.set 0 (row0.set 0 (Ent.go (1 + e1) wy 1)) = M4 at x4 mok4
      generalize ess.set 0 (es0.set 0 (.ref q1)) = ess4 at x4
      -- found[1][0] = ..
      refine ⟨_, rfl, _, rfl, p, a2, b2, (S : Int), rfl, hp4, ha2, hb2, by omega, by omega, fun f1 a3 b3 f10 f11 ha3 hb3 => ⟨_, rfl, _, _, rfl, rfl, ?_⟩⟩
      obtain ⟨g5, k5⟩ := g4.drw (a := a3) (b := b3) fp hp
      have x5 := x4.gr k5 (x4.off hp)
      refine ⟨_, rfl, p, a3, b3, 3, rfl, upd_same, ha3, hb3, by decide, by decide, fun f3 a4 b4 f30 f31 ha4 hb4 => ⟨three_le, fun q2 nq2 => ?_⟩⟩
      obtain ⟨g6, k6⟩ := g5.drw (a := a4) (b := b4) fp hp
      have x6 := x5.gr k6 (x5.off hp)
      have hp6 : (upd (upd G4 p (PurseO a3 b3)) p (PurseO a4 b4)) p = some (PurseO a4 b4) := upd_same
      generalize upd (upd G4 p (PurseO a3 b3)) p (PurseO a4 b4) = G6 at g6 x6 hp6 nq2
      have g7 := g6.new (o := .tup [.int f1, .int (0 - wy), .int f3]) nq2
      have k7 := (Gr.refl (mu := mu0) g6.fh).new (o := .tup [.int f1, .int (0 - wy), .int f3]) nq2
      have x7 := x6.gr k7 fun c z => z.elim
      have hp7 := k7.fr _ _ hp6 fun z => z
      have ee2 : Is (upd F3 q2 (.tup [.int f1, .int (0 - wy), .int f3])) (.ref q2) (Ent.go f1 (0 - wy) f3) := ⟨q2, rfl, upd_same⟩
      have eo2 : EOk 4 S (Ent.go f1 (0 - wy) f3) := ⟨fun p w r z => by cases z; exact ⟨⟨f10, f11⟩, by omega, f30, by omega⟩⟩
      generalize upd F3 q2 (.tup [.int f1, .int (0 - wy), .int f3]) = F7 at g7 x7 ee2
      generalize upd G6 q2 (.tup [.int f1, .int (0 - wy), .int f3]) = G7 at g7 x7 hp7
      obtain ⟨r1, es1, row1, hr1, he1, hw1, w1, l1, m1⟩ := x7.slot mok4 (i := 1) (by decide)
      refine ⟨_, rfl, D, _, _, _, rfl, rfl, SqL.of x7.ow.h, atI_nat (j := 1) m1, r1, _, 0, 0, rfl, rfl, w1.h, ixN_of (Int.le_refl _) (by omega), ?_⟩
      have pr1 : p ≠ r1 := fun z => by rw [z] at hp; rw [w1.n] at hp; cases hp
      exact ⟨_, rfl, q F7 _ D rs _ _ 4 S a4 b4 (g7.set w1.f (.inl w1.n)) ((upd_ne pr1).trans hp7) ha4 hb4 (mok4.set (j := 0) hw1 eo2) (x7.put (j := 0) hr1 he1 hw1 ee2)⟩
/-! ### machines that begin with a hundred steps of their own -/
structure RoO (H F1 H1 : Hp) (rs : List Addr) (ess : List (List V)) (M : Mach) : Prop where
  nd : rs.Nodup
  len : rs.length = ess.length
  rows : ∀ (i : Nat) r es, rs[i]? = some r → ess[i]? = some es → Ow H F1 H1 r (.lst es)
  dat : All2 (fun es row => IsAll F1 es row) ess M
theorem RoO.nil {H F1 H1 : Hp} : RoO H F1 H1 [] [] [] := ⟨List.nodup_nil, rfl, fun i r es h _ => (by cases h), All2.nil⟩
theorem RoO.offn {H F1 H1 : Hp} {rs : List Addr} {ess : List (List V)} {M : Mach} (x : RoO H F1 H1 rs ess M) {p : Addr} (h : H1 p = none) : p ∉ rs := fun z => by
  obtain ⟨i, hi⟩ := List.getElem?_of_mem z
  have l := (List.getElem?_eq_some_iff.mp hi).1
  have w := x.rows i p _ hi (List.getElem?_eq_getElem (by rw [← x.len]; exact l))
  rw [w.h] at h; cases h
/-- one more row, of two entries -/
theorem RoO.two {mu : Addr → Prop} {F0 H F G : Hp} {rs : List Addr} {ess : List (List V)} {M : Mach} {e1 e2 : Ent} {o1 o2 : HO} {q1 q2 r : Addr} (h1 : o1 = entO e1) (h2 : o2 = entO e2) (g : Gr mu F0 H F G) (x : RoO H F G rs ess M) (n1 : G q1 = none) (n2 : (upd G q1 o1) q2 = none) (n3 : (upd (upd G q1 o1) q2 o2) r = none) :
    Gr mu F0 H (upd (upd F q1 o1) q2 o2) (upd (upd (upd G q1 o1) q2 o2) r (.lst [.ref q1, .ref q2])) ∧ RoO H (upd (upd F q1 o1) q2 o2) (upd (upd (upd G q1 o1) q2 o2) r (.lst [.ref q1, .ref q2])) (rs ++ [r]) (ess ++ [[.ref q1, .ref q2]]) (M ++ [[e1, e2]]) ∧
      ∀ c o, G c = some o → (upd (upd (upd G q1 o1) q2 o2) r (.lst [.ref q1, .ref q2])) c = some o := by
  subst h1
  subst h2
  have g1 := g.new (o := entO e1) n1
  have g2 := g1.new (o := entO e2) n2
  have g3 := g2.own (o := .lst [.ref q1, .ref q2]) n3
  have k1 := (Gr.refl (mu := mu0) g.fh).new (o := entO e1) n1
  have k2 := k1.new (o := entO e2) n2
  have k3 := k2.own (o := .lst [.ref q1, .ref q2]) n3
  have w : Ow H (upd (upd F q1 (entO e1)) q2 (entO e2)) (upd (upd (upd G q1 (entO e1)) q2 (entO e2)) r (.lst [.ref q1, .ref q2])) r (.lst [.ref q1, .ref q2]) := Ow.mk1 g2 n3
  have off : r ∉ rs := fun z => by
    obtain ⟨i, hi⟩ := List.getElem?_of_mem z
    have l := (List.getElem?_eq_some_iff.mp hi).1
    have w := x.rows i r _ hi (List.getElem?_eq_getElem (by rw [← x.len]; exact l))
    have h := k2.fr _ _ w.h fun z => z
    rw [h] at n3; cases n3
  have i1 : Is (upd (upd F q1 (entO e1)) q2 (entO e2)) (.ref q1) e1 := ⟨q1, rfl, (upd_ne (ne_of_none upd_same n2)).trans upd_same⟩
  have i2 : Is (upd (upd F q1 (entO e1)) q2 (entO e2)) (.ref q2) e2 := ⟨q2, rfl, upd_same⟩
  refine ⟨g3, ⟨nd_snoc x.nd off, by rw [List.length_append, List.length_append, x.len]; rfl, fun i r' es h1 h2 => ?_, (x.dat.imp fun es row z => z.up k3.ff).app (All2.one (All2.cons i1 (All2.one i2)))⟩, fun c o h => k3.fr c o h fun z => z⟩
  by_cases l : i < rs.length
  · rw [List.getElem?_append_left l] at h1
    rw [List.getElem?_append_left (by rw [← x.len]; exact l)] at h2
    exact (x.rows i r' es h1 h2).call k3 fun z => z
  · rw [List.getElem?_append_right (by omega)] at h1
    rw [List.getElem?_append_right (by rw [← x.len]; omega), ← x.len] at h2
    cases e : i - rs.length with
    | zero =>
      rw [e] at h1 h2
      cases h1; cases h2
      exact w
    | succ n => rw [e] at h1; cases h1
theorem RoO.mach {H F1 H1 : Hp} {mu : Addr → Prop} {F0 : Hp} {rs : List Addr} {ess : List (List V)} {M : Mach} {m : Addr} (x : RoO H F1 H1 rs ess M) (g : Gr mu F0 H F1 H1) (n : H1 m = none) : MaO H F1 (upd H1 m (.lst (rs.map V.ref))) m rs ess M :=
  ⟨Ow.mk1 g n, x.nd, x.offn n, x.len, fun i r es h1 h2 => (x.rows i r es h1 h2).own n, x.dat⟩
def late0 : Mach := [[.go 1 1 1, .go 1 (-1) 1], [.go 1 (-1) 0, .go 0 (-1) 2], [.emp, .go 1 (-1) 3], [.go 1 1 3, .go 0 1 0]]
theorem eok {R S : Nat} {p w r : Int} (h : (0 ≤ p ∧ p < S) ∧ (w = -1 ∨ w = 1) ∧ 0 ≤ r ∧ r < R) : EOk R S (.go p w r) := ⟨fun p w r z => by cases z; exact h⟩
theorem late0_ent : ∀ row ∈ late0, row.length = 2 ∧ ∀ e ∈ row, EOk 4 2 e := by
  intro row m
  have em : EOk 4 2 .emp := ⟨fun p w r z => by cases z⟩
  have mm : ∀ (e1 e2 : Ent), EOk 4 2 e1 → EOk 4 2 e2 → [e1, e2].length = 2 ∧ ∀ e ∈ [e1, e2], EOk 4 2 e := fun e1 e2 h1 h2 => ⟨rfl, fun e m => by
    rcases List.mem_cons.mp m with rfl | m
    · exact h1
    · rw [List.mem_singleton.mp m]; exact h2⟩
  unfold late0 at m
  rcases List.mem_cons.mp m with rfl | m
  · exact mm _ _ (eok (by decide)) (eok (by decide))
  rcases List.mem_cons.mp m with rfl | m
  · exact mm _ _ (eok (by decide)) (eok (by decide))
  rcases List.mem_cons.mp m with rfl | m
  · exact mm _ _ em (eok (by decide))
  rw [List.mem_singleton.mp m]
  exact mm _ _ (eok (by decide)) (eok (by decide))
theorem EOk.mono {R S S' : Nat} {e : Ent} (h : EOk R S e) (l : S ≤ S') : EOk R S' e := ⟨fun p w r z => by
  obtain ⟨h1, h2, h3⟩ := h.ok p w r z
  exact ⟨⟨h1.1, by omega⟩, h2, h3⟩⟩
theorem late0_ok : MOk late0 4 2 := ⟨by decide, by decide, by decide, by decide, rfl, fun r m => (late0_ent r m).1, fun r m => (late0_ent r m).2⟩
theorem four_le : 4 ≤ sizeLine := by decide
def sp_L_late : Sp := sp_L_machine
theorem ok_L_late (t : Tx K mg) : FnOk P w K mg base CX0 2 t.a_L_late t.fd_L_late ["_law_purse_here"] sp_L_late := by
  refine t.F_L_late.ok sc_L_late (fun vs H Q E h => ?_) (fun cdv A outer s H vs Q E hr h => ?_)
  · obtain ⟨F, p, a, b, rfl, _⟩ := h
    rfl
  · obtain ⟨F, p, a, b, rfl, sF, fp, hp, ha, hb, q⟩ := h
    refine ⟨_, (pss_cons (ps_set (i := 1) sc_L_late.nd rfl (by first | exact Or.inl rfl | exact Or.inr rfl) (pe_lst (pa_cons (pe_lst (pa_cons (pe_tup (pa_cons pe_int (pa_cons pe_int (pa_cons pe_int pa_nil)))) (pa_cons (pe_tup (pa_cons pe_int (pa_cons (pe_un un_neg pe_int) (pa_cons pe_int pa_nil)))) pa_nil))) (pa_cons (pe_lst (pa_cons (pe_tup (pa_cons pe_int (pa_cons (pe_un un_neg pe_int) (pa_cons pe_int pa_nil)))) (pa_cons (pe_tup (pa_cons pe_int (pa_cons (pe_un un_neg pe_int) (pa_cons pe_int pa_nil)))) pa_nil))) (pa_cons (pe_lst (pa_cons (pe_tup pa_nil) (pa_cons (pe_tup (pa_cons pe_int (pa_cons (pe_un un_neg pe_int) (pa_cons pe_int pa_nil)))) pa_nil))) (pa_cons (pe_lst (pa_cons (pe_tup (pa_cons pe_int (pa_cons pe_int (pa_cons pe_int pa_nil)))) (pa_cons (pe_tup (pa_cons pe_int (pa_cons pe_int (pa_cons pe_int pa_nil)))) pa_nil))) pa_nil))))))
      (pss_cons (ps_set (i := 2) sc_L_late.nd rfl (by first | exact Or.inl rfl | exact Or.inr rfl) (pe_call (ok_L_draw t) (hr.mono (by decide)) (by rfl) t.m_L_draw t.F_L_draw.kp t.b_L_draw .nil pass0 (pa_cons (pv 0) (pa_cons pe_int pa_nil))))
      (pss_cons (ps_if (pt_cmpR op_eq (pv 2) pe_int (nomark _)) (pss_one (ps_ret (pv 1))) pss_nil)
      (pss_cons (ps_if (pt_cmpR op_lt (pv 2) pe_int (nomark _)) (pss_cons (ps_setLc (i := 1) (own := [("_law_row", 3)]) (g := gName 3) (tt := tYes) rfl sc_L_late.nd rfl rfl (sw_true rfl rfl rfl (by decide +kernel)) (pi_list (pv 1)) (blkOk_by (N := N_L_late) (sc := defScope s_L_late) (by decide +kernel)) (fun _ _ _ _ _ => (pg_name (i := 3) sc_L_late.nd rfl (by first | exact Or.inl rfl | exact Or.inr rfl))) (fun _ _ _ _ _ => pts_nil) (fun _ _ _ _ _ => (pe_op op_cat (pv 3) (pe_lst (pa_cons (pe_tup (pa_cons (pe_call (ok_L_draw t) (hr.mono (by decide)) (by rfl) t.m_L_draw t.F_L_draw.kp t.b_L_draw .nil pass0 (pa_cons (pv 0) (pa_cons pe_int pa_nil))) (pa_cons (pe_op op_sub (pe_op op_mul pe_int (pe_call (ok_L_draw t) (hr.mono (by decide)) (by rfl) t.m_L_draw t.F_L_draw.kp t.b_L_draw .nil pass0 (pa_cons (pv 0) (pa_cons pe_int pa_nil)))) pe_int) (pa_cons (pe_call (ok_L_draw t) (hr.mono (by decide)) (by rfl) t.m_L_draw t.F_L_draw.kp t.b_L_draw .nil pass0 (pa_cons (pv 0) (pa_cons pe_int pa_nil))) pa_nil)))) pa_nil)))))
      (pss_cons (ps_asg (pe_tup (pa_cons pe_int (pa_cons (pe_op op_sub (pe_op op_mul pe_int (pe_call (ok_L_draw t) (hr.mono (by decide)) (by rfl) t.m_L_draw t.F_L_draw.kp t.b_L_draw .nil pass0 (pa_cons (pv 0) (pa_cons pe_int pa_nil)))) pe_int) (pa_cons pe_int pa_nil)))) (pg_sub (pe_ix ix_list (pv 1) pe_int (fun _ _ => rfl)) pe_int set_list))
      (pss_one (ps_ret (pv 1))))) pss_nil)
      (pss_cons (ps_asg (pe_tup (pa_cons (pe_call (ok_L_draw t) (hr.mono (by decide)) (by rfl) t.m_L_draw t.F_L_draw.kp t.b_L_draw .nil pass0 (pa_cons (pv 0) (pa_cons pe_int pa_nil))) (pa_cons (pe_op op_sub (pe_op op_mul pe_int (pe_call (ok_L_draw t) (hr.mono (by decide)) (by rfl) t.m_L_draw t.F_L_draw.kp t.b_L_draw .nil pass0 (pa_cons (pv 0) (pa_cons pe_int pa_nil)))) pe_int) (pa_cons (pe_call (ok_L_draw t) (hr.mono (by decide)) (by rfl) t.m_L_draw t.F_L_draw.kp t.b_L_draw .nil pass0 (pa_cons (pv 0) (pa_cons pe_int pa_nil))) pa_nil)))) (pg_sub (pe_ix ix_list (pv 1) pe_int (fun _ _ => rfl)) pe_int set_list))
      (pss_one (ps_ret (pv 1)))))))), ?_⟩
    have g0 : Gr (muP p) F H F H := Gr.refl sF
    -- the rows
    refine ⟨three_le, fun q1 n1 => ⟨_, rfl, three_le, fun q2 n2 => ⟨two_le, fun r1 n3 => ?_⟩⟩⟩
    obtain ⟨g1, x1, k1⟩ := RoO.two (e1 := .go 1 1 1) (e2 := .go 1 (-1) 1) rfl rfl g0 (RoO.nil (H := H)) n1 n2 n3
    have hp1 := k1 _ _ hp
    refine ⟨_, rfl, three_le, fun q3 n4 => ⟨_, rfl, three_le, fun q4 n5 => ⟨two_le, fun r2 n6 => ?_⟩⟩⟩
    obtain ⟨g2, x2, k2⟩ := RoO.two (e1 := .go 1 (-1) 0) (e2 := .go 0 (-1) 2) rfl rfl g1 x1 n4 n5 n6
    have hp2 := k2 _ _ hp1
    refine ⟨nil_le, fun q5 n7 => ⟨_, rfl, three_le, fun q6 n8 => ⟨two_le, fun r3 n9 => ?_⟩⟩⟩
    obtain ⟨g3, x3, k3⟩ := RoO.two (e1 := .emp) (e2 := .go 1 (-1) 3) rfl rfl g2 x2 n7 n8 n9
    have hp3 := k3 _ _ hp2
    refine ⟨three_le, fun q7 n10 => ⟨three_le, fun q8 n11 => ⟨two_le, fun r4 n12 => ?_⟩⟩⟩
    obtain ⟨g4, x4, k4⟩ := RoO.two (e1 := .go 1 1 3) (e2 := .go 0 1 0) rfl rfl g3 x3 n10 n11 n12
    have hp4 := k4 _ _ hp3
    refine ⟨four_le, fun D nD => ?_⟩
    have x5 := x4.mach g4 nD
    have g5 := g4.own (o := .lst (([r1, r2, r3, r4] : List Addr).map V.ref)) nD
    have hp5 := ln (u := .lst (([r1, r2, r3, r4] : List Addr).map V.ref)) nD hp4
    -- kind
    refine ⟨_, rfl, p, a, b, 4, rfl, hp5, ha, hb, by decide, by decide, fun kd a1 b1 k0 k1' ha1 hb1 => ?_⟩
    obtain ⟨g6, k6⟩ := g5.drw (a := a1) (b := b1) fp hp
    have x6 := x5.gr k6 (x5.off hp)
    refine ⟨_, rfl, rfl, _, rfl, ?_⟩
    refine ite2 (fun _ => ⟨_, rfl, q _ _ D _ _ late0 4 2 a1 b1 g6 upd_same ha1 hb1 late0_ok x6⟩) (fun _ => ?_)
    refine ⟨_, rfl, _, _, rfl, rfl, _, rfl, ?_⟩
    refine ite2 (fun _ => ?_) (fun _ => ?_)
    · refine ⟨_, rfl, D, rfl, ⟨_, SqL.of x6.ow.h⟩, fun E nE => ?_⟩
      have g7 := g6.own (o := .lst []) nE
      have x7 := x6.gr ((Gr.refl (mu := mu0) g6.fh).own (o := .lst []) nE) fun c z => z.elim
      have DE : D ≠ E := x6.ow.ne nE
      have offE := x6.offn nE
      have hp7 := ln (u := .lst []) nE (upd_same (a := p) (o := PurseO a1 b1))
      have y7 : MaO H _ _ E [] [] [] := ⟨Ow.mk1 g6 nE, List.nodup_nil, (fun z => nomatch z), rfl, fun i r es h _ => (by cases h), All2.nil⟩
      refine lc_list (K := K) (a := D) (xs := ([r1, r2, r3, r4] : List Addr).map V.ref) (fun i G => ∃ (F1 : Hp) (rs : List Addr) (ess : List (List V)) (M : Mach) (a b : Int), Gr (muP p) F H F1 G ∧ G p = some (PurseO a b) ∧ 0 ≤ a ∧ 0 ≤ b ∧ MaO H F1 G D [r1, r2, r3, r4] [[.ref q1, .ref q2], [.ref q3, .ref q4], [.ref q5, .ref q6], [.ref q7, .ref q8]] late0 ∧
        MaO H F1 G E rs ess M ∧ D ∉ rs ∧ (∀ r ∈ rs, r ∉ [r1, r2, r3, r4]) ∧ M.length = i ∧ ∀ row ∈ M, row.length = 3 ∧ ∀ e ∈ row, EOk 4 3 e) ⟨_, [], [], [], a1, b1, g7, hp7, ha1, hb1, x7, y7, (fun z => nomatch z), (fun r z => nomatch z), rfl, fun row z => nomatch z⟩ (fun i G _ ⟨F1, rs, ess, M, a, b, _, _, _, _, x, _⟩ => SqL.of x.ow.h) ?_ ?_
      · rintro i y G hi ⟨F1, rs, ess, M, a, b, g, hpG, ha, hb, x, ym, dD, dR, lM, hM⟩
        have il : i < 4 := (List.getElem?_eq_some_iff.mp hi).1
        obtain ⟨ri, es, row, hr, he, hw, w, les, m⟩ := x.slot late0_ok il
        have hi : (([r1, r2, r3, r4] : List Addr).map V.ref)[i]? = some y := hi
        rw [m] at hi
        cases hi
        refine ⟨rfl, yes ⟨_, rfl, ?_⟩⟩
        refine ⟨_, rfl, p, a, b, 3, rfl, hpG, ha, hb, by decide, by decide, fun e1 a1 b1 e10 e11 ha1 hb1 => ?_⟩
        obtain ⟨g1, k1⟩ := g.drw (a := a1) (b := b1) fp hp
        refine ⟨_, rfl, p, a1, b1, 2, rfl, upd_same, ha1, hb1, by decide, by decide, fun e2 a2 b2 e20 e21 ha2 hb2 => ⟨_, _, rfl, rfl, .inl ⟨by decide, by decide⟩, _, _, rfl, rfl, ?_⟩⟩
        obtain ⟨g2, k2⟩ := g1.drw (a := a2) (b := b2) fp hp
        refine ⟨_, rfl, p, a2, b2, 4, rfl, upd_same, ha2, hb2, by decide, by decide, fun e3 a3 b3 e30 e31 ha3 hb3 => ⟨three_le, fun q0 nq => ⟨one_le, fun l nl => ?_⟩⟩⟩
        obtain ⟨g3, k3⟩ := g2.drw (a := a3) (b := b3) fp hp
        have k := (k1.trans k2).trans k3
        have x3 := x.gr k (x.off hp)
        have y3 := ym.gr k (ym.off hp)
        have hp3 : (upd (upd (upd G p (PurseO a1 b1)) p (PurseO a2 b2)) p (PurseO a3 b3)) p = some (PurseO a3 b3) := upd_same
        generalize upd (upd (upd G p (PurseO a1 b1)) p (PurseO a2 b2)) p (PurseO a3 b3) = G3 at g3 k x3 y3 hp3 nq nl
        have g4 := (g3.new (o := .tup [.int e1, .int (2 * e2 - 1), .int e3]) nq).own (o := .lst [.ref q0]) nl
        have k4 := ((Gr.refl (mu := mu0) g3.fh).new (o := .tup [.int e1, .int (2 * e2 - 1), .int e3]) nq).own (o := .lst [.ref q0]) nl
        have x4 := x3.gr k4 fun c z => z.elim
        have y4 := y3.gr k4 fun c z => z.elim
        have hp4 := k4.fr _ _ hp3 fun z => z
        have ee : Is (upd F1 q0 (.tup [.int e1, .int (2 * e2 - 1), .int e3])) (.ref q0) (Ent.go e1 (2 * e2 - 1) e3) := ⟨q0, rfl, upd_same⟩
        have eo : EOk 4 3 (Ent.go e1 (2 * e2 - 1) e3) := eok ⟨⟨e10, e11⟩, by omega, e30, e31⟩
        have w4 := x4.rows _ _ _ hr he
        have hl4 : (upd (upd G3 q0 (.tup [.int e1, .int (2 * e2 - 1), .int e3])) l (.lst [.ref q0])) l = some (.lst [.ref q0]) := upd_same
        have al4 := x4.dat.2 i es row he hw
        generalize upd F1 q0 (.tup [.int e1, .int (2 * e2 - 1), .int e3]) = F4 at g4 k4 x4 y4 ee w4 al4
        generalize upd (upd G3 q0 (.tup [.int e1, .int (2 * e2 - 1), .int e3])) l (.lst [.ref q0]) = G4 at g4 k4 x4 y4 hp4 w4 hl4
        refine ⟨ri, l, es, [.ref q0], rfl, rfl, w4.h, hl4, by rw [les]; exact three_le, fun r nr => ?_⟩
        have offx := x4.offn nr
        have offy := y4.offn nr
        have g5 := g4.own (o := .lst (es ++ [.ref q0])) nr
        have k5 := (Gr.refl (mu := mu0) g4.fh).own (o := .lst (es ++ [.ref q0])) nr
        have x5 := x4.gr k5 fun c z => z.elim
        have y5 := y4.gr k5 fun c z => z.elim
        have w5 : Ow H F4 (upd G4 r (.lst (es ++ [.ref q0]))) r (.lst (es ++ [.ref q0])) := Ow.mk1 g4 nr
        have hp5 := ln (u := .lst (es ++ [.ref q0])) nr hp4
        have lrs : rs.length = i := by rw [ym.len, ym.dat.1, lM]
        refine ⟨rs.map V.ref, y5.ow.h, by rw [List.length_map]; exact lt_size (by omega), ?_⟩
        have e1' : rs.map V.ref ++ [V.ref r] = (rs ++ [r]).map V.ref := by rw [List.map_append]; rfl
        rw [e1']
        have pE : p ≠ E := fun z => by rw [z] at hp; rw [y5.ow.n] at hp; cases hp
        have ENotD : E ≠ D := fun z => by have h1 := y5.ow.h; rw [z] at h1; exact DE z.symm
        refine ⟨F4, rs ++ [r], ess ++ [_], M ++ [row ++ [Ent.go e1 (2 * e2 - 1) e3]], a3, b3, g5.set y5.ow.f (.inl y5.ow.n), by rw [upd_ne pE]; exact hp5, ha3, hb3, x5.gr (mu := fun c => c = E) ((Gr.refl g5.fh).set y5.ow.f (.inr rfl)) (fun c z => by rw [show c = E from z]; exact ⟨ENotD, offE.2⟩), y5.add w5 offy (al4.app (All2.one ee)), fun z => ?_, fun r' z => ?_, by rw [List.length_append, lM]; rfl, fun row' z => ?_⟩
        · rcases List.mem_append.mp z with z | z
          · exact dD z
          · exact offx.1 (List.mem_singleton.mp z).symm
        · rcases List.mem_append.mp z with z | z
          · exact dR r' z
          · rw [List.mem_singleton.mp z]; exact offx.2
        · rcases List.mem_append.mp z with z | z
          · exact hM row' z
          · rw [List.mem_singleton.mp z]
            obtain ⟨l1, l2⟩ := late0_ent row (List.mem_of_getElem? hw)
            refine ⟨by rw [List.length_append, l1]; rfl, fun e z => ?_⟩
            rcases List.mem_append.mp z with z | z
            · exact (l2 e z).mono (by decide)
            · rw [List.mem_singleton.mp z]; exact eo
      · rintro G ⟨F1, rs, ess, M, a, b, g, hpG, ha, hb, x, ym, dD, dR, lM, hM⟩
        have mok : MOk M 4 3 := ⟨by decide, by decide, by decide, by decide, lM, fun r z => (hM r z).1, fun r z => (hM r z).2⟩
        refine ⟨_, rfl, p, a, b, 2, rfl, hpG, ha, hb, by decide, by decide, fun e2 a2 b2 e20 e21 ha2 hb2 => ⟨_, _, rfl, rfl, .inl ⟨by decide, by decide⟩, _, _, rfl, rfl, three_le, fun q0 nq => ?_⟩⟩
        obtain ⟨g2, k2⟩ := g.drw (a := a2) (b := b2) fp hp
        have y2 := ym.gr k2 (ym.off hp)
        have hp2 : (upd G p (PurseO a2 b2)) p = some (PurseO a2 b2) := upd_same
        generalize upd G p (PurseO a2 b2) = G2 at g2 k2 y2 hp2 nq
        have g3 := g2.new (o := .tup [.int 2, .int (2 * e2 - 1), .int 2]) nq
        have k3 := (Gr.refl (mu := mu0) g2.fh).new (o := .tup [.int 2, .int (2 * e2 - 1), .int 2]) nq
        have y3 := y2.gr k3 fun c z => z.elim
        have hp3 := k3.fr _ _ hp2 fun z => z
        have ee : Is (upd F1 q0 (.tup [.int 2, .int (2 * e2 - 1), .int 2])) (.ref q0) (Ent.go 2 (2 * e2 - 1) 2) := ⟨q0, rfl, upd_same⟩
        have eo : EOk 4 3 (Ent.go 2 (2 * e2 - 1) 2) := eok ⟨by decide, by omega, by decide⟩
        generalize upd F1 q0 (.tup [.int 2, .int (2 * e2 - 1), .int 2]) = F3 at g3 y3 ee
        generalize upd G2 q0 (.tup [.int 2, .int (2 * e2 - 1), .int 2]) = G3 at g3 y3 hp3
        obtain ⟨r0, es0, row0, hr0, he0, hw0, w0, l0, m0⟩ := y3.slot mok (i := 2) (by decide)
        refine ⟨_, rfl, E, _, _, _, rfl, rfl, SqL.of y3.ow.h, atI_nat (j := 2) m0, r0, _, 0, 0, rfl, rfl, w0.h, ixN_of (Int.le_refl _) (by omega), ?_⟩
        have pr0 : p ≠ r0 := fun z => by rw [z] at hp; rw [w0.n] at hp; cases hp
        exact ⟨_, rfl, q F3 _ E rs _ _ 4 3 a2 b2 (g3.set w0.f (.inl w0.n)) ((upd_ne pr0).trans hp3) ha2 hb2 (mok.set (j := 0) hw0 eo) (y3.put (j := 0) hr0 he0 hw0 ee)⟩
    · refine ⟨_, rfl, p, a1, b1, 2, rfl, upd_same, ha1, hb1, by decide, by decide, fun e1 a2 b2 e10 e11 ha2 hb2 => ?_⟩
      obtain ⟨g7, k7⟩ := g6.drw (a := a2) (b := b2) fp hp
      refine ⟨_, rfl, p, a2, b2, 2, rfl, upd_same, ha2, hb2, by decide, by decide, fun e2 a3 b3 e20 e21 ha3 hb3 => ⟨_, _, rfl, rfl, .inl ⟨by decide, by decide⟩, _, _, rfl, rfl, ?_⟩⟩
      obtain ⟨g8, k8⟩ := g7.drw (a := a3) (b := b3) fp hp
      refine ⟨_, rfl, p, a3, b3, 4, rfl, upd_same, ha3, hb3, by decide, by decide, fun e3 a4 b4 e30 e31 ha4 hb4 => ⟨three_le, fun q0 nq => ?_⟩⟩
      obtain ⟨g9, k9⟩ := g8.drw (a := a4) (b := b4) fp hp
      have k := (k7.trans k8).trans k9
      have x9 := x6.gr k (x6.off hp)
      have g10 := g9.new (o := .tup [.int e1, .int (2 * e2 - 1), .int e3]) nq
      have k10 := (Gr.refl (mu := mu0) g9.fh).new (o := .tup [.int e1, .int (2 * e2 - 1), .int e3]) nq
      have x10 := x9.gr k10 fun c z => z.elim
      have hp10 := k10.fr _ _ (upd_same (a := p) (o := PurseO a4 b4)) fun z => z
      have eo : EOk 4 2 (Ent.go e1 (2 * e2 - 1) e3) := eok ⟨⟨e10, e11⟩, by omega, e30, e31⟩
      obtain ⟨r0, es0, row0, hr0, he0, hw0, w0, l0, m0⟩ := x10.slot late0_ok (i := 2) (by decide)
      refine ⟨_, rfl, D, _, _, _, rfl, rfl, SqL.of x10.ow.h, atI_nat (j := 2) m0, r0, _, 0, 0, rfl, rfl, w0.h, ixN_of (Int.le_refl _) (by omega), ?_⟩
      have pr0 : p ≠ r0 := fun z => by rw [z] at hp; rw [w0.n] at hp; cases hp
      exact ⟨_, rfl, q _ _ D _ _ _ 4 2 a4 b4 (g10.set w0.f (.inl w0.n)) ((upd_ne pr0).trans hp10) ha4 hb4 (late0_ok.set (j := 0) hw0 eo) (x10.put (j := 0) (v := .ref q0) (e := Ent.go e1 (2 * e2 - 1) e3) hr0 he0 hw0 ⟨q0, rfl, upd_same⟩)⟩
def sp_L_any : Sp := sp_L_machine
theorem ok_L_any (t : Tx K mg) : FnOk P w K mg base CX0 3 t.a_L_any t.fd_L_any ["_law_purse_here"] sp_L_any := by
  refine t.F_L_any.ok sc_L_any (fun vs H Q E h => ?_) (fun cdv A outer s H vs Q E hr h => ?_)
  · obtain ⟨F, p, a, b, rfl, _⟩ := h
    rfl
  · obtain ⟨F, p, a, b, rfl, sF, fp, hp, ha, hb, q⟩ := h
    refine ⟨_, (pss_cons (ps_if (pt_cmpR op_eq (pe_call (ok_L_draw t) (hr.mono (by decide)) (by rfl) t.m_L_draw t.F_L_draw.kp t.b_L_draw .nil pass0 (pa_cons (pv 0) (pa_cons pe_int pa_nil))) pe_int (nomark _)) (pss_one (ps_ret (pe_call (ok_L_late t) (hr.mono (by decide)) (by rfl) t.m_L_late t.F_L_late.kp t.b_L_late .nil pass0 (pa_cons (pv 0) pa_nil)))) pss_nil)
      (pss_cons (ps_if (pt_cmpR op_eq (pe_call (ok_L_draw t) (hr.mono (by decide)) (by rfl) t.m_L_draw t.F_L_draw.kp t.b_L_draw .nil pass0 (pa_cons (pv 0) (pa_cons pe_int pa_nil))) pe_int (nomark _)) (pss_one (ps_ret (pe_call (ok_L_led t) (hr.mono (by decide)) (by rfl) t.m_L_led t.F_L_led.kp t.b_L_led .nil pass0 (pa_cons (pv 0) pa_nil)))) pss_nil)
      (pss_one (ps_ret (pe_call (ok_L_machine t) (hr.mono (by decide)) (by rfl) t.m_L_machine t.F_L_machine.kp t.b_L_machine .nil pass0 (pa_cons (pv 0) pa_nil)))))), ?_⟩
    have g0 : Gr (muP p) F H F H := Gr.refl sF
    refine ⟨_, rfl, p, a, b, 6, rfl, hp, ha, hb, by decide, by decide, fun d1 a1 b1 d10 d11 ha1 hb1 => ⟨rfl, _, rfl, ?_⟩⟩
    have g1 := g0.set (o := PurseO a1 b1) fp (.inr rfl)
    have up : ∀ {H1 : Hp} {u : HO}, H p = some u → (∀ c, H1 c = none → H c = none) → ∀ {F' H' m rs ess M}, MaO H1 F' H' m rs ess M → MaO H F' H' m rs ess M := by
      intro H1 u _ t F' H' m rs ess M x
      exact ⟨⟨t _ x.ow.n, x.ow.f, x.ow.h⟩, x.nd, x.ne, x.len, fun i r es h1 h2 => ⟨t _ (x.rows i r es h1 h2).n, (x.rows i r es h1 h2).f, (x.rows i r es h1 h2).h⟩, x.dat⟩
    refine ite2 (fun _ => ?_) (fun _ => ?_)
    · exact ⟨_, rfl, F, p, a1, b1, rfl, g1.fh, fp, upd_same, ha1, hb1, fun F' H' m rs ess M R S a' b' g hp' ha' hb' hM x => q F' H' m rs ess M R S a' b' (g1.trans g) hp' ha' hb' hM (up hp g1.th x)⟩
    · refine ⟨_, rfl, p, a1, b1, 3, rfl, upd_same, ha1, hb1, by decide, by decide, fun d2 a2 b2 d20 d21 ha2 hb2 => ⟨rfl, _, rfl, ?_⟩⟩
      have g2 := g1.set (o := PurseO a2 b2) fp (.inr rfl)
      refine ite2 (fun _ => ?_) (fun _ => ?_)
      · exact ⟨_, rfl, F, p, a2, b2, rfl, g2.fh, fp, upd_same, ha2, hb2, fun F' H' m rs ess M R S a' b' g hp' ha' hb' hM x => q F' H' m rs ess M R S a' b' (g2.trans g) hp' ha' hb' hM (up hp g2.th x)⟩
      · exact ⟨_, rfl, F, p, a2, b2, rfl, g2.fh, fp, upd_same, ha2, hb2, fun F' H' m rs ess M R S a' b' g hp' ha' hb' hM x => q F' H' m rs ess M R S a' b' (g2.trans g) hp' ha' hb' hM (up hp g2.th x)⟩
def sp_L_walk : Sp := fun vs H Q _ => ∃ (F : Hp) (m : V) (M : Mach) (R S n : Nat), vs = [m, .int n] ∧ Same F H ∧ Is F m M ∧ MOk M R S ∧ n ≤ 5000 ∧
  ∀ (F' H' : Hp) (u fl : Addr) (xs : List V) (k : Nat) (c : Cfg), Gr mu0 F H F' H' → F' u = some (.tup [.ref fl, .bl (decide (entOf M c = Ent.emp))]) → F' fl = some (.lst xs) → Gone M n k c → ZAll F' M xs k → Q (.ref u) H'
theorem ok_L_walk (t : Tx K mg) : FnOk P w K mg base CX0 1 t.a_L_walk t.fd_L_walk ["_law_machine_here", "_law_most"] sp_L_walk := by
  refine t.F_L_walk.ok sc_L_walk (fun vs H Q E h => ?_) (fun cdv A outer s H vs Q E hr h => ?_)
  · obtain ⟨F, m, M, R, S, n, rfl, _⟩ := h
    rfl
  · obtain ⟨F, m, M, R, S, n, rfl, sF, hm, hM, hn, q⟩ := h
    refine ⟨_, (pss_cons (ps_set (i := 2) sc_L_walk.nd rfl (by first | exact Or.inl rfl | exact Or.inr rfl) pe_dnewK)
      (pss_cons (ps_asg (pe_tup (pa_cons pe_int (pa_cons pe_int pa_nil))) (pg_tup rfl (pgs_cons (pg_name (i := 3) sc_L_walk.nd rfl (by first | exact Or.inl rfl | exact Or.inr rfl)) (pgs_cons (pg_name (i := 4) sc_L_walk.nd rfl (by first | exact Or.inl rfl | exact Or.inr rfl)) pgs_nil))))
      (pss_cons (ps_set (i := 5) sc_L_walk.nd rfl (by first | exact Or.inl rfl | exact Or.inr rfl) (pe_lst (pa_cons (pe_tup (pa_cons pe_int (pa_cons pe_int (pa_cons pe_dnewK pa_nil)))) pa_nil)))
      (pss_cons (ps_set (i := 6) sc_L_walk.nd rfl (by first | exact Or.inl rfl | exact Or.inr rfl) (pe_ix ix_list (pe_ix ix_list (pv 0) pe_int (fun _ _ => rfl)) pe_int (fun _ _ => rfl)))
      (pss_cons (ps_while PassesOwn.never (PW.pt (pw_and (pt_cmpR (op_neD hr.units) (pv 6) (pe_tup pa_nil) (nomark _)) (pw_and1 (pt_cmpR op_le (pe_callB (id := "len") call_lenQ (by rfl) t.n_len (by decide +kernel) (pa_cons (pv 5) pa_nil)) (pv 1) (nomark _))))) (pss_cons (ps_dput (hu_of hr) (pv 2) (pv 4) (pe_ix ix_tup (pv 6) pe_int (fun _ _ => rfl)) rfl)
      (pss_cons (ps_if (pt_cmpR op_eq (pe_ix ix_tup (pv 6) pe_int (fun _ _ => rfl)) pe_int (nomark _)) (pss_one (ps_expr (pe_dpop1 (pv 2) (pv 4) ⟨by rfl, by rfl, by rfl, by rfl⟩))) pss_nil)
      (pss_cons (ps_set (i := 4) sc_L_walk.nd rfl (by first | exact Or.inl rfl | exact Or.inr rfl) (pe_op op_add (pv 4) (pe_ix ix_tup (pv 6) pe_int (fun _ _ => rfl))))
      (pss_cons (ps_set (i := 3) sc_L_walk.nd rfl (by first | exact Or.inl rfl | exact Or.inr rfl) (pe_ix ix_tup (pv 6) pe_int (fun _ _ => rfl)))
      (pss_cons (ps_expr (pe_bm PySem.F.plainAttrs_list PySem.F.slot_list_append PySem.F.type_list_append mt_append (pv 5) (pa_cons (pe_tup (pa_cons (pv 3) (pa_cons (pv 4) (pa_cons (pe_callTy (T := "dict") call_dictD (by rfl) t.n_dict (by decide +kernel) (pa_cons (pv 2) pa_nil)) pa_nil)))) pa_nil)))
      (pss_one (ps_set (i := 6) sc_L_walk.nd rfl (by first | exact Or.inl rfl | exact Or.inr rfl) (pe_ix ix_list (pe_ix ix_list (pv 0) (pv 3) (fun _ _ => rfl)) (pe_dget2 (hu_of hr) (pv 2) (pv 4) pe_int ⟨by rfl, by rfl, by rfl, by rfl⟩) (fun _ _ => rfl))))))))))
      (pss_one (ps_ret (pe_tup (pa_cons (pv 5) (pa_cons (pe_cmpR (op_eqD hr.units) (pv 6) (pe_tup pa_nil) (nomark _)) pa_nil)))))))))), ?_⟩
    have g0 : Gr mu0 F H F H := Gr.refl sF
    obtain ⟨am, rs, rfl, ham, hrs⟩ := id hm
    -- signs = {}; row, place = (0, 0); found = [(0, 0, {})]
    refine fun d nd => ⟨two_le, fun t0 nt0 => ⟨t0, _, rfl, SqT.of upd_same, rfl, _, _, rfl, _, _, rfl, rfl, fun d1 nd1 => ⟨three_le, fun t1 nt1 => ⟨one_le, fun D nD => ?_⟩⟩⟩⟩
    have g1 := (g0.own (o := .dK (dI [])) nd).own (o := .tup [.int 0, .int 0]) nt0
    have w1 : Ow H F (upd (upd H d (.dK (dI []))) t0 (.tup [.int 0, .int 0])) d (.dK (dI [])) := (Ow.mk1 g0 nd).own nt0
    have g2 := g1.new (o := .dK (dI [])) nd1
    have w2 := w1.new (u := .dK (dI [])) nd1
    have g3 := g2.new (o := .tup [.int 0, .int 0, .ref d1]) nt1
    have w3 := w2.new (u := .tup [.int 0, .int 0, .ref d1]) nt1
    have cf1 : zAt (upd (upd F d1 (.dK (dI []))) t1 (.tup [.int 0, .int 0, .ref d1])) (.ref t1) c0 := by
      refine ⟨t1, d1, [], rfl, upd_same, ?_, ZRel.nil⟩
      rw [upd_ne (ne_of_none upd_same nt1)]; exact upd_same
    have g4 := g3.own (o := .lst [.ref t1]) nD
    have w4 := w3.own (u := .lst [.ref t1]) nD
    have v4 : Ow H _ (upd _ D (.lst [.ref t1])) D (.lst [.ref t1]) := Ow.mk1 g3 nD
    -- entry = machine[0][0]
    have hc := c0_ok (S := S) hM.r1
    obtain ⟨row, e1, s0, e2, eo⟩ := hc.ent hM
    obtain ⟨am', rs', ra, es, ev, eq1, f1, x1, f2, x2, iv⟩ := mach_ent hm e1 e2
    cases eq1
    refine ⟨_, rfl, am, _, _, _, rfl, rfl, SqL.of (g4.fh _ _ (g3.ff _ _ f1)), atI_nat (j := 0) x1, ?_⟩
    refine ⟨ra, _, _, _, rfl, rfl, SqL.of (g4.fh _ _ (g3.ff _ _ f2)), atI_nat (j := 0) x2, ?_⟩
    -- the loop
    refine ⟨fun k σ G => ∃ (F1 : Hp) (j : Nat) (c : Cfg) (l : List PI) (ev : V) (xs : List V), k = n + 1 - j ∧ σ = [some (.ref am), some (.int n), some (.ref d), some (.int c.r), some (.int c.s), some (.ref D), some ev] ∧
      Gr mu0 F H F1 G ∧ Ow H F1 G d (.dK (dI l)) ∧ Ow H F1 G D (.lst xs) ∧ ZAll F1 M xs j ∧ Is F1 ev (entOf M c) ∧ stepsC M j = some c ∧ ZRel c.l l ∧ j ≤ n,
      ⟨_, _, 0, c0, [], ev, _, rfl, rfl, g4, w4, v4, ZAll.one cf1, iv.up g3.ff, rfl, ZRel.nil, Nat.zero_le _⟩, ?_⟩
    rintro k σ G ⟨F1, j, c, l, ev, xs, rfl, rfl, g, w, v, al, iv, st, zr, lj⟩
    obtain ⟨ok, ll⟩ := stepsC_ok hM st
    have zl := zr.len
    have lx : xs.length = j + 1 := al.1
    -- what comes behind the loop
    have fin : ∀ G1 : Hp, Gr mu0 F H F1 G1 → Ow H F1 G1 D (.lst xs) → (stepC M c = none ∨ j = n) → ∀ p, G1 p = none → ∀ u, (upd G1 p (.tup [])) u = none → Q (.ref u) (upd (upd G1 p (.tup [])) u (.tup [.ref D, .bl (decide (entOf M c = Ent.emp))])) := by
      intro G1 g1 v1 hend p np u nu
      have g2 := g1.own (o := .tup []) np
      have v2 := v1.own (u := .tup []) np
      have g3 := g2.own (o := .tup [.ref D, .bl (decide (entOf M c = Ent.emp))]) nu
      have v3 := v2.own (u := .tup [.ref D, .bl (decide (entOf M c = Ent.emp))]) nu
      have Du : D ≠ u := v2.ne nu
      have g4 := g3.frz v3.h v3.n v3.f
      have fu : (upd F1 D (.lst xs)) u = none := by rw [upd_ne Du.symm]; exact g2.fh.free nu
      have g5 := g4.frz (q := u) (o := .tup [.ref D, .bl (decide (entOf M c = Ent.emp))]) upd_same (g2.th _ nu) fu
      have s1 : Same F1 (upd F1 D (.lst xs)) := sm_new (Same.refl F1) v1.f
      exact q _ _ u D xs j c g5 upd_same (by rw [upd_ne Du, upd_same]) ⟨lj, st, hend⟩ ((al.up s1).up (sm_new (Same.refl _) fu))
    -- while entry != () and len(found) <= most
    refine ⟨_, rfl, nil_le, fun p np => ?_⟩
    have gp := g.own (o := .tup []) np
    have wp := w.own (u := .tup []) np
    have vp := v.own (u := .tup []) np
    refine ne_dat (a := entOf M c) (b := Ent.emp) (iv.up gp.fh) ⟨p, rfl, upd_same⟩ ?_
    refine ⟨_, rfl, ?_⟩
    refine ite2 (fun ce => ?_) (fun ce => ?_)
    · refine ⟨_, rfl, D, _, rfl, .inl (SqL.of vp.h), _, rfl, _, _, rfl, rfl, _, rfl, ?_⟩
      refine ite2 (fun cl => ?_) (fun cl => ?_)
      · refine ⟨_, fun _ _ h => h, ?_⟩
        have cl : (xs.length : Int) ≤ n := of_decide_eq_true cl
        cases he : entOf M c with
        | emp => rw [he] at ce; exact absurd ce (by decide)
        | go pu wa ro =>
          rw [he] at iv
          obtain ⟨ae, rfl, hae⟩ := id iv
          have st1 := stepC_go he
          have ok' := ok.step hM st1
          -- signs[place] = entry[0]
          refine ⟨_, rfl, ae, _, _, _, rfl, rfl, SqT.of (gp.fh _ _ hae), atI_nat (j := 0) rfl, _, rfl, _, rfl, d, _, rfl, DPut.k (k := Sum.inl c.s) wp.h (size_dI zl (by omega)), ?_⟩
          rw [dI_put]
          have g1 := gp.set (o := .dK (dI (put l c.s pu))) wp.f (.inl wp.n)
          have w1 := wp.set (u := .dK (dI (put l c.s pu)))
          have dD : D ≠ d := ne_of v.h w.h (by intro z; cases z)
          have v1 := vp.other (u := .dK (dI (put l c.s pu))) dD
          generalize upd (upd G p (.tup [])) d (.dK (dI (put l c.s pu))) = G1 at g1 w1 v1
          -- if entry[0] == 0: signs.pop(place)
          refine ⟨_, rfl, ae, _, _, _, rfl, rfl, SqT.of (g1.fh _ _ hae), atI_nat (j := 0) rfl, rfl, _, rfl, ?_⟩
          refine ite2 (fun cz => ?A) (fun cz => ?B)
          case' A =>
            have cz : V.int pu = V.int 0 := of_decide_eq_true cz
            have cz : pu = 0 := V.int.inj cz
            refine ⟨_, rfl, d, rfl, .inl ⟨_, .inl w1.h⟩, _, rfl, _, Sum.inl c.s, .int pu, w1.h, rfl, by rw [dI_val, look_put, if_pos rfl]; rfl, ?_⟩
            rw [dI_pop]
            have zr1 : ZRel (put c.l c.s pu) (pop (put l c.s pu) c.s) := by rw [cz]; exact zr.pop c.s
            have g2 := g1.set (o := .dK (dI (pop (put l c.s pu) c.s))) w1.f (.inl w1.n)
            have w2 := w1.set (u := .dK (dI (pop (put l c.s pu) c.s)))
            have v2 := v1.other (u := .dK (dI (pop (put l c.s pu) c.s))) dD
            generalize upd G1 d (.dK (dI (pop (put l c.s pu) c.s))) = G2 at g2 w2 v2
            generalize pop (put l c.s pu) c.s = l2 at zr1 w2
          case' B =>
            have cz : pu ≠ 0 := fun z => cz (decide_eq_true (by rw [z]))
            have zr1 : ZRel (put c.l c.s pu) (put l c.s pu) := zr.put c.s cz
            have g2 := g1
            have w2 := w1
            have v2 := v1
            generalize put l c.s pu = l2 at zr1 w2
          all_goals
            -- place, row
            refine ⟨_, rfl, _, rfl, ae, _, _, _, rfl, rfl, SqT.of (g2.fh _ _ hae), atI_nat (j := 1) rfl, _, _, rfl, rfl, _, rfl, ae, _, _, _, rfl, rfl, SqT.of (g2.fh _ _ hae), atI_nat (j := 2) rfl, ?_⟩
            -- found.append((row, place, dict(signs)))
            refine ⟨_, rfl, .inl ⟨rfl, _, SqL.of v2.h⟩, _, rfl, _, rfl, _, rfl, d, _, rfl, dict_copy w2.h, fun d1 nd1 => ⟨three_le, fun t1 nt1 => ?_⟩⟩
            have g3 := g2.new (o := .dK (dI l2)) nd1
            have w3 := w2.new (u := .dK (dI l2)) nd1
            have v3 := v2.new (u := .dK (dI l2)) nd1
            have g4 := g3.new (o := .tup [.int ro, .int (c.s + wa), .ref d1]) nt1
            have w4 := w3.new (u := .tup [.int ro, .int (c.s + wa), .ref d1]) nt1
            have v4 := v3.new (u := .tup [.int ro, .int (c.s + wa), .ref d1]) nt1
            have sf : Same F1 (upd (upd F1 d1 (.dK (dI l2))) t1 (.tup [.int ro, .int (c.s + wa), .ref d1])) := sm_new (sm_new (Same.refl F1) (g2.fh.free nd1)) (g3.fh.free nt1)
            refine ⟨D, _, _, rfl, rfl, v4.h, lt_size (by omega), ?_⟩
            have g5 := g4.set (o := .lst (xs ++ [.ref t1])) v4.f (.inl v4.n)
            have w5 := w4.other (u := .lst (xs ++ [.ref t1])) dD.symm
            have v5 := v4.set (u := .lst (xs ++ [.ref t1]))
            have cf1 : zAt (upd (upd F1 d1 (.dK (dI l2))) t1 (.tup [.int ro, .int (c.s + wa), .ref d1])) (.ref t1) ⟨ro, c.s + wa, put c.l c.s pu⟩ := by
              refine ⟨t1, d1, l2, rfl, upd_same, ?_, zr1⟩
              rw [upd_ne (ne_of_none upd_same nt1)]; exact upd_same
            -- entry = machine[row][signs.get(place, 0)]
            obtain ⟨row, e1, s0, e2, eo⟩ := ok'.ent' hM zr1
            obtain ⟨am', rs', ra, es, ev, eq1, f1, x1, f2, x2, iv'⟩ := mach_ent (hm.up g5.ff) e1 e2
            cases eq1
            refine ⟨_, rfl, _, rfl, am, _, _, _, rfl, rfl, SqL.of (g5.fh _ _ f1), at_of (Int.toNat_of_nonneg ok'.r0).symm x1, ?_⟩
            refine ⟨_, rfl, d, rfl, .inl ⟨_, .inl w5.h⟩, _, rfl, _, DGet.k (k := Sum.inl (c.s + wa)) w5.h, ?_⟩
            rw [dI_val, getD_int]
            refine ⟨ra, _, _, _, rfl, rfl, SqL.of (g5.fh _ _ f2), at_of (Int.toNat_of_nonneg s0).symm x2, ?_⟩
            have st2 := (stepsC_next st).trans st1
            exact ⟨n + 1 - (j + 1), by omega, _, j + 1, ⟨ro, c.s + wa, put c.l c.s pu⟩, l2, ev, _, rfl, rfl, g5, w5, v5, (al.up sf).app st2 cf1, iv', st2, zr1, by omega⟩
      · refine ⟨_, rfl, _, rfl, nil_le, fun p2 np2 => ?_⟩
        have cl : ¬ (xs.length : Int) ≤ n := fun z => cl (decide_eq_true z)
        refine eq_dat (a := entOf M c) (b := Ent.emp) (iv.up (gp.own np2).fh) ⟨p2, rfl, upd_same⟩ ⟨two_le, fun u nu => ?_⟩
        exact fin _ gp vp (.inr (by omega)) p2 np2 u nu
    · refine ifF rfl ⟨_, rfl, _, rfl, nil_le, fun p2 np2 => ?_⟩
      refine eq_dat (a := entOf M c) (b := Ent.emp) (iv.up (gp.own np2).fh) ⟨p2, rfl, upd_same⟩ ⟨two_le, fun u nu => ?_⟩
      refine fin _ gp vp (.inl (stepC_none.mpr ?_)) p2 np2 u nu
      cases h : decide (entOf M c = Ent.emp) with
      | true => exact of_decide_eq_true h
      | false => rw [h] at ce; exact absurd rfl ce
/-! ### all setups of a run -/
theorem get_snoc {α : Type} {xs : List α} {x y : α} {i : Nat} (h : (xs ++ [x])[i]? = some y) : (i < xs.length ∧ xs[i]? = some y) ∨ (i = xs.length ∧ y = x) := by
  by_cases l : i < xs.length
  · rw [List.getElem?_append_left l] at h
    exact .inl ⟨l, h⟩
  · rw [List.getElem?_append_right (by omega)] at h
    cases e : i - xs.length with
    | zero => rw [e] at h; cases h; exact .inr ⟨by omega, rfl⟩
    | succ n => rw [e] at h; cases h
def Hist (M : Mach) (k : Nat) (cs : List Cfg) : Prop := cs.length = k + 1 ∧ ∀ i c, cs[i]? = some c → stepsC M i = some c
theorem Hist.uniq {M : Mach} {k : Nat} {cs cs' : List Cfg} (a : Hist M k cs) (b : Hist M k cs') : cs = cs' := by
  refine List.ext_getElem? fun i => ?_
  by_cases l : i < k + 1
  · have h1 : cs[i]? = some _ := List.getElem?_eq_getElem (by rw [a.1]; exact l)
    have h2 : cs'[i]? = some _ := List.getElem?_eq_getElem (by rw [b.1]; exact l)
    have e1 := a.2 i _ h1
    have e2 := b.2 i _ h2
    rw [e1] at e2
    rw [h1, h2, e2]
  · rw [List.getElem?_eq_none_iff.mpr (by rw [a.1]; omega), List.getElem?_eq_none_iff.mpr (by rw [b.1]; omega)]
theorem Hist.one {M : Mach} : Hist M 0 [c0] := ⟨rfl, fun i c h => by
  cases i with
  | zero => cases h; rfl
  | succ n => cases h⟩
theorem Hist.app {M : Mach} {k : Nat} {cs : List Cfg} {c : Cfg} (h : Hist M k cs) (e : stepsC M (k + 1) = some c) : Hist M (k + 1) (cs ++ [c]) := by
  refine ⟨by rw [List.length_append, h.1]; rfl, fun i b hb => ?_⟩
  rcases get_snoc hb with ⟨_, hb⟩ | ⟨rfl, rfl⟩
  · exact h.2 i b hb
  · rw [h.1]; exact e
theorem Hist.last {M : Mach} {k : Nat} {cs : List Cfg} {c : Cfg} (h : Hist M k cs) (e : stepsC M k = some c) : cs[k]? = some c := by
  have h1 : cs[k]? = some _ := List.getElem?_eq_getElem (by rw [h.1]; omega)
  have e1 := h.2 k _ h1
  rw [e] at e1
  rw [h1, ← e1]
def suOf (c : Cfg) : Setup := ⟨c.r, c.s, told c.l⟩
/-- a told list of setups, of which nothing is anybody else's -/
structure SeO (H F1 H1 : Hp) (D : Addr) (us ps : List Addr) (yss : List (List V)) (cs : List Cfg) : Prop where
  ow : Ow H F1 H1 D (.lst (us.map V.ref))
  l1 : us.length = cs.length
  l2 : ps.length = cs.length
  l3 : yss.length = cs.length
  tup : ∀ (i : Nat) u p c, us[i]? = some u → ps[i]? = some p → cs[i]? = some c → F1 u = some (.tup [.int c.r, .int c.s, .ref p])
  lst : ∀ (i : Nat) p ys, ps[i]? = some p → yss[i]? = some ys → Ow H F1 H1 p (.lst ys)
  dat : ∀ (i : Nat) ys c, yss[i]? = some ys → cs[i]? = some c → IsAll F1 ys (told c.l)
  nd : ps.Nodup
  ne : D ∉ ps
section
variable {mu : Addr → Prop} {H F H1 F1 H2 F2 : Hp} {D : Addr} {us ps : List Addr} {yss : List (List V)} {cs : List Cfg}
theorem SeO.list (x : SeO H F1 H1 D us ps yss cs) {p : Addr} (h : p ∈ ps) : ∃ ys, Ow H F1 H1 p (.lst ys) := by
  obtain ⟨i, hi⟩ := List.getElem?_of_mem h
  have l := (List.getElem?_eq_some_iff.mp hi).1
  exact ⟨_, x.lst i p _ hi (List.getElem?_eq_getElem (by rw [x.l3, ← x.l2]; exact l))⟩
theorem SeO.gr (x : SeO H F1 H1 D us ps yss cs) (g : Gr mu F1 H1 F2 H2) (k : ∀ c, mu c → c ≠ D ∧ c ∉ ps) : SeO H F2 H2 D us ps yss cs where
  ow := x.ow.call g fun z => (k D z).1 rfl
  l1 := x.l1
  l2 := x.l2
  l3 := x.l3
  tup := fun i u p c h1 h2 h3 => g.ff _ _ (x.tup i u p c h1 h2 h3)
  lst := fun i p ys h1 h2 => (x.lst i p ys h1 h2).call g fun z => (k p z).2 (List.mem_of_getElem? h1)
  dat := fun i ys c h1 h2 => (x.dat i ys c h1 h2).up g.ff
  nd := x.nd
  ne := x.ne
theorem SeO.off (x : SeO H F1 H1 D us ps yss cs) {c : Addr} {o : HO} (h : H1 c = some o) (k : ∀ xs, o ≠ .lst xs) : c ≠ D ∧ c ∉ ps := by
  refine ⟨fun z => ?_, fun z => ?_⟩
  · rw [z, x.ow.h] at h; cases h; exact k _ rfl
  · obtain ⟨ys, w⟩ := x.list z
    rw [w.h] at h; cases h; exact k _ rfl
theorem SeO.offn (x : SeO H F1 H1 D us ps yss cs) {c : Addr} (h : H1 c = none) : c ≠ D ∧ c ∉ ps := by
  refine ⟨fun z => ?_, fun z => ?_⟩
  · rw [z, x.ow.h] at h; cases h
  · obtain ⟨ys, w⟩ := x.list z
    rw [w.h] at h; cases h
theorem SeO.app (x : SeO H F1 H1 D us ps yss cs) {u p : Addr} {ys : List V} {c : Cfg} (hu : F1 u = some (.tup [.int c.r, .int c.s, .ref p])) (w : Ow H F1 H1 p (.lst ys)) (k : p ≠ D ∧ p ∉ ps) (al : IsAll F1 ys (told c.l)) :
    SeO H F1 (upd H1 D (.lst ((us ++ [u]).map V.ref))) D (us ++ [u]) (ps ++ [p]) (yss ++ [ys]) (cs ++ [c]) where
  ow := x.ow.set
  l1 := by rw [List.length_append, List.length_append, x.l1]; rfl
  l2 := by rw [List.length_append, List.length_append, x.l2]; rfl
  l3 := by rw [List.length_append, List.length_append, x.l3]; rfl
  tup := fun i u' p' c' h1 h2 h3 => by
    have := x.l1; have := x.l2
    rcases get_snoc h1 with ⟨_, h1⟩ | ⟨e1, rfl⟩
    · rcases get_snoc h2 with ⟨_, h2⟩ | ⟨e2, rfl⟩
      · rcases get_snoc h3 with ⟨_, h3⟩ | ⟨e3, rfl⟩
        · exact x.tup i u' p' c' h1 h2 h3
        · omega
      · omega
    · rcases get_snoc h2 with ⟨_, h2⟩ | ⟨e2, rfl⟩
      · omega
      · rcases get_snoc h3 with ⟨_, h3⟩ | ⟨e3, rfl⟩
        · omega
        · exact hu
  lst := fun i p' ys' h1 h2 => by
    have := x.l2; have := x.l3
    rcases get_snoc h1 with ⟨_, h1⟩ | ⟨e1, rfl⟩
    · rcases get_snoc h2 with ⟨_, h2⟩ | ⟨e2, rfl⟩
      · exact (x.lst i p' ys' h1 h2).other fun z => x.ne (by rw [← z]; exact List.mem_of_getElem? h1)
      · omega
    · rcases get_snoc h2 with ⟨_, h2⟩ | ⟨e2, rfl⟩
      · omega
      · exact w.other k.1
  dat := fun i ys' c' h1 h2 => by
    have := x.l3
    rcases get_snoc h1 with ⟨_, h1⟩ | ⟨e1, rfl⟩
    · rcases get_snoc h2 with ⟨_, h2⟩ | ⟨e2, rfl⟩
      · exact x.dat i ys' c' h1 h2
      · omega
    · rcases get_snoc h2 with ⟨_, h2⟩ | ⟨e2, rfl⟩
      · omega
      · exact al
  nd := nd_snoc x.nd k.2
  ne := fun z => by
    rcases List.mem_append.mp z with z | z
    · exact x.ne z
    · exact k.1 (List.mem_singleton.mp z).symm
theorem SeO.nil (w : Ow H F1 H1 D (.lst [])) : SeO H F1 H1 D [] [] [] [] :=
  ⟨w, rfl, rfl, rfl, (fun i u p c h => by cases h), (fun i p ys h => by cases h), (fun i ys c h => by cases h), List.nodup_nil, fun z => nomatch z⟩
/-- as it is read -/
theorem SeO.is (x : SeO H F1 H1 D us ps yss cs) (s : Same F1 H1) : Is H1 (.ref D) (cs.map suOf) := by
  refine ⟨D, _, rfl, x.ow.h, by rw [List.length_map, List.length_map, x.l1], fun i v d h1 h2 => ?_⟩
  rw [List.getElem?_map] at h1 h2
  cases hu : us[i]? with
  | none => rw [hu] at h1; cases h1
  | some u =>
    cases hc : cs[i]? with
    | none => rw [hc] at h2; cases h2
    | some c =>
      rw [hu] at h1; rw [hc] at h2
      cases h1; cases h2
      have l := (List.getElem?_eq_some_iff.mp hc).1
      have hp : ps[i]? = some _ := List.getElem?_eq_getElem (by rw [x.l2]; exact l)
      have hy : yss[i]? = some _ := List.getElem?_eq_getElem (by rw [x.l3]; exact l)
      exact ⟨u, _, _, _, rfl, s _ _ (x.tup i u _ c hu hp hc), rfl, rfl, _, _, rfl, (x.lst i _ _ hp hy).h, (x.dat i _ c hy hc).up s⟩
end
def sameC (c c' : Cfg) : Bool := decide (c.r = c'.r) && decide (c.s = c'.s) && decide (told c.l = told c'.l)
theorem same_told {l l' m m' : List PI} (h : ZRel l l') (k : ZRel m m') : sameD l' m' = decide (told l = told m) := by
  rw [Bool.eq_iff_iff, sameD_iff h.n' k.n', decide_eq_true_iff, h.told, k.told]
  constructor
  · intro e
    refine srt_uniq (srt_srt _) (srt_srt _) ((srt_perm _).trans (List.Perm.trans ?_ (srt_perm _).symm))
    refine (List.perm_ext_iff_of_nodup (nd_nodup h.n') (nd_nodup k.n')).mpr fun q => ⟨fun m => ?_, fun m => ?_⟩
    · have a := look_mem h.n' m
      rw [e] at a
      exact mem_look a
    · have a := look_mem k.n' m
      rw [← e] at a
      exact mem_look a
  · intro e x
    have p : l'.Perm m' := ((srt_perm l').symm.trans (by rw [e])).trans (srt_perm m')
    cases a : look l' x with
    | some v =>
      have := p.mem_iff.mp (mem_look a)
      exact (look_mem k.n' this).symm
    | none =>
      cases b : look m' x with
      | none => rfl
      | some v =>
        have := p.mem_iff.mpr (mem_look b)
        rw [show look l' x = some v from look_mem h.n' this] at a
        cases a
/-! ### where two part -/
def DiffAt (M N : Mach) (k : Nat) : Prop := ¬ (stepsC M k).map suOf = (stepsC N k).map suOf
def PartOf (M N : Mach) (n : Nat) : Option Nat → Prop
  | none => ∀ k, k ≤ n → ¬ DiffAt M N k
  | some k => k ≤ n ∧ DiffAt M N k ∧ ∀ j, j < k → ¬ DiffAt M N j
theorem PartOf.uniq {M N : Mach} {n : Nat} : ∀ {o o' : Option Nat}, PartOf M N n o → PartOf M N n o' → o = o'
  | none, none, _, _ => rfl
  | none, some k, a, ⟨h1, h2, _⟩ => (a k h1 h2).elim
  | some k, none, ⟨h1, h2, _⟩, b => (b k h1 h2).elim
  | some k, some k', ⟨h1, h2, h3⟩, ⟨k1, k2, k3⟩ => by
    have a : ¬ k' < k := fun z => h3 k' z k2
    have b : ¬ k < k' := fun z => k3 k z h2
    rw [show k = k' by omega]
theorem PartOf.symm {M N : Mach} {n : Nat} {o : Option Nat} (h : PartOf M N n o) : PartOf N M n o := by
  have s : ∀ k, DiffAt N M k ↔ DiffAt M N k := fun k => ⟨fun z w => z w.symm, fun z w => z w.symm⟩
  cases o with
  | none => exact fun k l => by rw [s]; exact h k l
  | some k => exact ⟨h.1, (s k).mpr h.2.1, fun j l => by rw [s]; exact h.2.2 j l⟩
theorem PartOf.self {M : Mach} {n : Nat} : PartOf M M n none := fun k _ z => z rfl
def optV : Option Nat → V
  | none => .non
  | some k => .int k
theorem su_dat {H : Hp} {u p : Addr} {c : Cfg} {xs : List V} (hu : H u = some (.tup [.int c.r, .int c.s, .ref p])) (hp : H p = some (.lst xs)) (al : IsAll H xs (told c.l)) : Is H (.ref u) (suOf c) :=
  ⟨u, _, _, _, rfl, hu, rfl, rfl, p, xs, rfl, hp, al⟩
def sp_parts_from : Sp := fun vs H Q _ => ∃ (F : Hp) (v1 v2 : V) (M N : Mach) (R S R' S' n : Nat), vs = [v1, v2, .int n] ∧ Same F H ∧ Is F v1 M ∧ MOk M R S ∧ Is F v2 N ∧ MOk N R' S' ∧ n ≤ 5000 ∧
  ∀ (F' H' : Hp) (o : Option Nat), Gr mu0 F H F' H' → PartOf M N n o → Q (optV o) H'
theorem ok_parts_from (t : Tx K mg) : FnOk P w K mg base CX0 4 t.a_parts_from t.fd_parts_from ["one", "other", "most"] sp_parts_from := by
  refine t.F_parts_from.ok sc_parts_from (fun vs H Q E h => ?_) (fun cdv A outer s H vs Q E hr h => ?_)
  · obtain ⟨F, v1, v2, M, N, R, S, R', S', n, rfl, _⟩ := h
    rfl
  · obtain ⟨F, v1, v2, M, N, R, S, R', S', n, rfl, sF, hm, hM, hm', hN, hn, q⟩ := h
    refine ⟨_, (pss_cons (ps_expr (pe_call (ok_must_machine t) (hr.mono (by decide)) (by rfl) t.m_must_machine t.F_must_machine.kp t.b_must_machine .nil pass0 (pa_cons (pv 0) pa_nil)))
      (pss_cons (ps_expr (pe_call (ok_must_machine t) (hr.mono (by decide)) (by rfl) t.m_must_machine t.F_must_machine.kp t.b_must_machine .nil pass0 (pa_cons (pv 1) pa_nil)))
      (pss_cons (ps_set (i := 3) sc_parts_from.nd rfl (by first | exact Or.inl rfl | exact Or.inr rfl) (pe_make t.M_Goer (ok_Goer_init t) (hr.mono (by decide)) (by rfl) t.m_Goer t.b_Goer_init .nil pass0 (pa_cons (pv 0) (pa_cons (pe_tup (pa_cons pe_int (pa_cons pe_int (pa_cons (pe_lst pa_nil) pa_nil)))) pa_nil))))
      (pss_cons (ps_set (i := 4) sc_parts_from.nd rfl (by first | exact Or.inl rfl | exact Or.inr rfl) (pe_make t.M_Goer (ok_Goer_init t) (hr.mono (by decide)) (by rfl) t.m_Goer t.b_Goer_init .nil pass0 (pa_cons (pv 1) (pa_cons (pe_tup (pa_cons pe_int (pa_cons pe_int (pa_cons (pe_lst pa_nil) pa_nil)))) pa_nil))))
      (pss_cons (ps_while PassesOwn.never (pt_cmpR op_lt (pe_fld (pv 3) rfl) (pv 2) (nomark _)) (pss_cons (ps_set (i := 5) sc_parts_from.nd rfl (by first | exact Or.inl rfl | exact Or.inr rfl) (pe_meth0 (pv 3) t.cl_Goer t.M_Goer_step (ok_Goer_step t) (hr.mono (by decide)) t.b_Goer_step .nil pass0))
      (pss_cons (ps_if (pt_cmpR op_ne (pe_meth0 (pv 4) t.cl_Goer t.M_Goer_step (ok_Goer_step t) (hr.mono (by decide)) t.b_Goer_step .nil pass0) (pv 5) (nomark _)) (pss_one (ps_ret (pe_callB (id := "max") (call_max2 rfl) (by rfl) t.n_max (by decide +kernel) (pa_cons (pe_fld (pv 3) rfl) (pa_cons (pe_fld (pv 4) rfl) pa_nil))))) pss_nil)
      (pss_cons (ps_if (pt_not (pt_val (pv 5))) (pss_one (ps_ret pe_non)) pss_nil)
      (pss_one (ps_if (pt_cmpR (op_neD hr.units) (pe_meth0 (pv 3) t.cl_Goer t.M_Goer_setup (ok_Goer_setup t) (hr.mono (by decide)) t.b_Goer_setup .nil pass0) (pe_meth0 (pv 4) t.cl_Goer t.M_Goer_setup (ok_Goer_setup t) (hr.mono (by decide)) t.b_Goer_setup .nil pass0) (nomark _)) (pss_one (ps_ret (pe_fld (pv 3) rfl))) pss_nil))))))
      (pss_one (ps_ret pe_non))))))), ?_⟩
    refine ⟨_, rfl, F, v1, M, R, S, rfl, sF, hm, hM, fun Ha ga0 => ?_⟩
    refine ⟨_, rfl, F, v2, N, R', S', rfl, ga0.fh, hm', hN, fun Hb gb0 => ?_⟩
    have g0 := ga0.trans gb0
    -- here
    refine ⟨_, rfl, nil_le, fun l nl => ⟨three_le, fun u nu => ?_⟩⟩
    have g1 := g0.new (o := .lst []) nl
    have g2 := g1.new (o := .tup [.int 0, .int 0, .ref l]) nu
    have hx : Is (upd (upd F l (.lst [])) u (.tup [.int 0, .int 0, .ref l])) (.ref u) (⟨0, 0, []⟩ : Setup) := ⟨u, _, _, _, rfl, upd_same, rfl, rfl, l, [], rfl, ln (g1.fh.free nu) upd_same, All2.nil⟩
    generalize upd (upd F l (.lst [])) u (.tup [.int 0, .int 0, .ref l]) = F2 at g2 hx
    generalize upd (upd Hb l (.lst [])) u (.tup [.int 0, .int 0, .ref l]) = H2 at g2
    refine fun y dy ny ndy ney => ?_
    have g3 := g2.own (o := .own y) ndy
    have ny2 : (upd H2 dy (.own y)) y = none := by rw [upd_ne ney.symm]; exact ny
    have g4 := g3.own (o := .ins t.C_Goer dy []) ny2
    have hy : H y = none := g2.th _ ny
    have fy : F2 y = none := g2.fh.free ny
    refine ⟨F2, y, dy, v1, .ref u, _, rfl, upd_same, fy, g4.fh, hx, fun d H5 nd5 g5 ga => ⟨rfl, ?_⟩⟩
    have g6 := g4.thn g5 fun c z => .inr (by rw [show c = y from z]; exact hy)
    have hd : H d = none := g4.th _ nd5
    have fd : F2 d = none := g4.fh.free nd5
    have hm2 := hm.up g2.ff
    have hm2' := hm'.up g2.ff
    clear g3 g4 g5 g1 hx ny2 nd5 ny ndy ney
    -- there
    refine ⟨_, rfl, nil_le, fun l' nl' => ⟨three_le, fun u' nu' => ?_⟩⟩
    obtain ⟨⟨dx0, ho0⟩, hd0⟩ := id ga
    have g1 := g6.new (o := .lst []) nl'
    have g3 := g1.new (o := .tup [.int 0, .int 0, .ref l']) nu'
    have hx : Is (upd (upd F2 l' (.lst [])) u' (.tup [.int 0, .int 0, .ref l'])) (.ref u') (⟨0, 0, []⟩ : Setup) := ⟨u', _, _, _, rfl, upd_same, rfl, rfl, l', [], rfl, ln (g1.fh.free nu') upd_same, All2.nil⟩
    have ga3 : GoAt t.C_Goer _ y d v1 0 0 [] 0 := ⟨⟨dx0, ln (u := .tup [.int 0, .int 0, .ref l']) nu' (ln (u := .lst []) nl' ho0)⟩, ln nu' (ln nl' hd0)⟩
    have fy3 : (upd (upd F2 l' (.lst [])) u' (.tup [.int 0, .int 0, .ref l'])) y = none := by rw [upd_ne (ne_of_none (ln nl' ho0) nu'), upd_ne (ne_of_none ho0 nl')]; exact fy
    have fd3 : (upd (upd F2 l' (.lst [])) u' (.tup [.int 0, .int 0, .ref l'])) d = none := by rw [upd_ne (ne_of_none (ln nl' hd0) nu'), upd_ne (ne_of_none hd0 nl')]; exact fd
    have s23 : Same F2 (upd (upd F2 l' (.lst [])) u' (.tup [.int 0, .int 0, .ref l'])) := sm_new (sm_new (Same.refl F2) (g6.fh.free nl')) (g1.fh.free nu')
    generalize upd (upd F2 l' (.lst [])) u' (.tup [.int 0, .int 0, .ref l']) = F3 at g3 hx fy3 fd3 s23
    generalize upd (upd H5 l' (.lst [])) u' (.tup [.int 0, .int 0, .ref l']) = H3 at g3 ga3
    refine fun y' dy' ny' ndy' ney' => ?_
    have g4 := g3.own (o := .own y') ndy'
    have ny2' : (upd H3 dy' (.own y')) y' = none := by rw [upd_ne ney'.symm]; exact ny'
    have g5 := g4.own (o := .ins t.C_Goer dy' []) ny2'
    have hy' : H y' = none := g3.th _ ny'
    have fy' : F3 y' = none := g3.fh.free ny'
    obtain ⟨⟨dx3, ho3⟩, hd3⟩ := id ga3
    have yy : y ≠ y' := ne_of_none ho3 ny'
    have dy1 : d ≠ y' := ne_of_none hd3 ny'
    refine ⟨F3, y', dy', v2, .ref u', _, rfl, upd_same, fy', g5.fh, hx, fun d' H6 nd6 g7 ga' => ⟨rfl, ?_⟩⟩
    have ho5 := ln (u := .ins t.C_Goer dy' []) ny2' (ln (u := .own y') ndy' ho3)
    have hd5 := ln (u := .ins t.C_Goer dy' []) ny2' (ln (u := .own y') ndy' hd3)
    have yd : y ≠ d' := ne_of_none ho5 nd6
    have dd : d ≠ d' := ne_of_none hd5 nd6
    have g8 := g5.thn g7 fun c z => .inr (by rw [show c = y' from z]; exact hy')
    have hd' : H d' = none := g5.th _ nd6
    have fd' : F3 d' = none := g5.fh.free nd6
    have ga8 : GoAt t.C_Goer H6 y d v1 0 0 [] 0 := ⟨⟨dx3, g7.fr _ _ ho5 yy⟩, g7.fr _ _ hd5 dy1⟩
    have hm3 := hm2.up s23
    have hm3' := hm2'.up s23
    clear g1 g3 g4 g5 g6 g7 hx ga ga3 ho0 hd0 ho3 hd3 ho5 hd5
    -- while here.steps < most
    refine ⟨fun k σ G => ∃ (F1 : Hp) (j : Nat) (c c' : Cfg) (v5 : Option V), k = n - j ∧ σ = [some v1, some v2, some (.int n), some (.ref y), some (.ref y'), v5] ∧ Gr mu0 F H F1 G ∧ F1 y = none ∧ F1 d = none ∧ F1 y' = none ∧ F1 d' = none ∧ Same F3 F1 ∧ GoAt t.C_Goer G y d v1 c.r c.s c.l j ∧ GoAt t.C_Goer G y' d' v2 c'.r c'.s c'.l j ∧ stepsC M j = some c ∧ stepsC N j = some c' ∧ j ≤ n ∧ ∀ k, k ≤ j → ¬ DiffAt M N k,
      ⟨_, F3, 0, c0, c0, none, rfl, rfl, g8, fy3, fd3, fy', fd', Same.refl _, ga8, ga', rfl, rfl, Nat.zero_le _, fun k h z => z (by rw [show k = 0 by omega]; rfl)⟩, ?_⟩
    rintro k σ G ⟨F1, j, c, c', v5, rfl, rfl, g, fy1, fd1, fy1', fd1', s1, ga, ga', st, st', lj, hno⟩
    obtain ⟨ok, ll⟩ := stepsC_ok hM st
    obtain ⟨ok', ll'⟩ := stepsC_ok hN st'
    obtain ⟨row, er, s0, ee, eo⟩ := ok.ent hM
    obtain ⟨row', er', s0', ee', eo'⟩ := ok'.ent hN
    obtain ⟨⟨dx, ho⟩, hdc⟩ := id ga
    have hm1 := hm3.up s1
    have hm1' := hm3'.up s1
    refine ⟨_, rfl, y, t.C_Goer, dx, _, _, rfl, ho, t.cl_Goer, t.nA_Goer_steps, Goer_get_steps, _, rfl, _, _, rfl, rfl, _, rfl, ?_⟩
    refine ite2 (fun cl => ?_) (fun cl => ?_)
    rotate_left
    · have cl : ¬ (j : Int) < n := fun z => cl (decide_eq_true z)
      exact q F1 G none g fun k hk => hno k (by omega)
    have cl : (j : Int) < n := of_decide_eq_true cl
    refine ⟨_, fun _ _ h => h, ?_⟩
    -- goes = here.step()
    refine ⟨_, rfl, y, dx, _, rfl, ho, Goer_no (by decide +kernel) (by decide +kernel) (by decide +kernel) (by decide +kernel) (by decide +kernel), F1, y, d, v1, M, c.r, c.s, c.l, j, row, entOf M c, rfl, g.fh, fy1, fd1, hm1, ga, ok.r0, er, s0, ee, by omega, fun he H6 g6 => ?_, fun p w' r' he H6 g6 gb => ?_⟩
    · -- the one ends
      have gg := g.trans g6
      have ga2 := ga.gr g6 (fun z => z) (fun z => z)
      have ga2' := ga'.gr g6 (fun z => z) (fun z => z)
      obtain ⟨⟨dx2, ho2⟩, hdc2⟩ := id ga2
      obtain ⟨⟨dx', ho'⟩, hdc'⟩ := id ga2'
      have st2 := (stepsC_next st).trans (stepC_none.mpr he)
      refine ⟨_, rfl, y', dx', _, rfl, ho', Goer_no (by decide +kernel) (by decide +kernel) (by decide +kernel) (by decide +kernel) (by decide +kernel), F1, y', d', v2, N, c'.r, c'.s, c'.l, j, row', entOf N c', rfl, g6.fh, fy1', fd1', hm1', ga2', ok'.r0, er', s0', ee', by omega, fun he' H7 g7 => ?_, fun p2 w2 r2 he' H7 g7 gb' => ?_⟩
      · refine ⟨_, rfl, rfl, _, rfl, ifF rfl ?_⟩
        refine ⟨_, rfl, _, rfl, ifT rfl ?_⟩
        refine q F1 H7 none (gg.trans g7) fun k hk => ?_
        by_cases kj : k ≤ j
        · exact hno k kj
        · intro z
          have e1 := stepsC_end st (stepC_none.mpr he) (k - (j + 1))
          have e2 := stepsC_end st' (stepC_none.mpr he') (k - (j + 1))
          rw [show j + 1 + (k - (j + 1)) = k by omega] at e1 e2
          exact z (by rw [e1, e2])
      · have st2' := (stepsC_next st').trans (stepC_go he')
        have g17 := gg.thn g7 (fun c z => .inr (by rcases z with rfl | rfl <;> assumption))
        refine ⟨_, rfl, rfl, _, rfl, ifT rfl ?_⟩
        have ho7 := g7.fr _ _ ho2 (fun z => by rcases z with z | z; exact yy z; exact yd z)
        obtain ⟨⟨dx7, ho7'⟩, _⟩ := id gb'
        refine ⟨_, rfl, y, t.C_Goer, dx2, _, _, rfl, ho7, t.cl_Goer, t.nA_Goer_steps, Goer_get_steps, _, rfl, y', t.C_Goer, dx7, _, _, rfl, ho7', t.cl_Goer, t.nA_Goer_steps, Goer_get_steps, _, _, rfl, ?_⟩
        rw [if_pos (by omega)]
        refine q F1 H7 (some (j + 1)) g17 ⟨by omega, fun z => ?_, fun k hk => hno k (by omega)⟩
        rw [st2, st2'] at z
        cases z
    · -- the one goes on
      have gg := g.thn g6 (fun c z => .inr (by rcases z with rfl | rfl <;> assumption))
      have ga2' := ga'.gr g6 (fun z => by rcases z with z | z; exact yy z.symm; exact dy1 z.symm) (fun z => by rcases z with z | z; exact yd z.symm; exact dd z.symm)
      obtain ⟨⟨dx2, ho2⟩, hdc2⟩ := id gb
      obtain ⟨⟨dx', ho'⟩, hdc'⟩ := id ga2'
      have st2 := (stepsC_next st).trans (stepC_go he)
      refine ⟨_, rfl, y', dx', _, rfl, ho', Goer_no (by decide +kernel) (by decide +kernel) (by decide +kernel) (by decide +kernel) (by decide +kernel), F1, y', d', v2, N, c'.r, c'.s, c'.l, j, row', entOf N c', rfl, g6.fh, fy1', fd1', hm1', ga2', ok'.r0, er', s0', ee', by omega, fun he' H7 g7 => ?_, fun p2 w2 r2 he' H7 g7 gb' => ?_⟩
      · have st2' := (stepsC_next st').trans (stepC_none.mpr he')
        refine ⟨_, rfl, rfl, _, rfl, ifT rfl ?_⟩
        have ho7 := g7.fr _ _ ho2 fun z => z
        have ho7' := g7.fr _ _ ho' fun z => z
        refine ⟨_, rfl, y, t.C_Goer, dx2, _, _, rfl, ho7, t.cl_Goer, t.nA_Goer_steps, Goer_get_steps, _, rfl, y', t.C_Goer, dx', _, _, rfl, ho7', t.cl_Goer, t.nA_Goer_steps, Goer_get_steps, _, _, rfl, ?_⟩
        rw [if_neg (by omega)]
        refine q F1 H7 (some (j + 1)) (gg.trans g7) ⟨by omega, fun z => ?_, fun k hk => hno k (by omega)⟩
        rw [st2, st2'] at z
        cases z
      · have st2' := (stepsC_next st').trans (stepC_go he')
        have g17 := gg.thn g7 (fun c z => .inr (by rcases z with rfl | rfl <;> assumption))
        refine ⟨_, rfl, rfl, _, rfl, ifF rfl ?_⟩
        refine ⟨_, rfl, _, rfl, ifF rfl ?_⟩
        have ga7 := gb.gr g7 (fun z => by rcases z with z | z; exact yy z; exact yd z) (fun z => by rcases z with z | z; exact dy1 z; exact dd z)
        obtain ⟨⟨dx7, ho7⟩, hdc7⟩ := id ga7
        obtain ⟨ok2, ll2⟩ := stepsC_ok hM st2
        obtain ⟨ok2', ll2'⟩ := stepsC_ok hN st2'
        have ll2 : (put c.l c.s p).length ≤ j + 1 := ll2
        have ll2' : (put c'.l c'.s p2).length ≤ j + 1 := ll2'
        obtain ⟨⟨dxb, hob⟩, hdb⟩ := id gb'
        -- here.setup() != there.setup()
        refine ⟨_, rfl, y, dx7, _, rfl, ho7, Goer_no (by decide +kernel) (by decide +kernel) (by decide +kernel) (by decide +kernel) (by decide +kernel), F1, y, d, v1, _, _, _, _, rfl, g7.fh, ga7, by omega, fun F8 H8 q8 u8 xs8 g8 w8 al8 wu8 => ?_⟩
        have ga8 := ga7.gr g8 (fun z => z) (fun z => z)
        have gb8 := gb'.gr g8 (fun z => z) (fun z => z)
        obtain ⟨⟨dx8, ho8⟩, hdc8⟩ := id gb8
        refine ⟨_, rfl, y', dx8, _, rfl, ho8, Goer_no (by decide +kernel) (by decide +kernel) (by decide +kernel) (by decide +kernel) (by decide +kernel), F8, y', d', v2, _, _, _, _, rfl, g8.fh, gb8, by omega, fun F9 H9 q9 u9 xs9 g9 w9 al9 wu9 => ?_⟩
        have ga9 := ga8.gr g9 (fun z => z) (fun z => z)
        have gb9 := gb8.gr g9 (fun z => z) (fun z => z)
        have g19 := (g17.trans g8).trans g9
        have i1 : Is H9 (.ref u8) (suOf ⟨r', c.s + w', put c.l c.s p⟩) := su_dat (g9.fr _ _ wu8.h fun z => z) (g9.fr _ _ w8.h fun z => z) ((al8.up g9.ff).up g9.fh)
        have i2 : Is H9 (.ref u9) (suOf ⟨r2, c'.s + w2, put c'.l c'.s p2⟩) := su_dat wu9.h w9.h (al9.up g9.fh)
        refine ne_dat (a := suOf ⟨r', c.s + w', put c.l c.s p⟩) (b := suOf ⟨r2, c'.s + w2, put c'.l c'.s p2⟩) i1 i2 ⟨_, rfl, ?_⟩
        obtain ⟨⟨dx9, ho9⟩, hdc9⟩ := id ga9
        obtain ⟨⟨dx9', ho9'⟩, hdc9'⟩ := id gb9
        have dif : DiffAt M N (j + 1) ↔ ¬ suOf ⟨r', c.s + w', put c.l c.s p⟩ = suOf ⟨r2, c'.s + w2, put c'.l c'.s p2⟩ := by
          unfold DiffAt
          rw [st2, st2']
          exact ⟨fun z w => z (congrArg some w), fun z w => z (Option.some.inj w)⟩
        refine ite2 (fun cd => ?_) (fun cd => ?_)
        · refine ⟨_, rfl, y, t.C_Goer, dx9, _, _, rfl, ho9, t.cl_Goer, t.nA_Goer_steps, Goer_get_steps, ?_⟩
          exact q F9 H9 (some (j + 1)) g19 ⟨by omega, dif.mpr (fun z => by rw [decide_eq_true z] at cd; cases cd), fun k hk => hno k (by omega)⟩
        · refine ⟨n - (j + 1), by omega, F9, j + 1, _, _, _, rfl, rfl, g19, g9.pf (g8.pf fy1 ho7) (g8.fr _ _ ho7 fun z => z), g9.pf (g8.pf fd1 hdc7) (g8.fr _ _ hdc7 fun z => z), g9.pf (g8.pf fy1' hob) ho8, g9.pf (g8.pf fd1' hdb) hdc8, fun c o h => g9.ff _ _ (g8.ff _ _ (s1 _ _ h)), ga9, gb9, st2, st2', by omega, fun k hk => ?_⟩
          by_cases kj : k ≤ j
          · exact hno k kj
          · rw [show k = j + 1 by omega, dif]
            intro z
            exact cd (by rw [decide_eq_false z]; rfl)
def sp_L_due : Sp := fun vs H Q _ => ∃ (F : Hp) (v1 v2 : V) (M N : Mach) (R S R' S' n : Nat), vs = [v1, v2, .int n] ∧ Same F H ∧ Is F v1 M ∧ MOk M R S ∧ Is F v2 N ∧ MOk N R' S' ∧ n ≤ 5000 ∧
  ∀ (F' H' : Hp) (o : Option Nat), Gr mu0 F H F' H' → PartOf M N n o → Q (optV o) H'
theorem gone_none {M : Mach} {n k l : Nat} {c : Cfg} (go : Gone M n k c) (h : k < l) (hl : l ≤ n) : stepsC M l = none := by
  rcases go.fin with e | e
  · have := stepsC_end go.stp e (l - (k + 1))
    rw [show k + 1 + (l - (k + 1)) = l by omega] at this
    exact this
  · omega
theorem su_same {a b : Cfg} : sameC a b = true ↔ suOf a = suOf b := by
  unfold sameC suOf
  rw [Bool.and_eq_true, Bool.and_eq_true, decide_eq_true_iff, decide_eq_true_iff, decide_eq_true_iff]
  constructor
  · rintro ⟨⟨h1, h2⟩, h3⟩
    rw [h1, h2, h3]
  · intro h
    injection h with h1 h2 h3
    exact ⟨⟨h1, h2⟩, h3⟩
theorem ok_L_due (t : Tx K mg) : FnOk P w K mg base CX0 2 t.a_L_due t.fd_L_due ["_law_one", "_law_other_here", "_law_most"] sp_L_due := by
  refine t.F_L_due.ok sc_L_due (fun vs H Q E h => ?_) (fun cdv A outer s H vs Q E hr h => ?_)
  · obtain ⟨F, v1, v2, M, N, R, S, R', S', n, rfl, _⟩ := h
    rfl
  · obtain ⟨F, v1, v2, M, N, R, S, R', S', n, rfl, sF, hm, hM, hm', hN, hn, q⟩ := h
    refine ⟨_, (pss_cons (ps_set (i := 3) sc_L_due.nd rfl (by first | exact Or.inl rfl | exact Or.inr rfl) (pe_slice sl_list (pe_ix ix_tup (pe_call (ok_L_walk t) (hr.mono (by decide)) (by rfl) t.m_L_walk t.F_L_walk.kp t.b_L_walk .nil pass0 (pa_cons (pv 0) (pa_cons (pv 2) pa_nil))) pe_int (fun _ _ => rfl)) po_none (po_some (pe_op op_add (pv 2) pe_int))))
      (pss_cons (ps_set (i := 4) sc_L_due.nd rfl (by first | exact Or.inl rfl | exact Or.inr rfl) (pe_slice sl_list (pe_ix ix_tup (pe_call (ok_L_walk t) (hr.mono (by decide)) (by rfl) t.m_L_walk t.F_L_walk.kp t.b_L_walk .nil pass0 (pa_cons (pv 1) (pa_cons (pv 2) pa_nil))) pe_int (fun _ _ => rfl)) po_none (po_some (pe_op op_add (pv 2) pe_int))))
      (pss_cons (ps_for PassesOwn.never rfl (pi_range1 (by rfl) t.n_range (pa_cons (pe_op op_add (pv 2) pe_int) pa_nil)) (pg_name (i := 5) sc_L_due.nd rfl (by first | exact Or.inl rfl | exact Or.inr rfl)) (pss_cons (ps_if (PW.pt (pw_and (pt_cmpR op_ge (pv 5) (pe_callB (id := "len") call_lenQ (by rfl) t.n_len (by decide +kernel) (pa_cons (pv 3) pa_nil)) (nomark _)) (pw_and1 (pt_cmpR op_ge (pv 5) (pe_callB (id := "len") call_lenQ (by rfl) t.n_len (by decide +kernel) (pa_cons (pv 4) pa_nil)) (nomark _))))) (pss_one (ps_ret pe_non)) pss_nil)
      (pss_one (ps_if (PW.pt (pw_or (pt_cmpR op_ge (pv 5) (pe_callB (id := "len") call_lenQ (by rfl) t.n_len (by decide +kernel) (pa_cons (pv 3) pa_nil)) (nomark _)) (pw_or (pt_cmpR op_ge (pv 5) (pe_callB (id := "len") call_lenQ (by rfl) t.n_len (by decide +kernel) (pa_cons (pv 4) pa_nil)) (nomark _)) (pw_or1 (pt_cmpR (op_neTD hr.units) (pe_ix ix_list (pv 3) (pv 5) (fun _ _ => rfl)) (pe_ix ix_list (pv 4) (pv 5) (fun _ _ => rfl)) (by rfl)))))) (pss_one (ps_ret (pv 5))) pss_nil))))
      (pss_one (ps_ret pe_non))))), ?_⟩
    refine ⟨_, rfl, _, rfl, F, v1, M, R, S, n, rfl, sF, hm, hM, hn, fun F1 H1 w fl zs k c g1 hw hfl go za => ?_⟩
    have lz := za.1
    refine ⟨w, _, _, _, rfl, rfl, SqT.of (g1.fh _ _ hw), atI_nat (j := 0) rfl, _, rfl, _, _, rfl, rfl, _, rfl, fl, zs, rfl, SqL.of (g1.fh _ _ hfl), fun W nW => ?_⟩
    have gle := go.le
    have ec : cutV zs none (some ((n : Int) + 1)) = zs := cut_all (j := n + 1) (by omega)
    rw [ec]
    have g2 := g1.new (o := .lst zs) nW
    have hW : (upd F1 W (.lst zs)) W = some (.lst zs) := upd_same
    have za2 := za.up (sm_new (o := .lst zs) (Same.refl F1) (g1.fh.free nW))
    have hm2 := (hm'.up g1.ff).up (sm_new (o := .lst zs) (Same.refl F1) (g1.fh.free nW))
    generalize upd F1 W (.lst zs) = F2 at g2 hW za2 hm2
    generalize upd H1 W (.lst zs) = H2 at g2
    refine ⟨_, rfl, _, rfl, F2, v2, N, R', S', n, rfl, g2.fh, hm2, hN, hn, fun F3 H3 w' fl' zs' k' c' g3 hw' hfl' go' za' => ?_⟩
    have lz' := za'.1
    refine ⟨w', _, _, _, rfl, rfl, SqT.of (g3.fh _ _ hw'), atI_nat (j := 0) rfl, _, rfl, _, _, rfl, rfl, _, rfl, fl', zs', rfl, SqL.of (g3.fh _ _ hfl'), fun W' nW' => ?_⟩
    have gle' := go'.le
    have ec' : cutV zs' none (some ((n : Int) + 1)) = zs' := cut_all (j := n + 1) (by omega)
    rw [ec']
    have g4 := (g2.trans g3).new (o := .lst zs') nW'
    have s34 : Same F3 (upd F3 W' (.lst zs')) := sm_new (Same.refl F3) (g3.fh.free nW')
    have hW' : (upd F3 W' (.lst zs')) W' = some (.lst zs') := upd_same
    have za4' := za'.up s34
    have za4 := (za2.up g3.ff).up s34
    have hW4 := s34 _ _ (g3.ff _ _ hW)
    generalize upd F3 W' (.lst zs') = F4 at g4 hW' za4' za4 hW4
    generalize upd H3 W' (.lst zs') = H4 at g4
    have hA := SqL.of (K := K) (g4.fh _ _ hW4)
    have hB := SqL.of (K := K) (g4.fh _ _ hW')
    refine ⟨_, rfl, _, _, rfl, rfl, ((n : Int) + 1), rfl, by omega, by omega, for_range (lo := 0) (n := ((n : Int) + 1).toNat) (fun i σ G => ∃ v5 : Option V, σ = [some v1, some v2, some (.int n), some (.ref W), some (.ref W'), v5] ∧ H4 = G ∧ ∀ j, j < i → ¬ DiffAt M N j) ⟨none, rfl, rfl, fun j h => absurd h (Nat.not_lt_zero _)⟩ ?_ ?_⟩
    · rintro i σ G hi ⟨v5, rfl, rfl, hno⟩
      have hi : i ≤ n := by omega
      have some1 : i ≤ k → ∃ v a, zs[i]? = some v ∧ stepsC M i = some a ∧ zAt F4 v a := fun h => by
        have e : zs[i]? = some _ := List.getElem?_eq_getElem (by omega)
        obtain ⟨a, h1, h2⟩ := za4.2 i _ e
        exact ⟨_, a, e, h1, h2⟩
      have some2 : i ≤ k' → ∃ v a, zs'[i]? = some v ∧ stepsC N i = some a ∧ zAt F4 v a := fun h => by
        have e : zs'[i]? = some _ := List.getElem?_eq_getElem (by omega)
        obtain ⟨a, h1, h2⟩ := za4'.2 i _ e
        exact ⟨_, a, e, h1, h2⟩
      have i0 : (0 : Int) + (i : Int) = (i : Int) := Int.zero_add _
      rw [i0]
      -- moment >= len(here) and moment >= len(there)
      refine ⟨_, rfl, _, rfl, W, zs, rfl, .inl hA, _, _, rfl, rfl, _, rfl, ite2 (fun c1 => ?_) (fun c1 => ?_)⟩
      · have c1 : (i : Int) ≥ zs.length := of_decide_eq_true c1
        have n1 := gone_none go (l := i) (by omega) hi
        refine ⟨_, rfl, _, rfl, W', zs', rfl, .inl hB, _, _, rfl, rfl, _, rfl, ite2 (fun c2 => ?_) (fun c2 => ?_)⟩
        · have c2 : (i : Int) ≥ zs'.length := of_decide_eq_true c2
          refine q F4 _ none g4 fun j hj => ?_
          by_cases z : j < i
          · exact hno j z
          · intro w
            exact w (by rw [gone_none go (l := j) (by omega) hj, gone_none go' (l := j) (by omega) hj])
        · have c2 : ¬ (i : Int) ≥ zs'.length := fun z => c2 (decide_eq_true z)
          obtain ⟨v, b, _, hb, _⟩ := some2 (by omega)
          refine ⟨_, rfl, _, rfl, W, zs, rfl, .inl hA, _, _, rfl, rfl, _, rfl, ifT (decide_eq_true c1) (ifT rfl ⟨_, rfl, ?_⟩)⟩
          have dn : DiffAt M N i := by unfold DiffAt; rw [n1, hb]; exact fun w => nomatch w
          exact q F4 _ (some i) g4 ⟨hi, dn, hno⟩
      · have c1 : ¬ (i : Int) ≥ zs.length := fun z => c1 (decide_eq_true z)
        obtain ⟨v, a, hv, ha, ta, da, la, rfl, hta, hda, zra⟩ := some1 (by omega)
        refine ifF rfl ?_
        refine ⟨_, rfl, _, rfl, W, zs, rfl, .inl hA, _, _, rfl, rfl, _, rfl, ifF (decide_eq_false c1) ?_⟩
        refine ⟨_, rfl, _, rfl, W', zs', rfl, .inl hB, _, _, rfl, rfl, _, rfl, ite2 (fun c2 => ?_) (fun c2 => ?_)⟩
        · have c2 : (i : Int) ≥ zs'.length := of_decide_eq_true c2
          have n2 := gone_none go' (l := i) (by omega) hi
          refine ifT rfl ⟨_, rfl, ?_⟩
          have dn : DiffAt M N i := by unfold DiffAt; rw [n2, ha]; exact fun w => nomatch w
          exact q F4 _ (some i) g4 ⟨hi, dn, hno⟩
        · have c2 : ¬ (i : Int) ≥ zs'.length := fun z => c2 (decide_eq_true z)
          obtain ⟨v', b, hv', hb, tb, db, lb, rfl, htb, hdb, zrb⟩ := some2 (by omega)
          refine ⟨_, rfl, _, rfl, W, _, _, _, rfl, rfl, hA, at_of (j := i) rfl hv, _, rfl, _, rfl, W', _, _, _, rfl, rfl, hB, at_of (j := i) rfl hv', ?_⟩
          refine ⟨ta, tb, _, _, da, la, _, _, db, lb, rfl, rfl, g4.fh _ _ hta, g4.fh _ _ htb, g4.fh _ _ hda, g4.fh _ _ hdb, zra.n', _, rfl, ?_⟩
          have es : (decide (a.r = b.r) && decide (a.s = b.s) && sameD la lb) = sameC a b := by
            unfold sameC
            rw [same_told zra zrb]
          rw [es]
          have dif : DiffAt M N i ↔ ¬ sameC a b = true := by
            unfold DiffAt
            rw [ha, hb, su_same]
            exact ⟨fun z w => z (congrArg some w), fun z w => z (Option.some.inj w)⟩
          refine ite2 (fun c3 => ?_) (fun c3 => ?_)
          · exact ⟨_, rfl, q F4 _ (some i) g4 ⟨hi, dif.mpr (fun z => by rw [z] at c3; cases c3), hno⟩⟩
          · refine ⟨_, rfl, rfl, fun j hj => ?_⟩
            rcases Nat.lt_succ_iff_lt_or_eq.mp hj with hj | rfl
            · exact hno j hj
            · rw [dif]
              intro z
              exact z (by
                cases w : sameC a b with
                | true => rfl
                | false => rw [w] at c3; exact absurd rfl c3)
    · rintro σ G ⟨v5, rfl, rfl, hno⟩
      exact q F4 _ none g4 fun j hj => hno j (by omega)
/-! ### another machine -/
theorem EOk.mono2 {R R' S S' : Nat} {e : Ent} (h : EOk R S e) (k : R ≤ R') (l : S ≤ S') : EOk R' S' e := ⟨fun p w r z => by
  obtain ⟨h1, h2, h3⟩ := h.ok p w r z
  exact ⟨⟨h1.1, by omega⟩, h2, by omega⟩⟩
/-- an own copy, row by row -/
theorem MaO.nil0 {mu : Addr → Prop} {F0 H F G : Hp} {E : Addr} (g : Gr mu F0 H F G) (n : G E = none) : MaO H F (upd G E (.lst [])) E [] [] [] :=
  ⟨Ow.mk1 g n, List.nodup_nil, (fun z => nomatch z), rfl, fun i r es h _ => (by cases h), All2.nil⟩
def sp_L_other : Sp := fun vs H Q _ => ∃ (F : Hp) (p : Addr) (a b : Int) (v : V) (M : Mach) (R S : Nat), vs = [.ref p, v] ∧ Same F H ∧ F p = none ∧ H p = some (PurseO a b) ∧ 0 ≤ a ∧ 0 ≤ b ∧ Is F v M ∧ MOk M R S ∧
  ∀ (F' H' : Hp) (m : Addr) (rs : List Addr) (ess : List (List V)) (N : Mach) (R' S' : Nat) (a' b' : Int), Gr (muP p) F H F' H' → H' p = some (PurseO a' b') → 0 ≤ a' → 0 ≤ b' → MOk N R' S' → MaO H F' H' m rs ess N → Q (.ref m) H'
theorem ok_L_other (t : Tx K mg) : FnOk P w K mg base CX0 4 t.a_L_other t.fd_L_other ["_law_purse_here", "_law_machine_here"] sp_L_other := by
  refine t.F_L_other.ok sc_L_other (fun vs H Q E h => ?_) (fun cdv A outer s H vs Q E hr h => ?_)
  · obtain ⟨F, p, a, b, v, M, R, S, rfl, _⟩ := h
    rfl
  · obtain ⟨F, p, a, b, v, M, R, S, rfl, sF, fp, hp, ha, hb, hm, hM, q⟩ := h
    refine ⟨_, (pss_cons (ps_setLc (i := 2) (own := [("_law_row", 3)]) (g := gName 3) (tt := tYes) rfl sc_L_other.nd rfl rfl (sw_true rfl rfl rfl (by decide +kernel)) (pi_list (pv 1)) (blkOk_by (N := N_L_other) (sc := defScope s_L_other) (by decide +kernel)) (fun _ _ _ _ _ => (pg_name (i := 3) sc_L_other.nd rfl (by first | exact Or.inl rfl | exact Or.inr rfl))) (fun _ _ _ _ _ => pts_nil) (fun _ _ _ _ _ => (pe_callTy (T := "list") (crK (K := K) (r := rListQ) rfl call_listQ) (by rfl) t.n_list (by decide +kernel) (pa_cons (pv 3) pa_nil))))
      (pss_cons (ps_set (i := 4) sc_L_other.nd rfl (by first | exact Or.inl rfl | exact Or.inr rfl) (pe_call (ok_L_draw t) (hr.mono (by decide)) (by rfl) t.m_L_draw t.F_L_draw.kp t.b_L_draw .nil pass0 (pa_cons (pv 0) (pa_cons pe_int pa_nil))))
      (pss_cons (ps_set (i := 5) sc_L_other.nd rfl (by first | exact Or.inl rfl | exact Or.inr rfl) (pe_call (ok_L_draw t) (hr.mono (by decide)) (by rfl) t.m_L_draw t.F_L_draw.kp t.b_L_draw .nil pass0 (pa_cons (pv 0) (pa_cons (pe_callB (id := "len") call_lenQ (by rfl) t.n_len (by decide +kernel) (pa_cons (pv 2) pa_nil)) pa_nil))))
      (pss_cons (ps_set (i := 6) sc_L_other.nd rfl (by first | exact Or.inl rfl | exact Or.inr rfl) (pe_call (ok_L_draw t) (hr.mono (by decide)) (by rfl) t.m_L_draw t.F_L_draw.kp t.b_L_draw .nil pass0 (pa_cons (pv 0) (pa_cons (pe_callB (id := "len") call_lenQ (by rfl) t.n_len (by decide +kernel) (pa_cons (pe_ix ix_list (pv 2) (pv 5) (fun _ _ => rfl)) pa_nil)) pa_nil))))
      (pss_cons (ps_if (pt_cmpR op_eq (pv 4) pe_int (nomark _)) (pss_one (ps_ret (pe_call (ok_L_any t) (hr.mono (by decide)) (by rfl) t.m_L_any t.F_L_any.kp t.b_L_any .nil pass0 (pa_cons (pv 0) pa_nil)))) pss_nil)
      (pss_cons (ps_if (pt_cmpR op_eq (pv 4) pe_int (nomark _)) (pss_one (ps_asg (pe_tup pa_nil) (pg_sub (pe_ix ix_list (pv 2) (pv 5) (fun _ _ => rfl)) (pv 6) set_list))) pss_nil)
      (pss_cons (ps_if (pt_cmpR op_eq (pv 4) pe_int (nomark _)) (pss_one (ps_asg (pe_tup (pa_cons (pe_call (ok_L_draw t) (hr.mono (by decide)) (by rfl) t.m_L_draw t.F_L_draw.kp t.b_L_draw .nil pass0 (pa_cons (pv 0) (pa_cons (pe_callB (id := "len") call_lenQ (by rfl) t.n_len (by decide +kernel) (pa_cons (pe_ix ix_list (pv 2) (pv 5) (fun _ _ => rfl)) pa_nil)) pa_nil))) (pa_cons (pe_op op_sub (pe_op op_mul pe_int (pe_call (ok_L_draw t) (hr.mono (by decide)) (by rfl) t.m_L_draw t.F_L_draw.kp t.b_L_draw .nil pass0 (pa_cons (pv 0) (pa_cons pe_int pa_nil)))) pe_int) (pa_cons (pe_call (ok_L_draw t) (hr.mono (by decide)) (by rfl) t.m_L_draw t.F_L_draw.kp t.b_L_draw .nil pass0 (pa_cons (pv 0) (pa_cons (pe_callB (id := "len") call_lenQ (by rfl) t.n_len (by decide +kernel) (pa_cons (pv 2) pa_nil)) pa_nil))) pa_nil)))) (pg_sub (pe_ix ix_list (pv 2) (pv 5) (fun _ _ => rfl)) (pv 6) set_list))) pss_nil)
      (pss_cons (ps_if (PW.pt (pw_and (pt_cmpR op_eq (pv 4) pe_int (nomark _)) (pw_and1 (pt_cmpR op_lt (pe_callB (id := "len") call_lenQ (by rfl) t.n_len (by decide +kernel) (pa_cons (pv 2) pa_nil)) pe_int (nomark _))))) (pss_one (ps_expr (pe_bm PySem.F.plainAttrs_list PySem.F.slot_list_append PySem.F.type_list_append mt_append (pv 2) (pa_cons (pe_lc (own := [("_law_entry", 7)]) (g := gName 7) (tt := tYes) rfl sc_L_other.nd (pi_list (pe_ix ix_list (pv 2) pe_int (fun _ _ => rfl))) (blkOk_by (N := N_L_other) (sc := defScope s_L_other) (by decide +kernel)) (fun _ _ _ _ _ => (pg_name (i := 7) sc_L_other.nd rfl (by first | exact Or.inl rfl | exact Or.inr rfl))) (fun _ _ _ _ _ => pts_nil) (fun _ _ _ _ _ => (pe_tup (pa_cons pe_int (pa_cons pe_int (pa_cons pe_int pa_nil)))))) pa_nil)))) pss_nil)
      (pss_cons (ps_if (PW.pt (pw_and (pt_cmpR op_eq (pv 4) pe_int (nomark _)) (pw_and1 (pt_cmpR op_lt (pe_callB (id := "len") call_lenQ (by rfl) t.n_len (by decide +kernel) (pa_cons (pe_ix ix_list (pv 2) pe_int (fun _ _ => rfl)) pa_nil)) pe_int (nomark _))))) (pss_one (ps_setLc (i := 2) (own := [("_law_row", 3)]) (g := gName 3) (tt := tYes) rfl sc_L_other.nd rfl rfl (sw_true rfl rfl rfl (by decide +kernel)) (pi_list (pv 2)) (blkOk_by (N := N_L_other) (sc := defScope s_L_other) (by decide +kernel)) (fun _ _ _ _ _ => (pg_name (i := 3) sc_L_other.nd rfl (by first | exact Or.inl rfl | exact Or.inr rfl))) (fun _ _ _ _ _ => pts_nil) (fun _ _ _ _ _ => (pe_op op_cat (pv 3) (pe_lst (pa_cons (pe_tup (pa_cons pe_int (pa_cons (pe_un un_neg pe_int) (pa_cons pe_int pa_nil)))) pa_nil)))))) pss_nil)
      (pss_one (ps_ret (pv 2)))))))))))), ?_⟩
    have g0 : Gr (muP p) F H F H := Gr.refl sF
    obtain ⟨am, rv, rfl, ham, hrs⟩ := id hm
    have lrv : rv.length = R := hrs.1.trans hM.len
    have r4 := hM.r4
    have r1 := hM.r1
    have sz4 := hM.s4
    have sz2 := hM.s2
    -- found = [list(row) for row in machine]
    refine ⟨_, rfl, am, rfl, ⟨_, SqL.of (sF _ _ ham)⟩, fun D nD => lc_list (K := K) (a := am) (xs := rv) (fun i G => ∃ (rs : List Addr) (ess : List (List V)), Gr (muP p) F H F G ∧ G p = some (PurseO a b) ∧ MaO H F G D rs ess (M.take i))
      ⟨[], [], g0.own nD, ln nD hp, MaO.nil0 g0 nD⟩ (fun i G _ ⟨_, _, g, _⟩ => SqL.of (g.fh _ _ ham)) ?_ ?_⟩
    · rintro i y G hi ⟨rs, ess, g, hpG, x⟩
      obtain ⟨row, hMi, ra, es, rfl, hra, hes⟩ := hrs.get' hi
      have il : i < rv.length := (List.getElem?_eq_some_iff.mp hi).1
      have lrs : rs.length = i := by rw [x.len, x.dat.1, List.length_take]; have := hM.len; omega
      refine ⟨rfl, yes ⟨_, rfl, ra, es, rfl, .inl (SqL.of (g.fh _ _ hra)), fun l nl => ?_⟩⟩
      have off := x.offn nl
      have g1 := g.own (o := .lst es) nl
      have k1 := (Gr.refl (mu := mu0) g.fh).own (o := .lst es) nl
      have x1 := x.gr k1 fun c z => z.elim
      have w1 : Ow H F (upd G l (.lst es)) l (.lst es) := Ow.mk1 g nl
      refine ⟨rs.map V.ref, x1.ow.h, by rw [List.length_map]; exact lt_size (by omega), ?_⟩
      have e1 : rs.map V.ref ++ [V.ref l] = (rs ++ [l]).map V.ref := by rw [List.map_append]; rfl
      rw [e1, List.take_add_one, hMi]
      have pD : p ≠ D := fun z => by rw [z] at hp; rw [x1.ow.n] at hp; cases hp
      exact ⟨rs ++ [l], ess ++ [es], g1.set x1.ow.f (.inl x1.ow.n), (upd_ne pD).trans (ln nl hpG), x1.add w1 off hes⟩
    rintro G ⟨rs, ess, g, hpG, x⟩
    rw [hrs.1, List.take_length] at x
    have lrs : (rs.map V.ref).length = R := by rw [List.length_map, x.len, x.dat.1, hM.len]
    -- kind, at, spot
    refine ⟨_, rfl, p, a, b, 5, rfl, hpG, ha, hb, by decide, by decide, fun kd a1 b1 kd0 kd1 ha1 hb1 => ?_⟩
    obtain ⟨g1, k1⟩ := g.drw (a := a1) (b := b1) fp hp
    have x1 := x.gr k1 (x.off hp)
    refine ⟨_, rfl, _, rfl, D, _, rfl, .inl (SqL.of x1.ow.h), p, a1, b1, ((rs.map V.ref).length : Int), rfl, upd_same, ha1, hb1, by omega, by omega, fun at' a2 b2 at0 at1 ha2 hb2 => ?_⟩
    obtain ⟨g2, k2⟩ := g1.drw (a := a2) (b := b2) fp hp
    have x2 := x1.gr k2 (x1.off hp)
    obtain ⟨ix, rfl⟩ : ∃ ix : Nat, at' = (ix : Int) := Int.eq_ofNat_of_zero_le at0
    obtain ⟨ri, esi, rowi, hri, hei, hwi, wi2, li, mi⟩ := x2.slot hM (i := ix) (by omega)
    refine ⟨_, rfl, _, rfl, _, rfl, D, _, _, _, rfl, rfl, SqL.of x2.ow.h, at_of (j := ix) rfl mi, ri, esi, rfl, .inl (SqL.of wi2.h), p, a2, b2, (esi.length : Int), rfl, upd_same, ha2, hb2, by omega, by omega, fun sp a3 b3 sp0 sp1 ha3 hb3 => ?_⟩
    obtain ⟨g3, k3⟩ := g2.drw (a := a3) (b := b3) fp hp
    have x3 := x2.gr k3 (x2.off hp)
    have hp3 : (upd (upd (upd G p (PurseO a1 b1)) p (PurseO a2 b2)) p (PurseO a3 b3)) p = some (PurseO a3 b3) := upd_same
    have t3 := g3.th
    generalize upd (upd (upd G p (PurseO a1 b1)) p (PurseO a2 b2)) p (PurseO a3 b3) = G3 at g3 x3 hp3 t3
    obtain ⟨jx, rfl⟩ : ∃ jx : Nat, sp = (jx : Int) := Int.eq_ofNat_of_zero_le sp0
    clear k1 k2 k3 x1 x2 wi2 g1 g2 mi
    obtain ⟨r_, es_, row_, hr_, he_, hw_, wi, _, mi⟩ := x3.slot hM (i := ix) (by omega)
    rw [hri] at hr_
    rw [hei] at he_
    rw [hwi] at hw_
    cases hr_; cases he_; cases hw_
    have pr : p ≠ ri := fun z => by rw [z] at hp; rw [wi.n] at hp; cases hp
    have pD : p ≠ D := fun z => by rw [z] at hp; rw [x3.ow.n] at hp; cases hp
    -- if kind == 0: return any(purse)
    refine ⟨_, rfl, rfl, _, rfl, ite2 (fun c0 => ?_) (fun c0 => ?_)⟩
    · refine ⟨_, rfl, F, p, a3, b3, rfl, g3.fh, fp, hp3, ha3, hb3, fun F' H' m rs' ess' N R' S' a' b' g' hp' ha' hb' hN x' => ?_⟩
      exact q F' H' m rs' ess' N R' S' a' b' (g3.trans g') hp' ha' hb' hN ⟨⟨t3 _ x'.ow.n, x'.ow.f, x'.ow.h⟩, x'.nd, x'.ne, x'.len, fun i r es h1 h2 => ⟨t3 _ (x'.rows i r es h1 h2).n, (x'.rows i r es h1 h2).f, (x'.rows i r es h1 h2).h⟩, x'.dat⟩
    have kne : ∀ z : Int, kd ≠ z → decide (V.int kd = V.int z) = false := fun z h => decide_eq_false fun w => h (V.int.inj w)
    have k0 : kd ≠ 0 := fun z => c0 (decide_eq_true (by rw [z]))
    -- if kind == 1: found[at][spot] = ()
    refine ⟨_, rfl, rfl, _, rfl, ite2 (fun c1 => ?_) (fun c1 => ?_)⟩
    · have c1 := V.int.inj (of_decide_eq_true c1)
      refine ⟨nil_le, fun q0 nq => ?_⟩
      have g4 := g3.new (o := .tup []) nq
      have x4 := x3.gr ((Gr.refl (mu := mu0) g3.fh).new (o := .tup []) nq) fun c z => z.elim
      have hp4 := ln (u := .tup []) nq hp3
      have w4 := x4.rows _ _ _ hri hei
      refine ⟨_, rfl, _, rfl, D, _, _, _, rfl, rfl, SqL.of x4.ow.h, at_of (j := ix) rfl mi, _, rfl, ri, _, (jx : Int), _, rfl, rfl, w4.h, ixN_of (by omega) sp1, ?_⟩
      have g5 := g4.set (o := .lst (esi.set (jx : Int).toNat (.ref q0))) w4.f (.inl w4.n)
      have x5 := x4.put (j := (jx : Int).toNat) (v := .ref q0) (e := Ent.emp) hri hei hwi ⟨q0, rfl, upd_same⟩
      have hM5 := hM.set (j := (jx : Int).toNat) (e := Ent.emp) hwi ⟨fun p w r z => nomatch z⟩
      have hp5 := (upd_ne (o := .lst (esi.set (jx : Int).toNat (.ref q0))) pr).trans hp4
      refine ⟨_, rfl, rfl, _, rfl, ifF (kne 2 (by omega)) ?_⟩
      refine ⟨_, rfl, rfl, _, rfl, ifF (kne 3 (by omega)) (ifF rfl ?_)⟩
      refine ⟨_, rfl, rfl, _, rfl, ifF (kne 4 (by omega)) (ifF rfl ?_)⟩
      exact ⟨_, rfl, q _ _ D rs _ _ R S a3 b3 g5 hp5 ha3 hb3 hM5 x5⟩
    have k1 : kd ≠ 1 := fun z => c1 (decide_eq_true (by rw [z]))
    -- if kind == 2
    refine ⟨_, rfl, rfl, _, rfl, ite2 (fun c2 => ?_) (fun c2 => ?_)⟩
    · have c2 := V.int.inj (of_decide_eq_true c2)
      refine ⟨_, rfl, _, rfl, _, rfl, D, _, _, _, rfl, rfl, SqL.of x3.ow.h, at_of (j := ix) rfl mi, ri, esi, rfl, .inl (SqL.of wi.h), p, a3, b3, (esi.length : Int), rfl, hp3, ha3, hb3, by omega, by omega, fun e1 a4 b4 e10 e11 ha4 hb4 => ?_⟩
      obtain ⟨g4, k4⟩ := g3.drw (a := a4) (b := b4) fp hp
      have x4 := x3.gr k4 (x3.off hp)
      refine ⟨_, rfl, p, a4, b4, 2, rfl, upd_same, ha4, hb4, by decide, by decide, fun e2 a5 b5 e20 e21 ha5 hb5 => ⟨_, _, rfl, rfl, .inl ⟨by decide, by decide⟩, _, _, rfl, rfl, ?_⟩⟩
      obtain ⟨g5, k5⟩ := g4.drw (a := a5) (b := b5) fp hp
      have x5 := x4.gr k5 (x4.off hp)
      refine ⟨_, rfl, _, rfl, D, _, rfl, .inl (SqL.of x5.ow.h), p, a5, b5, ((rs.map V.ref).length : Int), rfl, upd_same, ha5, hb5, by omega, by omega, fun e3 a6 b6 e30 e31 ha6 hb6 => ⟨three_le, fun q0 nq => ?_⟩⟩
      obtain ⟨g6, k6⟩ := g5.drw (a := a6) (b := b6) fp hp
      have x6 := x5.gr k6 (x5.off hp)
      have hp6 : (upd (upd (upd G3 p (PurseO a4 b4)) p (PurseO a5 b5)) p (PurseO a6 b6)) p = some (PurseO a6 b6) := upd_same
      generalize upd (upd (upd G3 p (PurseO a4 b4)) p (PurseO a5 b5)) p (PurseO a6 b6) = G6 at g6 x6 hp6 nq
      have g7 := g6.new (o := .tup [.int e1, .int (2 * e2 - 1), .int e3]) nq
      have x7 := x6.gr ((Gr.refl (mu := mu0) g6.fh).new (o := .tup [.int e1, .int (2 * e2 - 1), .int e3]) nq) fun c z => z.elim
      have hp7 := ln (u := .tup [.int e1, .int (2 * e2 - 1), .int e3]) nq hp6
      have w7 := x7.rows _ _ _ hri hei
      refine ⟨_, rfl, _, rfl, D, _, _, _, rfl, rfl, SqL.of x7.ow.h, at_of (j := ix) rfl mi, _, rfl, ri, _, (jx : Int), _, rfl, rfl, w7.h, ixN_of (by omega) sp1, ?_⟩
      have g8 := g7.set (o := .lst (esi.set (jx : Int).toNat (.ref q0))) w7.f (.inl w7.n)
      have x8 := x7.put (j := (jx : Int).toNat) (v := .ref q0) (e := Ent.go e1 (2 * e2 - 1) e3) hri hei hwi ⟨q0, rfl, upd_same⟩
      have hM8 := hM.set (j := (jx : Int).toNat) (e := Ent.go e1 (2 * e2 - 1) e3) hwi (eok ⟨⟨e10, by omega⟩, by omega, e30, by omega⟩)
      have hp8 := (upd_ne (o := .lst (esi.set (jx : Int).toNat (.ref q0))) pr).trans hp7
      refine ⟨_, rfl, rfl, _, rfl, ifF (kne 3 (by omega)) (ifF rfl ?_)⟩
      refine ⟨_, rfl, rfl, _, rfl, ifF (kne 4 (by omega)) (ifF rfl ?_)⟩
      exact ⟨_, rfl, q _ _ D rs _ _ R S a6 b6 g8 hp8 ha6 hb6 hM8 x8⟩
    have k2 : kd ≠ 2 := fun z => c2 (decide_eq_true (by rw [z]))
    obtain ⟨r0, es0, row0, hr0, he0, hw0, w0, l0, m0⟩ := x3.slot hM (i := 0) (by omega)
    -- if kind == 3 and len(found) < 4
    refine ⟨_, rfl, rfl, _, rfl, ite2 (fun c3 => ?_) (fun c3 => ?_)⟩
    · have c3 := V.int.inj (of_decide_eq_true c3)
      refine ⟨_, rfl, D, _, rfl, .inl (SqL.of x3.ow.h), _, _, rfl, rfl, _, rfl, ite2 (fun cl => ?_) (fun cl => ?_)⟩
      · have cl : ((rs.map V.ref).length : Int) < 4 := of_decide_eq_true cl
        refine ⟨_, rfl, .inl ⟨rfl, _, SqL.of x3.ow.h⟩, _, rfl, D, _, _, _, rfl, rfl, SqL.of x3.ow.h, atI_nat (j := 0) m0, r0, rfl, ⟨_, SqL.of w0.h⟩, fun Z nZ => lc_list (K := K) (a := r0) (xs := es0) (fun i G => ∃ (F1 : Hp) (es : List V), Gr (muP p) F H F1 G ∧ G p = some (PurseO a3 b3) ∧ MaO H F1 G D rs ess M ∧ Ow H F1 G Z (.lst es) ∧ IsAll F1 es (List.replicate i (Ent.go 0 1 0)))
          ⟨F, [], g3.own nZ, ln nZ hp3, x3.gr ((Gr.refl (mu := mu0) g3.fh).own (o := .lst []) nZ) fun c z => z.elim, Ow.mk1 g3 nZ, All2.nil⟩ (fun i G _ ⟨F1, es, g, _, x, _⟩ => SqL.of (x.rows _ _ _ hr0 he0).h) ?_ ?_⟩
        · rintro i y G hi ⟨F1, es, g, hpG, x, w, al⟩
          have il : i < es0.length := (List.getElem?_eq_some_iff.mp hi).1
          refine ⟨rfl, yes ⟨three_le, fun q0 nq => ?_⟩⟩
          have g1 := g.new (o := .tup [.int 0, .int 1, .int 0]) nq
          have k1 := (Gr.refl (mu := mu0) g.fh).new (o := .tup [.int 0, .int 1, .int 0]) nq
          have x1 := x.gr k1 fun c z => z.elim
          have w1 := w.call k1 fun z => z
          have al1 := al.up k1.ff
          have e1 : Is (upd F1 q0 (.tup [.int 0, .int 1, .int 0])) (.ref q0) (Ent.go 0 1 0) := ⟨q0, rfl, upd_same⟩
          have offZ : Z ≠ D ∧ Z ∉ rs := by
            have h := x3.offn nZ
            exact h
          have pZ : p ≠ Z := fun z => by rw [z] at hp; rw [w1.n] at hp; cases hp
          refine ⟨es, w1.h, lt_size (by rw [al.1, List.length_replicate]; omega), _, es ++ [.ref q0], g1.set w1.f (.inl w1.n), (upd_ne pZ).trans (ln nq hpG), x1.gr (mu := fun c => c = Z) ((Gr.refl g1.fh).set w1.f (.inr rfl)) (fun c z => by rw [show c = Z from z]; exact offZ), w1.set, ?_⟩
          rw [List.replicate_succ']
          exact al1.app (All2.one e1)
        rintro G4 ⟨F4, es4, g4, hp4, x4, w4, al4⟩
        have offZ : Z ≠ D ∧ Z ∉ rs := x3.offn nZ
        refine ⟨D, _, _, rfl, rfl, x4.ow.h, lt_size (by omega), ?_⟩
        have e1' : rs.map V.ref ++ [V.ref Z] = (rs ++ [Z]).map V.ref := by rw [List.map_append]; rfl
        rw [e1']
        have x5 := x4.add w4 offZ al4
        have g5 := g4.set (o := .lst ((rs ++ [Z]).map V.ref)) x4.ow.f (.inl x4.ow.n)
        have hp5 := (upd_ne (o := .lst ((rs ++ [Z]).map V.ref)) pD).trans hp4
        have hM5 : MOk (M ++ [List.replicate es0.length (Ent.go 0 1 0)]) (R + 1) S := by
          refine ⟨by omega, by omega, sz2, sz4, by rw [List.length_append, hM.len]; rfl, fun r z => ?_, fun r z e k => ?_⟩
          · rcases List.mem_append.mp z with z | z
            · exact hM.row r z
            · rw [List.mem_singleton.mp z, List.length_replicate]; exact l0
          · rcases List.mem_append.mp z with z | z
            · exact (hM.ent r z e k).mono2 (by omega) (Nat.le_refl _)
            · rw [List.mem_singleton.mp z] at k
              rw [List.eq_of_mem_replicate k]
              exact eok ⟨⟨by decide, by omega⟩, by decide, by decide, by omega⟩
        refine ⟨_, rfl, rfl, _, rfl, ifF (kne 4 (by omega)) (ifF rfl ?_)⟩
        exact ⟨_, rfl, q _ _ D _ _ _ (R + 1) S a3 b3 g5 hp5 ha3 hb3 hM5 x5⟩
      · refine ⟨_, rfl, rfl, _, rfl, ifF (kne 4 (by omega)) (ifF rfl ?_)⟩
        exact ⟨_, rfl, q _ _ D rs _ _ R S a3 b3 g3 hp3 ha3 hb3 hM x3⟩
    refine ifF rfl ?_
    -- if kind == 4 and len(found[0]) < 4
    refine ⟨_, rfl, rfl, _, rfl, ite2 (fun c4 => ?_) (fun c4 => ?_)⟩
    rotate_left
    · exact ifF rfl ⟨_, rfl, q _ _ D rs _ _ R S a3 b3 g3 hp3 ha3 hb3 hM x3⟩
    refine ⟨_, rfl, D, _, _, _, rfl, rfl, SqL.of x3.ow.h, atI_nat (j := 0) m0, r0, es0, rfl, .inl (SqL.of w0.h), _, _, rfl, rfl, _, rfl, ite2 (fun cl => ?_) (fun cl => ?_)⟩
    rotate_left
    · exact ⟨_, rfl, q _ _ D rs _ _ R S a3 b3 g3 hp3 ha3 hb3 hM x3⟩
    have cl : (es0.length : Int) < 4 := of_decide_eq_true cl
    -- found = [row + [(1, -1, 0)] for row in found]
    refine ⟨_, rfl, D, rfl, ⟨_, SqL.of x3.ow.h⟩, fun E nE => ?_⟩
    have offE := x3.offn nE
    refine lc_list (K := K) (a := D) (xs := rs.map V.ref) (fun i G => ∃ (F1 : Hp) (rs' : List Addr) (ess' : List (List V)) (N : Mach), Gr (muP p) F H F1 G ∧ G p = some (PurseO a3 b3) ∧ MaO H F1 G D rs ess M ∧ MaO H F1 G E rs' ess' N ∧ N.length = i ∧ ∀ row ∈ N, row.length = S + 1 ∧ ∀ e ∈ row, EOk R (S + 1) e)
      ⟨F, [], [], [], g3.own nE, ln nE hp3, x3.gr ((Gr.refl (mu := mu0) g3.fh).own (o := .lst []) nE) fun c z => z.elim, MaO.nil0 g3 nE, rfl, fun row z => nomatch z⟩ (fun i G _ ⟨F1, _, _, _, _, _, x, _⟩ => SqL.of x.ow.h) ?_ ?_
    · rintro i y G hi ⟨F1, rs', ess', N, g, hpG, x, xe, lN, hN⟩
      have il : i < R := by have := (List.getElem?_eq_some_iff.mp hi).1; omega
      obtain ⟨rj, ej, rowj, hrj, hej, hwj, wj, lj, mj⟩ := x.slot hM il
      rw [mj] at hi
      cases hi
      refine ⟨rfl, yes ⟨_, rfl, _, rfl, three_le, fun q0 nq => ⟨one_le, fun l nl => ?_⟩⟩⟩
      have g1 := (g.new (o := .tup [.int 1, .int (-1), .int 0]) nq).own (o := .lst [.ref q0]) nl
      have k1 := ((Gr.refl (mu := mu0) g.fh).new (o := .tup [.int 1, .int (-1), .int 0]) nq).own (o := .lst [.ref q0]) nl
      have x1 := x.gr k1 fun c z => z.elim
      have xe1 := xe.gr k1 fun c z => z.elim
      have hp1 := k1.fr _ _ hpG fun z => z
      have w1 := x1.rows _ _ _ hrj hej
      have hl1 : (upd (upd G q0 (.tup [.int 1, .int (-1), .int 0])) l (.lst [.ref q0])) l = some (.lst [.ref q0]) := upd_same
      have e1 : Is (upd F1 q0 (.tup [.int 1, .int (-1), .int 0])) (.ref q0) (Ent.go 1 (-1) 0) := ⟨q0, rfl, upd_same⟩
      have al1 := (x1.dat.2 i ej rowj hej hwj).app (All2.one e1)
      generalize upd F1 q0 (.tup [.int 1, .int (-1), .int 0]) = F2 at g1 x1 xe1 w1 al1
      generalize upd (upd G q0 (.tup [.int 1, .int (-1), .int 0])) l (.lst [.ref q0]) = G2 at g1 x1 xe1 w1 hp1 hl1
      refine ⟨rj, l, _, _, rfl, rfl, w1.h, hl1, by rw [lj]; exact le_size (by show S + 1 ≤ _; omega), fun r nr => ?_⟩
      have offx := x1.offn nr
      have offe := xe1.offn nr
      have g2 := g1.own (o := .lst (ej ++ [.ref q0])) nr
      have k2 := (Gr.refl (mu := mu0) g1.fh).own (o := .lst (ej ++ [.ref q0])) nr
      have x2 := x1.gr k2 fun c z => z.elim
      have xe2 := xe1.gr k2 fun c z => z.elim
      have w2 : Ow H F2 (upd G2 r (.lst (ej ++ [.ref q0]))) r (.lst (ej ++ [.ref q0])) := Ow.mk1 g1 nr
      have hp2 := ln (u := .lst (ej ++ [.ref q0])) nr hp1
      have lrs' : rs'.length = i := by rw [xe.len, xe.dat.1, lN]
      refine ⟨rs'.map V.ref, xe2.ow.h, by rw [List.length_map]; exact lt_size (by omega), ?_⟩
      have e1' : rs'.map V.ref ++ [V.ref r] = (rs' ++ [r]).map V.ref := by rw [List.map_append]; rfl
      rw [e1']
      have pE : p ≠ E := fun z => by rw [z] at hp; rw [xe2.ow.n] at hp; cases hp
      refine ⟨F2, rs' ++ [r], ess' ++ [_], N ++ [rowj ++ [Ent.go 1 (-1) 0]], g2.set xe2.ow.f (.inl xe2.ow.n), (upd_ne pE).trans hp2, x2.gr (mu := fun c => c = E) ((Gr.refl g2.fh).set xe2.ow.f (.inr rfl)) (fun c z => by rw [show c = E from z]; exact offE), xe2.add w2 offe al1, by rw [List.length_append, lN]; rfl, fun row' z => ?_⟩
      rcases List.mem_append.mp z with z | z
      · exact hN row' z
      · rw [List.mem_singleton.mp z]
        have mj := List.mem_of_getElem? hwj
        refine ⟨by rw [List.length_append, hM.row _ mj]; rfl, fun e z => ?_⟩
        rcases List.mem_append.mp z with z | z
        · exact (hM.ent _ mj e z).mono2 (Nat.le_refl _) (by omega)
        · rw [List.mem_singleton.mp z]
          exact eok ⟨⟨by decide, by omega⟩, by decide, by decide, by omega⟩
    · rintro G5 ⟨F5, rs', ess', N, g5, hp5, x5, xe5, lN, hN⟩
      have lN : N.length = R := by rw [lN]; exact lrs
      exact ⟨_, rfl, q _ _ E _ _ _ R (S + 1) a3 b3 g5 hp5 ha3 hb3 ⟨r1, r4, by omega, by omega, lN, fun r z => (hN r z).1, fun r z => (hN r z).2⟩ xe5⟩
def sp_law (K : PySem.W.Frag) : Sp := fun vs H Q _ => ∃ (a : Addr) (ns : List Int), vs = [.ref a] ∧ SqL K H a (ns.map V.int) ∧ ns.length ≤ 63 ∧ ∀ H', Q (.bl true) H'
theorem scal_opt : ∀ o : Option Nat, scal (optV o) (optV o) = true
  | none => rfl
  | some _ => rfl
theorem ok_law (t : Tx K mg) : FnOk P w K mg base CX0 5 t.a_law t.fd_law ["_law_script"] (sp_law K) := by
  refine t.F_law.ok sc_law (fun vs H Q E h => ?_) (fun cdv A outer s H vs Q E hr h => ?_)
  · obtain ⟨a, ns, rfl, _⟩ := h
    rfl
  · obtain ⟨a, ns, rfl, hS, hn, q⟩ := h
    refine ⟨_, (pss_cons (ps_set (i := 1) sc_law.nd rfl (by first | exact Or.inl rfl | exact Or.inr rfl) (pe_call (ok_L_purse t) (hr.mono (by decide)) (by rfl) t.m_L_purse t.F_L_purse.kp t.b_L_purse .nil pass0 (pa_cons (pv 0) pa_nil)))
      (pss_cons (ps_set (i := 2) sc_law.nd rfl (by first | exact Or.inl rfl | exact Or.inr rfl) (pe_call (ok_L_any t) (hr.mono (by decide)) (by rfl) t.m_L_any t.F_L_any.kp t.b_L_any .nil pass0 (pa_cons (pv 1) pa_nil)))
      (pss_cons (ps_for PassesOwn.never rfl (pi_range1 (by rfl) t.n_range (pa_cons pe_int pa_nil)) (pg_name (i := 3) sc_law.nd rfl (by first | exact Or.inl rfl | exact Or.inr rfl)) (pss_cons (ps_set (i := 4) sc_law.nd rfl (by first | exact Or.inl rfl | exact Or.inr rfl) (pe_call (ok_L_other t) (hr.mono (by decide)) (by rfl) t.m_L_other t.F_L_other.kp t.b_L_other .nil pass0 (pa_cons (pv 1) (pa_cons (pv 2) pa_nil))))
      (pss_cons (ps_set (i := 5) sc_law.nd rfl (by first | exact Or.inl rfl | exact Or.inr rfl) (pe_tup (pa_cons (pe_lc (own := [("_law_row", 6)]) (g := gName 6) (tt := tYes) rfl sc_law.nd (pi_list (pv 2)) (blkOk_by (N := N_law) (sc := defScope s_law) (by decide +kernel)) (fun _ _ _ _ _ => (pg_name (i := 6) sc_law.nd rfl (by first | exact Or.inl rfl | exact Or.inr rfl))) (fun _ _ _ _ _ => pts_nil) (fun _ _ _ _ _ => (pe_callTy (T := "list") (crK (K := K) (r := rListQ) rfl call_listQ) (by rfl) t.n_list (by decide +kernel) (pa_cons (pv 6) pa_nil)))) (pa_cons (pe_lc (own := [("_law_row", 6)]) (g := gName 6) (tt := tYes) rfl sc_law.nd (pi_list (pv 4)) (blkOk_by (N := N_law) (sc := defScope s_law) (by decide +kernel)) (fun _ _ _ _ _ => (pg_name (i := 6) sc_law.nd rfl (by first | exact Or.inl rfl | exact Or.inr rfl))) (fun _ _ _ _ _ => pts_nil) (fun _ _ _ _ _ => (pe_callTy (T := "list") (crK (K := K) (r := rListQ) rfl call_listQ) (by rfl) t.n_list (by decide +kernel) (pa_cons (pv 6) pa_nil)))) pa_nil))))
      (pss_cons (ps_set (i := 7) sc_law.nd rfl (by first | exact Or.inl rfl | exact Or.inr rfl) (pe_call (ok_L_draw t) (hr.mono (by decide)) (by rfl) t.m_L_draw t.F_L_draw.kp t.b_L_draw .nil pass0 (pa_cons (pv 1) (pa_cons (pe_ix ix_list (pe_lst (pa_cons pe_int (pa_cons pe_int (pa_cons pe_int (pa_cons pe_int pa_nil))))) (pv 3) (fun _ _ => rfl)) pa_nil))))
      (pss_cons (ps_set (i := 8) sc_law.nd rfl (by first | exact Or.inl rfl | exact Or.inr rfl) (pe_call (ok_L_due t) (hr.mono (by decide)) (by rfl) t.m_L_due t.F_L_due.kp t.b_L_due .nil pass0 (pa_cons (pv 2) (pa_cons (pv 4) (pa_cons (pv 7) pa_nil)))))
      (pss_cons (ps_if (PW.pt (pw_or (pt_cmpR op_ne (pe_call (ok_parts_from t) (hr.mono (by decide)) (by rfl) t.m_parts_from t.F_parts_from.kp t.b_parts_from .nil pass0 (pa_cons (pv 2) (pa_cons (pv 4) (pa_cons (pv 7) pa_nil)))) (pv 8) (nomark _)) (pw_or1 (pt_cmpR op_ne (pe_call (ok_parts_from t) (hr.mono (by decide)) (by rfl) t.m_parts_from t.F_parts_from.kp t.b_parts_from .nil pass0 (pa_cons (pv 4) (pa_cons (pv 2) (pa_cons (pv 7) pa_nil)))) (pv 8) (nomark _))))) (pss_one (ps_ret pe_bl)) pss_nil)
      (pss_one (ps_if (PW.pt (pw_or (pt_cmpR op_notN (pe_call (ok_parts_from t) (hr.mono (by decide)) (by rfl) t.m_parts_from t.F_parts_from.kp t.b_parts_from .nil pass0 (pa_cons (pv 4) (pa_cons (pv 4) (pa_cons (pv 7) pa_nil)))) pe_non (nomark _)) (pw_or1 (pt_cmpR (op_neD hr.units) (pe_tup (pa_cons (pv 2) (pa_cons (pv 4) pa_nil))) (pv 5) (nomark _))))) (pss_one (ps_ret pe_bl)) pss_nil))))))))
      (pss_one (ps_ret pe_bl))))), ?_⟩
    refine ⟨_, rfl, a, ns, rfl, hS, hn, fun a0 b0 p H1 ha0 hb0 s1 np hp1 => ?_⟩
    refine ⟨_, rfl, H, p, a0, b0, rfl, s1, np, hp1, ha0, hb0, fun F2 H2 m rs ess M R S a1 b1 g2 hp2 ha1 hb1 hM x => ?_⟩
    obtain ⟨F3, g3, s23, hm, _, on⟩ := x.frz g2
    have fp3 : F3 p = none := g3.pf np hp1
    obtain ⟨am, rv, e0, ham, hrs⟩ := id hm
    cases e0
    refine ⟨4, rfl, by decide, by decide, for_range (lo := 0) (n := 4) (fun i σ G => ∃ (F : Hp) (a' b' : Int) (v3 v4 v5 v7 v8 : Option V), σ = [some (.ref a), some (.ref p), some (.ref m), v3, v4, v5, none, v7, v8] ∧ Gr (muP p) F3 H2 F G ∧ G p = some (PurseO a' b') ∧ 0 ≤ a' ∧ 0 ≤ b') ⟨F3, a1, b1, none, none, none, none, none, rfl, Gr.refl g3.fh, hp2, ha1, hb1⟩ ?_ ?_⟩
    · rintro i σ G hi ⟨F, a', b', v3, v4, v5, v7, v8, rfl, g, hpG, ha', hb'⟩
      have fpF : F p = none := g.pf fp3 hp2
      have hmF := hm.up g.ff
      refine ⟨_, rfl, _, rfl, F, p, a', b', .ref m, M, R, S, rfl, g.fh, fpF, hpG, ha', hb', hmF, hM, fun F5 H5 m5 rs5 ess5 N R5 S5 a5 b5 g5 hp5 ha5 hb5 hN x5 => ?_⟩
      obtain ⟨F6, g6, _, hm6, _, _⟩ := x5.frz g5
      obtain ⟨am6, rv6, e6, ham6, hrs6⟩ := id hm6
      cases e6
      have ham6' := g6.ff _ _ (g.ff _ _ ham)
      have hrsF : IsAll F6 rv M := (hrs.up g.ff).up g6.ff
      -- kept
      refine ⟨_, rfl, m, rfl, ⟨_, SqL.of (g6.fh _ _ ham6')⟩, fun D nD => lc_list (K := K) (a := m) (xs := rv) (fun i G => ∃ (F4 : Hp) (xs : List V), Gr mu0 F6 H5 F4 G ∧ Ow H5 F4 G D (.lst xs) ∧ IsAll F4 xs (M.take i))
        ⟨F6, [], (Gr.refl g6.fh).own nD, Ow.mk1 (Gr.refl (mu := mu0) g6.fh) nD, All2.nil⟩ (fun i G _ ⟨F4, xs, g, _⟩ => SqL.of (g.fh _ _ (g.ff _ _ ham6'))) ?_ ?_⟩
      · rintro i y G hi ⟨F4, xs, g, w, al⟩
        obtain ⟨row, hMi, ra, es, rfl, hra, hes⟩ := hrsF.get' hi
        have il : i < rv.length := (List.getElem?_eq_some_iff.mp hi).1
        have lrv : rv.length = R := hrsF.1.trans hM.len
        have r4 := hM.r4
        have lx : xs.length = i := by rw [al.1, List.length_take, ← hrsF.1]; omega
        refine ⟨rfl, yes ⟨_, rfl, ra, es, rfl, .inl (SqL.of (g.fh _ _ (g.ff _ _ hra))), fun l nl => ⟨xs, (w.new nl).h, lt_size (by omega), ?_⟩⟩⟩
        have g4 := g.new (o := .lst es) nl
        have w4 := w.new (u := .lst es) nl
        have s4 : Same F4 (upd F4 l (.lst es)) := sm_new (Same.refl F4) (g.fh.free nl)
        refine ⟨_, xs ++ [.ref l], g4.set w4.f (.inl w4.n), w4.set, ?_⟩
        rw [List.take_add_one, hMi]
        exact (al.up s4).app (All2.one ⟨l, es, rfl, upd_same, (hes.up g.ff).up s4⟩)
      rintro H7 ⟨F4', xs', gc, wc, alc⟩
      rw [hrsF.1, List.take_length] at alc
      have g7 := gc.frz wc.h wc.n wc.f
      have s4' : Same F4' (upd F4' D (.lst xs')) := sm_new (Same.refl F4') wc.f
      have hk1 : Is (upd F4' D (.lst xs')) (.ref D) M := ⟨D, xs', rfl, upd_same, alc.up s4'⟩
      generalize upd F4' D (.lst xs') = F7 at g7 hk1
      clear gc wc alc s4'
      have ham7 := g7.ff _ _ ham6
      have hrs7 : IsAll F7 rv6 N := hrs6.up g7.ff
      refine ⟨_, rfl, m5, rfl, ⟨_, SqL.of (g7.fh _ _ ham7)⟩, fun D2 nD2 => lc_list (K := K) (a := m5) (xs := rv6) (fun i G => ∃ (F4 : Hp) (xs : List V), Gr mu0 F7 H7 F4 G ∧ Ow H7 F4 G D2 (.lst xs) ∧ IsAll F4 xs (N.take i))
        ⟨F7, [], (Gr.refl g7.fh).own nD2, Ow.mk1 (Gr.refl (mu := mu0) g7.fh) nD2, All2.nil⟩ (fun i G _ ⟨F4, xs, g, _⟩ => SqL.of (g.fh _ _ (g.ff _ _ ham7))) ?_ ?_⟩
      · rintro i y G hi ⟨F4, xs, g, w, al⟩
        obtain ⟨row, hMi, ra, es, rfl, hra, hes⟩ := hrs7.get' hi
        have il : i < rv6.length := (List.getElem?_eq_some_iff.mp hi).1
        have lrv : rv6.length = R5 := hrs7.1.trans hN.len
        have r4 := hN.r4
        have lx : xs.length = i := by rw [al.1, List.length_take, ← hrs7.1]; omega
        refine ⟨rfl, yes ⟨_, rfl, ra, es, rfl, .inl (SqL.of (g.fh _ _ (g.ff _ _ hra))), fun l nl => ⟨xs, (w.new nl).h, lt_size (by omega), ?_⟩⟩⟩
        have g4 := g.new (o := .lst es) nl
        have w4 := w.new (u := .lst es) nl
        have s4 : Same F4 (upd F4 l (.lst es)) := sm_new (Same.refl F4) (g.fh.free nl)
        refine ⟨_, xs ++ [.ref l], g4.set w4.f (.inl w4.n), w4.set, ?_⟩
        rw [List.take_add_one, hMi]
        exact (al.up s4).app (All2.one ⟨l, es, rfl, upd_same, (hes.up g.ff).up s4⟩)
      rintro H8 ⟨F4', xs', gc, wc, alc⟩
      rw [hrs7.1, List.take_length] at alc
      have g8 := gc.frz wc.h wc.n wc.f
      have s4' : Same F4' (upd F4' D2 (.lst xs')) := sm_new (Same.refl F4') wc.f
      have hk2 : Is (upd F4' D2 (.lst xs')) (.ref D2) N := ⟨D2, xs', rfl, upd_same, alc.up s4'⟩
      generalize upd F4' D2 (.lst xs') = F8 at g8 hk2
      clear gc wc alc s4'
      refine ⟨two_le, fun kt nkt => ?_⟩
      have g9 := ((g6.trans (g7.weak (mu' := muP p) fun c z => z.elim)).trans (g8.weak (mu' := muP p) fun c z => z.elim)).new (o := .tup [.ref D, .ref D2]) nkt
      have hp9 := ln (u := .tup [.ref D, .ref D2]) nkt (g8.fr _ _ (g7.fr _ _ hp5 fun z => z) fun z => z)
      have s9 : Same F8 (upd F8 kt (.tup [.ref D, .ref D2])) := sm_new (Same.refl F8) (g8.fh.free nkt)
      have hkt : Is (upd F8 kt (.tup [.ref D, .ref D2])) (.ref kt) (⟨M, N⟩ : T2 Mach Mach) := ⟨kt, _, _, rfl, upd_same, (hk1.up g8.ff).up s9, hk2.up s9⟩
      have hm9 := ((((hmF.up g6.ff).up g7.ff).up g8.ff).up s9)
      have hn9 := ((hm6.up g7.ff).up g8.ff).up s9
      generalize upd F8 kt (.tup [.ref D, .ref D2]) = F9 at g9 hkt hm9 hn9
      generalize upd H8 kt (.tup [.ref D, .ref D2]) = H9 at g9 hp9
      -- most
      refine ⟨_, rfl, four_le, fun l6 nl6 => ?_⟩
      have g10 := g9.own (o := .lst [.int 1, .int 13, .int 61, .int 201]) nl6
      have hp10 := ln (u := .lst [.int 1, .int 13, .int 61, .int 201]) nl6 hp9
      obtain ⟨top, htop, t0, t1⟩ : ∃ top : Int, atI [V.int 1, V.int 13, V.int 61, V.int 201] (0 + (i : Int)) = some (.int top) ∧ 0 < top ∧ top ≤ 1001 := by
        have h : i = 0 ∨ i = 1 ∨ i = 2 ∨ i = 3 := by omega
        rcases h with rfl | rfl | rfl | rfl
        · exact ⟨1, rfl, by decide, by decide⟩
        · exact ⟨13, rfl, by decide, by decide⟩
        · exact ⟨61, rfl, by decide, by decide⟩
        · exact ⟨201, rfl, by decide, by decide⟩
      refine ⟨_, rfl, l6, _, _, _, rfl, rfl, SqL.of upd_same, htop, p, a5, b5, top, rfl, hp10, ha5, hb5, t0, by omega, fun d a7 b7 d0 d1 ha7 hb7 => ?_⟩
      obtain ⟨g11, _⟩ := g10.drw (a := a7) (b := b7) fpF hpG
      have hp11 : (upd (upd H9 l6 (.lst [.int 1, .int 13, .int 61, .int 201])) p (PurseO a7 b7)) p = some (PurseO a7 b7) := upd_same
      generalize upd (upd H9 l6 (.lst [.int 1, .int 13, .int 61, .int 201])) p (PurseO a7 b7) = H11 at g11 hp11
      obtain ⟨n, rfl⟩ : ∃ n : Nat, d = (n : Int) := Int.eq_ofNat_of_zero_le d0
      have hn5 : n ≤ 5000 := by omega
      -- due
      refine ⟨_, rfl, _, rfl, _, rfl, F9, .ref m, .ref m5, M, N, R, S, R5, S5, n, rfl, g11.fh, hm9, hM, hn9, hN, hn5, fun Fa Ga o ga po => ?_⟩
      refine ⟨_, rfl, _, rfl, _, rfl, Fa, .ref m, .ref m5, M, N, R, S, R5, S5, n, rfl, ga.fh, hm9.up ga.ff, hM, hn9.up ga.ff, hN, hn5, fun Fb Gb o2 gb po2 => ?_⟩
      obtain rfl := po.uniq po2
      refine ⟨_, rfl, scal_opt o, _, rfl, ifF (by rw [decide_eq_true rfl]; rfl) ?_⟩
      have gab := ga.trans gb
      refine ⟨_, rfl, _, rfl, _, rfl, Fb, .ref m5, .ref m, N, M, R5, S5, R, S, n, rfl, gb.fh, hn9.up gab.ff, hN, hm9.up gab.ff, hM, hn5, fun Fc Gc o3 gc po3 => ?_⟩
      obtain rfl := po.uniq po3.symm
      refine ⟨_, rfl, scal_opt o, _, rfl, ifF (by rw [decide_eq_true rfl]; rfl) ?_⟩
      have gac := gab.trans gc
      refine ⟨_, rfl, _, rfl, _, rfl, Fc, .ref m5, .ref m5, N, N, R5, S5, R5, S5, n, rfl, gc.fh, hn9.up gac.ff, hN, hn9.up gac.ff, hN, hn5, fun Fd Gd o4 gd po4 => ?_⟩
      obtain rfl := PartOf.self.uniq po4
      refine ⟨rfl, _, rfl, ifF (by show (!decide (V.non = V.non)) = false; rw [decide_eq_true rfl]; rfl) ?_⟩
      have gad := gac.trans gd
      refine ⟨_, rfl, _, rfl, two_le, fun t2 nt2 => ?_⟩
      have ge := gad.new (o := .tup [.ref m, .ref m5]) nt2
      have se : Same Fd (upd Fd t2 (.tup [.ref m, .ref m5])) := sm_new (Same.refl Fd) (gad.fh.free nt2)
      have it2 : Is (upd Fd t2 (.tup [.ref m, .ref m5])) (.ref t2) (⟨M, N⟩ : T2 Mach Mach) := ⟨t2, _, _, rfl, upd_same, (hm9.up gad.ff).up se, (hn9.up gad.ff).up se⟩
      have hpe := ge.fr _ _ hp11 fun z => z
      generalize upd Fd t2 (.tup [.ref m, .ref m5]) = Fe at ge it2
      generalize upd Gd t2 (.tup [.ref m, .ref m5]) = Ge at ge hpe
      refine ⟨_, rfl, ne_dat (a := (⟨M, N⟩ : T2 Mach Mach)) (b := (⟨M, N⟩ : T2 Mach Mach)) (it2.up ge.fh) ((hkt.up ge.ff).up ge.fh) ⟨_, rfl, ifF (by rw [decide_eq_true rfl]; rfl) ?_⟩⟩
      exact ⟨Fe, a7, b7, _, _, _, _, _, rfl, (g.trans g11).trans (ge.weak (mu' := muP p) fun c z => z.elim), hpe, ha7, hb7⟩
    · rintro σ G ⟨F, a', b', v3, v4, v5, v7, v8, rfl, g, _⟩
      exact q _

end
def all_tx {K : PySem.W.Frag} {h : Heap} {mg : Str → Option Value} {a_L_mixed a_L_purse a_L_draw a_L_machine a_L_late a_L_led a_L_any a_L_other a_L_walk a_L_due a_is_entry a_is_machine a_must_machine a_Goer_init a_Goer_entry a_Goer_step a_told_strip a_Goer_setup a_parts_from a_law C_NoMachine C_Goer : Addr} {od_L_mixed an_L_mixed od_L_purse an_L_purse od_L_draw an_L_draw od_L_machine an_L_machine od_L_late an_L_late od_L_led an_L_led od_L_any an_L_any od_L_other an_L_other od_L_walk an_L_walk od_L_due an_L_due od_is_entry an_is_entry od_is_machine an_is_machine od_must_machine an_must_machine od_Goer_init an_Goer_init od_Goer_entry an_Goer_entry od_Goer_step an_Goer_step od_told_strip an_told_strip od_Goer_setup an_Goer_setup od_parts_from an_parts_from od_law an_law : Option Addr} {sl_L_mixed sl_L_purse sl_L_draw sl_L_machine sl_L_late sl_L_led sl_L_any sl_L_other sl_L_walk sl_L_due sl_is_entry sl_is_machine sl_must_machine sl_Goer_init sl_Goer_entry sl_Goer_step sl_told_strip sl_Goer_setup sl_parts_from sl_law : Array (Option Value)} {oc_L_mixed kV_L_mixed dc_L_mixed pm_L_mixed cd_L_mixed ct_L_mixed oc_L_purse kV_L_purse dc_L_purse pm_L_purse cd_L_purse ct_L_purse oc_L_draw kV_L_draw dc_L_draw pm_L_draw cd_L_draw ct_L_draw oc_L_machine kV_L_machine dc_L_machine pm_L_machine cd_L_machine ct_L_machine oc_L_late kV_L_late dc_L_late pm_L_late cd_L_late ct_L_late oc_L_led kV_L_led dc_L_led pm_L_led cd_L_led ct_L_led oc_L_any kV_L_any dc_L_any pm_L_any cd_L_any ct_L_any oc_L_other kV_L_other dc_L_other pm_L_other cd_L_other ct_L_other oc_L_walk kV_L_walk dc_L_walk pm_L_walk cd_L_walk ct_L_walk oc_L_due kV_L_due dc_L_due pm_L_due cd_L_due ct_L_due oc_is_entry kV_is_entry dc_is_entry pm_is_entry cd_is_entry ct_is_entry oc_is_machine kV_is_machine dc_is_machine pm_is_machine cd_is_machine ct_is_machine oc_must_machine kV_must_machine dc_must_machine pm_must_machine cd_must_machine ct_must_machine oc_Goer_init kV_Goer_init dc_Goer_init pm_Goer_init cd_Goer_init ct_Goer_init oc_Goer_entry kV_Goer_entry dc_Goer_entry pm_Goer_entry cd_Goer_entry ct_Goer_entry oc_Goer_step kV_Goer_step dc_Goer_step pm_Goer_step cd_Goer_step ct_Goer_step oc_told_strip kV_told_strip dc_told_strip pm_told_strip cd_told_strip ct_told_strip oc_Goer_setup kV_Goer_setup dc_Goer_setup pm_Goer_setup cd_Goer_setup ct_Goer_setup oc_parts_from kV_parts_from dc_parts_from pm_parts_from cd_parts_from ct_parts_from oc_law kV_law dc_law pm_law cd_law ct_law : Value} {tk_MOST_ROWS tk_MOST_SIGNS : Tok} (X : K.In h) (G : h.Ns mainGlobals mg)
    (n_NoMachine : PySem.W.nsIn K mainGlobals "NoMachine" = some (some (.ref C_NoMachine)))
    (n_Goer : PySem.W.nsIn K mainGlobals "Goer" = some (some (.ref C_Goer)))
    (n_L_mixed : PySem.W.nsIn K mainGlobals "_law_mixed" = some (some (.ref a_L_mixed)))
    (l_L_mixed : K.lookup a_L_mixed = some ⟨oc_L_mixed, od_L_mixed, .func (PySem.W.fnOf "_law_mixed" "_law_mixed" (defArgs s_L_mixed) (defBody s_L_mixed) (defScope s_L_mixed) .none kV_L_mixed dc_L_mixed pm_L_mixed an_L_mixed cd_L_mixed ct_L_mixed), sl_L_mixed⟩)
    (c_L_mixed : PySem.W.codeIn K cd_L_mixed "_law_mixed" = true)
    (k_L_mixed : PySem.W.keepIn K (.ref a_L_mixed) = true)
    (n_L_purse : PySem.W.nsIn K mainGlobals "_law_purse" = some (some (.ref a_L_purse)))
    (l_L_purse : K.lookup a_L_purse = some ⟨oc_L_purse, od_L_purse, .func (PySem.W.fnOf "_law_purse" "_law_purse" (defArgs s_L_purse) (defBody s_L_purse) (defScope s_L_purse) .none kV_L_purse dc_L_purse pm_L_purse an_L_purse cd_L_purse ct_L_purse), sl_L_purse⟩)
    (c_L_purse : PySem.W.codeIn K cd_L_purse "_law_purse" = true)
    (k_L_purse : PySem.W.keepIn K (.ref a_L_purse) = true)
    (n_L_draw : PySem.W.nsIn K mainGlobals "_law_draw" = some (some (.ref a_L_draw)))
    (l_L_draw : K.lookup a_L_draw = some ⟨oc_L_draw, od_L_draw, .func (PySem.W.fnOf "_law_draw" "_law_draw" (defArgs s_L_draw) (defBody s_L_draw) (defScope s_L_draw) .none kV_L_draw dc_L_draw pm_L_draw an_L_draw cd_L_draw ct_L_draw), sl_L_draw⟩)
    (c_L_draw : PySem.W.codeIn K cd_L_draw "_law_draw" = true)
    (k_L_draw : PySem.W.keepIn K (.ref a_L_draw) = true)
    (n_L_machine : PySem.W.nsIn K mainGlobals "_law_machine" = some (some (.ref a_L_machine)))
    (l_L_machine : K.lookup a_L_machine = some ⟨oc_L_machine, od_L_machine, .func (PySem.W.fnOf "_law_machine" "_law_machine" (defArgs s_L_machine) (defBody s_L_machine) (defScope s_L_machine) .none kV_L_machine dc_L_machine pm_L_machine an_L_machine cd_L_machine ct_L_machine), sl_L_machine⟩)
    (c_L_machine : PySem.W.codeIn K cd_L_machine "_law_machine" = true)
    (k_L_machine : PySem.W.keepIn K (.ref a_L_machine) = true)
    (n_L_late : PySem.W.nsIn K mainGlobals "_law_late" = some (some (.ref a_L_late)))
    (l_L_late : K.lookup a_L_late = some ⟨oc_L_late, od_L_late, .func (PySem.W.fnOf "_law_late" "_law_late" (defArgs s_L_late) (defBody s_L_late) (defScope s_L_late) .none kV_L_late dc_L_late pm_L_late an_L_late cd_L_late ct_L_late), sl_L_late⟩)
    (c_L_late : PySem.W.codeIn K cd_L_late "_law_late" = true)
    (k_L_late : PySem.W.keepIn K (.ref a_L_late) = true)
    (n_L_led : PySem.W.nsIn K mainGlobals "_law_led" = some (some (.ref a_L_led)))
    (l_L_led : K.lookup a_L_led = some ⟨oc_L_led, od_L_led, .func (PySem.W.fnOf "_law_led" "_law_led" (defArgs s_L_led) (defBody s_L_led) (defScope s_L_led) .none kV_L_led dc_L_led pm_L_led an_L_led cd_L_led ct_L_led), sl_L_led⟩)
    (c_L_led : PySem.W.codeIn K cd_L_led "_law_led" = true)
    (k_L_led : PySem.W.keepIn K (.ref a_L_led) = true)
    (n_L_any : PySem.W.nsIn K mainGlobals "_law_any" = some (some (.ref a_L_any)))
    (l_L_any : K.lookup a_L_any = some ⟨oc_L_any, od_L_any, .func (PySem.W.fnOf "_law_any" "_law_any" (defArgs s_L_any) (defBody s_L_any) (defScope s_L_any) .none kV_L_any dc_L_any pm_L_any an_L_any cd_L_any ct_L_any), sl_L_any⟩)
    (c_L_any : PySem.W.codeIn K cd_L_any "_law_any" = true)
    (k_L_any : PySem.W.keepIn K (.ref a_L_any) = true)
    (n_L_other : PySem.W.nsIn K mainGlobals "_law_other" = some (some (.ref a_L_other)))
    (l_L_other : K.lookup a_L_other = some ⟨oc_L_other, od_L_other, .func (PySem.W.fnOf "_law_other" "_law_other" (defArgs s_L_other) (defBody s_L_other) (defScope s_L_other) .none kV_L_other dc_L_other pm_L_other an_L_other cd_L_other ct_L_other), sl_L_other⟩)
    (c_L_other : PySem.W.codeIn K cd_L_other "_law_other" = true)
    (k_L_other : PySem.W.keepIn K (.ref a_L_other) = true)
    (n_L_walk : PySem.W.nsIn K mainGlobals "_law_walk" = some (some (.ref a_L_walk)))
    (l_L_walk : K.lookup a_L_walk = some ⟨oc_L_walk, od_L_walk, .func (PySem.W.fnOf "_law_walk" "_law_walk" (defArgs s_L_walk) (defBody s_L_walk) (defScope s_L_walk) .none kV_L_walk dc_L_walk pm_L_walk an_L_walk cd_L_walk ct_L_walk), sl_L_walk⟩)
    (c_L_walk : PySem.W.codeIn K cd_L_walk "_law_walk" = true)
    (k_L_walk : PySem.W.keepIn K (.ref a_L_walk) = true)
    (n_L_due : PySem.W.nsIn K mainGlobals "_law_due" = some (some (.ref a_L_due)))
    (l_L_due : K.lookup a_L_due = some ⟨oc_L_due, od_L_due, .func (PySem.W.fnOf "_law_due" "_law_due" (defArgs s_L_due) (defBody s_L_due) (defScope s_L_due) .none kV_L_due dc_L_due pm_L_due an_L_due cd_L_due ct_L_due), sl_L_due⟩)
    (c_L_due : PySem.W.codeIn K cd_L_due "_law_due" = true)
    (k_L_due : PySem.W.keepIn K (.ref a_L_due) = true)
    (n_is_entry : PySem.W.nsIn K mainGlobals "is_entry" = some (some (.ref a_is_entry)))
    (l_is_entry : K.lookup a_is_entry = some ⟨oc_is_entry, od_is_entry, .func (PySem.W.fnOf "is_entry" "is_entry" (defArgs s_is_entry) (defBody s_is_entry) (defScope s_is_entry) .none kV_is_entry dc_is_entry pm_is_entry an_is_entry cd_is_entry ct_is_entry), sl_is_entry⟩)
    (c_is_entry : PySem.W.codeIn K cd_is_entry "is_entry" = true)
    (k_is_entry : PySem.W.keepIn K (.ref a_is_entry) = true)
    (n_is_machine : PySem.W.nsIn K mainGlobals "is_machine" = some (some (.ref a_is_machine)))
    (l_is_machine : K.lookup a_is_machine = some ⟨oc_is_machine, od_is_machine, .func (PySem.W.fnOf "is_machine" "is_machine" (defArgs s_is_machine) (defBody s_is_machine) (defScope s_is_machine) .none kV_is_machine dc_is_machine pm_is_machine an_is_machine cd_is_machine ct_is_machine), sl_is_machine⟩)
    (c_is_machine : PySem.W.codeIn K cd_is_machine "is_machine" = true)
    (k_is_machine : PySem.W.keepIn K (.ref a_is_machine) = true)
    (n_must_machine : PySem.W.nsIn K mainGlobals "must_machine" = some (some (.ref a_must_machine)))
    (l_must_machine : K.lookup a_must_machine = some ⟨oc_must_machine, od_must_machine, .func (PySem.W.fnOf "must_machine" "must_machine" (defArgs s_must_machine) (defBody s_must_machine) (defScope s_must_machine) .none kV_must_machine dc_must_machine pm_must_machine an_must_machine cd_must_machine ct_must_machine), sl_must_machine⟩)
    (c_must_machine : PySem.W.codeIn K cd_must_machine "must_machine" = true)
    (k_must_machine : PySem.W.keepIn K (.ref a_must_machine) = true)
    (n_Goer_init : PySem.W.findIn K (.ref C_Goer) "__init__" = some (some (.ref a_Goer_init)))
    (i_Goer_init : PySem.W.isFn K (.ref a_Goer_init) = true)
    (l_Goer_init : K.lookup a_Goer_init = some ⟨oc_Goer_init, od_Goer_init, .func (PySem.W.fnOf "__init__" "Goer.__init__" (defArgs s_Goer_init) (defBody s_Goer_init) (defScope s_Goer_init) .none kV_Goer_init dc_Goer_init pm_Goer_init an_Goer_init cd_Goer_init ct_Goer_init), sl_Goer_init⟩)
    (c_Goer_init : PySem.W.codeIn K cd_Goer_init "Goer.__init__" = true)
    (k_Goer_init : PySem.W.keepIn K (.ref a_Goer_init) = true)
    (n_Goer_entry : PySem.W.findIn K (.ref C_Goer) "entry" = some (some (.ref a_Goer_entry)))
    (i_Goer_entry : PySem.W.isFn K (.ref a_Goer_entry) = true)
    (l_Goer_entry : K.lookup a_Goer_entry = some ⟨oc_Goer_entry, od_Goer_entry, .func (PySem.W.fnOf "entry" "Goer.entry" (defArgs s_Goer_entry) (defBody s_Goer_entry) (defScope s_Goer_entry) .none kV_Goer_entry dc_Goer_entry pm_Goer_entry an_Goer_entry cd_Goer_entry ct_Goer_entry), sl_Goer_entry⟩)
    (c_Goer_entry : PySem.W.codeIn K cd_Goer_entry "Goer.entry" = true)
    (k_Goer_entry : PySem.W.keepIn K (.ref a_Goer_entry) = true)
    (n_Goer_step : PySem.W.findIn K (.ref C_Goer) "step" = some (some (.ref a_Goer_step)))
    (i_Goer_step : PySem.W.isFn K (.ref a_Goer_step) = true)
    (l_Goer_step : K.lookup a_Goer_step = some ⟨oc_Goer_step, od_Goer_step, .func (PySem.W.fnOf "step" "Goer.step" (defArgs s_Goer_step) (defBody s_Goer_step) (defScope s_Goer_step) .none kV_Goer_step dc_Goer_step pm_Goer_step an_Goer_step cd_Goer_step ct_Goer_step), sl_Goer_step⟩)
    (c_Goer_step : PySem.W.codeIn K cd_Goer_step "Goer.step" = true)
    (k_Goer_step : PySem.W.keepIn K (.ref a_Goer_step) = true)
    (n_told_strip : PySem.W.nsIn K mainGlobals "told_strip" = some (some (.ref a_told_strip)))
    (l_told_strip : K.lookup a_told_strip = some ⟨oc_told_strip, od_told_strip, .func (PySem.W.fnOf "told_strip" "told_strip" (defArgs s_told_strip) (defBody s_told_strip) (defScope s_told_strip) .none kV_told_strip dc_told_strip pm_told_strip an_told_strip cd_told_strip ct_told_strip), sl_told_strip⟩)
    (c_told_strip : PySem.W.codeIn K cd_told_strip "told_strip" = true)
    (k_told_strip : PySem.W.keepIn K (.ref a_told_strip) = true)
    (n_Goer_setup : PySem.W.findIn K (.ref C_Goer) "setup" = some (some (.ref a_Goer_setup)))
    (i_Goer_setup : PySem.W.isFn K (.ref a_Goer_setup) = true)
    (l_Goer_setup : K.lookup a_Goer_setup = some ⟨oc_Goer_setup, od_Goer_setup, .func (PySem.W.fnOf "setup" "Goer.setup" (defArgs s_Goer_setup) (defBody s_Goer_setup) (defScope s_Goer_setup) .none kV_Goer_setup dc_Goer_setup pm_Goer_setup an_Goer_setup cd_Goer_setup ct_Goer_setup), sl_Goer_setup⟩)
    (c_Goer_setup : PySem.W.codeIn K cd_Goer_setup "Goer.setup" = true)
    (k_Goer_setup : PySem.W.keepIn K (.ref a_Goer_setup) = true)
    (n_parts_from : PySem.W.nsIn K mainGlobals "parts_from" = some (some (.ref a_parts_from)))
    (l_parts_from : K.lookup a_parts_from = some ⟨oc_parts_from, od_parts_from, .func (PySem.W.fnOf "parts_from" "parts_from" (defArgs s_parts_from) (defBody s_parts_from) (defScope s_parts_from) .none kV_parts_from dc_parts_from pm_parts_from an_parts_from cd_parts_from ct_parts_from), sl_parts_from⟩)
    (c_parts_from : PySem.W.codeIn K cd_parts_from "parts_from" = true)
    (k_parts_from : PySem.W.keepIn K (.ref a_parts_from) = true)
    (n_law : PySem.W.nsIn K mainGlobals "law" = some (some (.ref a_law)))
    (l_law : K.lookup a_law = some ⟨oc_law, od_law, .func (PySem.W.fnOf "law" "law" (defArgs s_law) (defBody s_law) (defScope s_law) .none kV_law dc_law pm_law an_law cd_law ct_law), sl_law⟩)
    (c_law : PySem.W.codeIn K cd_law "law" = true)
    (k_law : PySem.W.keepIn K (.ref a_law) = true)
    (pg_Goer : PySem.W.plainGet K C_Goer Str.empty = true)
    (hd_Goer : PySem.W.hasDictIn K C_Goer = true)
    (po_Goer : PySem.W.plainOver K C_Goer = true)
    (sa_Goer : PySem.W.findIn K (.ref C_Goer) "__setattr__" = some (some (.builtin "object.__setattr__")))
    (mk_Goer : PySem.W.makesIn K C_Goer = true)
    (kc_Goer : PySem.W.keepIn K (.ref C_Goer) = true)
    (f_Goer_table : PySem.W.findIn K (.ref C_Goer) "table" = some none)
    (f_Goer_row : PySem.W.findIn K (.ref C_Goer) "row" = some none)
    (f_Goer_spot : PySem.W.findIn K (.ref C_Goer) "spot" = some none)
    (f_Goer_signs : PySem.W.findIn K (.ref C_Goer) "signs" = some none)
    (f_Goer_steps : PySem.W.findIn K (.ref C_Goer) "steps" = some none)
    (n_MOST_ROWS : PySem.W.nsIn K mainGlobals "MOST_ROWS" = some (some (.int 4 tk_MOST_ROWS)))
    (n_MOST_SIGNS : PySem.W.nsIn K mainGlobals "MOST_SIGNS" = some (some (.int 4 tk_MOST_SIGNS)))
    (z_range : PySem.W.nsIn K mainGlobals "range" = some none)
    (z_len : PySem.W.nsIn K mainGlobals "len" = some none)
    (z_abs : PySem.W.nsIn K mainGlobals "abs" = some none)
    (z_list : PySem.W.nsIn K mainGlobals "list" = some none)
    (z_dict : PySem.W.nsIn K mainGlobals "dict" = some none)
    (z_all : PySem.W.nsIn K mainGlobals "all" = some none)
    (z_sorted : PySem.W.nsIn K mainGlobals "sorted" = some none)
    (z_max : PySem.W.nsIn K mainGlobals "max" = some none) : Tx K mg where
  a_L_mixed := a_L_mixed
  fd_L_mixed := PySem.W.fnOf "_law_mixed" "_law_mixed" (defArgs s_L_mixed) (defBody s_L_mixed) (defScope s_L_mixed) .none kV_L_mixed dc_L_mixed pm_L_mixed an_L_mixed cd_L_mixed ct_L_mixed
  F_L_mixed := fun_mk l_L_mixed c_L_mixed k_L_mixed
  b_L_mixed := (fun_mk (st := s_L_mixed) l_L_mixed c_L_mixed k_L_mixed).binds (ps := ["_law_cell", "_law_k"]) fun _ _ _ _ _ _ us hl => match us, hl with | [_, _], _ => rfl
  m_L_mixed := PySem.W.mg_of X G n_L_mixed
  a_L_purse := a_L_purse
  fd_L_purse := PySem.W.fnOf "_law_purse" "_law_purse" (defArgs s_L_purse) (defBody s_L_purse) (defScope s_L_purse) .none kV_L_purse dc_L_purse pm_L_purse an_L_purse cd_L_purse ct_L_purse
  F_L_purse := fun_mk l_L_purse c_L_purse k_L_purse
  b_L_purse := (fun_mk (st := s_L_purse) l_L_purse c_L_purse k_L_purse).binds (ps := ["_law_script"]) fun _ _ _ _ _ _ us hl => match us, hl with | [_], _ => rfl
  m_L_purse := PySem.W.mg_of X G n_L_purse
  a_L_draw := a_L_draw
  fd_L_draw := PySem.W.fnOf "_law_draw" "_law_draw" (defArgs s_L_draw) (defBody s_L_draw) (defScope s_L_draw) .none kV_L_draw dc_L_draw pm_L_draw an_L_draw cd_L_draw ct_L_draw
  F_L_draw := fun_mk l_L_draw c_L_draw k_L_draw
  b_L_draw := (fun_mk (st := s_L_draw) l_L_draw c_L_draw k_L_draw).binds (ps := ["_law_purse_here", "_law_out_of"]) fun _ _ _ _ _ _ us hl => match us, hl with | [_, _], _ => rfl
  m_L_draw := PySem.W.mg_of X G n_L_draw
  a_L_machine := a_L_machine
  fd_L_machine := PySem.W.fnOf "_law_machine" "_law_machine" (defArgs s_L_machine) (defBody s_L_machine) (defScope s_L_machine) .none kV_L_machine dc_L_machine pm_L_machine an_L_machine cd_L_machine ct_L_machine
  F_L_machine := fun_mk l_L_machine c_L_machine k_L_machine
  b_L_machine := (fun_mk (st := s_L_machine) l_L_machine c_L_machine k_L_machine).binds (ps := ["_law_purse_here"]) fun _ _ _ _ _ _ us hl => match us, hl with | [_], _ => rfl
  m_L_machine := PySem.W.mg_of X G n_L_machine
  a_L_late := a_L_late
  fd_L_late := PySem.W.fnOf "_law_late" "_law_late" (defArgs s_L_late) (defBody s_L_late) (defScope s_L_late) .none kV_L_late dc_L_late pm_L_late an_L_late cd_L_late ct_L_late
  F_L_late := fun_mk l_L_late c_L_late k_L_late
  b_L_late := (fun_mk (st := s_L_late) l_L_late c_L_late k_L_late).binds (ps := ["_law_purse_here"]) fun _ _ _ _ _ _ us hl => match us, hl with | [_], _ => rfl
  m_L_late := PySem.W.mg_of X G n_L_late
  a_L_led := a_L_led
  fd_L_led := PySem.W.fnOf "_law_led" "_law_led" (defArgs s_L_led) (defBody s_L_led) (defScope s_L_led) .none kV_L_led dc_L_led pm_L_led an_L_led cd_L_led ct_L_led
  F_L_led := fun_mk l_L_led c_L_led k_L_led
  b_L_led := (fun_mk (st := s_L_led) l_L_led c_L_led k_L_led).binds (ps := ["_law_purse_here"]) fun _ _ _ _ _ _ us hl => match us, hl with | [_], _ => rfl
  m_L_led := PySem.W.mg_of X G n_L_led
  a_L_any := a_L_any
  fd_L_any := PySem.W.fnOf "_law_any" "_law_any" (defArgs s_L_any) (defBody s_L_any) (defScope s_L_any) .none kV_L_any dc_L_any pm_L_any an_L_any cd_L_any ct_L_any
  F_L_any := fun_mk l_L_any c_L_any k_L_any
  b_L_any := (fun_mk (st := s_L_any) l_L_any c_L_any k_L_any).binds (ps := ["_law_purse_here"]) fun _ _ _ _ _ _ us hl => match us, hl with | [_], _ => rfl
  m_L_any := PySem.W.mg_of X G n_L_any
  a_L_other := a_L_other
  fd_L_other := PySem.W.fnOf "_law_other" "_law_other" (defArgs s_L_other) (defBody s_L_other) (defScope s_L_other) .none kV_L_other dc_L_other pm_L_other an_L_other cd_L_other ct_L_other
  F_L_other := fun_mk l_L_other c_L_other k_L_other
  b_L_other := (fun_mk (st := s_L_other) l_L_other c_L_other k_L_other).binds (ps := ["_law_purse_here", "_law_machine_here"]) fun _ _ _ _ _ _ us hl => match us, hl with | [_, _], _ => rfl
  m_L_other := PySem.W.mg_of X G n_L_other
  a_L_walk := a_L_walk
  fd_L_walk := PySem.W.fnOf "_law_walk" "_law_walk" (defArgs s_L_walk) (defBody s_L_walk) (defScope s_L_walk) .none kV_L_walk dc_L_walk pm_L_walk an_L_walk cd_L_walk ct_L_walk
  F_L_walk := fun_mk l_L_walk c_L_walk k_L_walk
  b_L_walk := (fun_mk (st := s_L_walk) l_L_walk c_L_walk k_L_walk).binds (ps := ["_law_machine_here", "_law_most"]) fun _ _ _ _ _ _ us hl => match us, hl with | [_, _], _ => rfl
  m_L_walk := PySem.W.mg_of X G n_L_walk
  a_L_due := a_L_due
  fd_L_due := PySem.W.fnOf "_law_due" "_law_due" (defArgs s_L_due) (defBody s_L_due) (defScope s_L_due) .none kV_L_due dc_L_due pm_L_due an_L_due cd_L_due ct_L_due
  F_L_due := fun_mk l_L_due c_L_due k_L_due
  b_L_due := (fun_mk (st := s_L_due) l_L_due c_L_due k_L_due).binds (ps := ["_law_one", "_law_other_here", "_law_most"]) fun _ _ _ _ _ _ us hl => match us, hl with | [_, _, _], _ => rfl
  m_L_due := PySem.W.mg_of X G n_L_due
  a_is_entry := a_is_entry
  fd_is_entry := PySem.W.fnOf "is_entry" "is_entry" (defArgs s_is_entry) (defBody s_is_entry) (defScope s_is_entry) .none kV_is_entry dc_is_entry pm_is_entry an_is_entry cd_is_entry ct_is_entry
  F_is_entry := fun_mk l_is_entry c_is_entry k_is_entry
  b_is_entry := (fun_mk (st := s_is_entry) l_is_entry c_is_entry k_is_entry).binds (ps := ["entry", "rows", "signs"]) fun _ _ _ _ _ _ us hl => match us, hl with | [_, _, _], _ => rfl
  m_is_entry := PySem.W.mg_of X G n_is_entry
  a_is_machine := a_is_machine
  fd_is_machine := PySem.W.fnOf "is_machine" "is_machine" (defArgs s_is_machine) (defBody s_is_machine) (defScope s_is_machine) .none kV_is_machine dc_is_machine pm_is_machine an_is_machine cd_is_machine ct_is_machine
  F_is_machine := fun_mk l_is_machine c_is_machine k_is_machine
  b_is_machine := (fun_mk (st := s_is_machine) l_is_machine c_is_machine k_is_machine).binds (ps := ["machine"]) fun _ _ _ _ _ _ us hl => match us, hl with | [_], _ => rfl
  m_is_machine := PySem.W.mg_of X G n_is_machine
  a_must_machine := a_must_machine
  fd_must_machine := PySem.W.fnOf "must_machine" "must_machine" (defArgs s_must_machine) (defBody s_must_machine) (defScope s_must_machine) .none kV_must_machine dc_must_machine pm_must_machine an_must_machine cd_must_machine ct_must_machine
  F_must_machine := fun_mk l_must_machine c_must_machine k_must_machine
  b_must_machine := (fun_mk (st := s_must_machine) l_must_machine c_must_machine k_must_machine).binds (ps := ["machine"]) fun _ _ _ _ _ _ us hl => match us, hl with | [_], _ => rfl
  m_must_machine := PySem.W.mg_of X G n_must_machine
  a_Goer_init := a_Goer_init
  fd_Goer_init := PySem.W.fnOf "__init__" "Goer.__init__" (defArgs s_Goer_init) (defBody s_Goer_init) (defScope s_Goer_init) .none kV_Goer_init dc_Goer_init pm_Goer_init an_Goer_init cd_Goer_init ct_Goer_init
  F_Goer_init := fun_mk l_Goer_init c_Goer_init k_Goer_init
  b_Goer_init := (fun_mk (st := s_Goer_init) l_Goer_init c_Goer_init k_Goer_init).binds (ps := ["self", "machine", "setup"]) fun _ _ _ _ _ _ us hl => match us, hl with | [_, _, _], _ => rfl
  a_Goer_entry := a_Goer_entry
  fd_Goer_entry := PySem.W.fnOf "entry" "Goer.entry" (defArgs s_Goer_entry) (defBody s_Goer_entry) (defScope s_Goer_entry) .none kV_Goer_entry dc_Goer_entry pm_Goer_entry an_Goer_entry cd_Goer_entry ct_Goer_entry
  F_Goer_entry := fun_mk l_Goer_entry c_Goer_entry k_Goer_entry
  b_Goer_entry := (fun_mk (st := s_Goer_entry) l_Goer_entry c_Goer_entry k_Goer_entry).binds (ps := ["self"]) fun _ _ _ _ _ _ us hl => match us, hl with | [_], _ => rfl
  a_Goer_step := a_Goer_step
  fd_Goer_step := PySem.W.fnOf "step" "Goer.step" (defArgs s_Goer_step) (defBody s_Goer_step) (defScope s_Goer_step) .none kV_Goer_step dc_Goer_step pm_Goer_step an_Goer_step cd_Goer_step ct_Goer_step
  F_Goer_step := fun_mk l_Goer_step c_Goer_step k_Goer_step
  b_Goer_step := (fun_mk (st := s_Goer_step) l_Goer_step c_Goer_step k_Goer_step).binds (ps := ["self"]) fun _ _ _ _ _ _ us hl => match us, hl with | [_], _ => rfl
  a_told_strip := a_told_strip
  fd_told_strip := PySem.W.fnOf "told_strip" "told_strip" (defArgs s_told_strip) (defBody s_told_strip) (defScope s_told_strip) .none kV_told_strip dc_told_strip pm_told_strip an_told_strip cd_told_strip ct_told_strip
  F_told_strip := fun_mk l_told_strip c_told_strip k_told_strip
  b_told_strip := (fun_mk (st := s_told_strip) l_told_strip c_told_strip k_told_strip).binds (ps := ["signs"]) fun _ _ _ _ _ _ us hl => match us, hl with | [_], _ => rfl
  m_told_strip := PySem.W.mg_of X G n_told_strip
  a_Goer_setup := a_Goer_setup
  fd_Goer_setup := PySem.W.fnOf "setup" "Goer.setup" (defArgs s_Goer_setup) (defBody s_Goer_setup) (defScope s_Goer_setup) .none kV_Goer_setup dc_Goer_setup pm_Goer_setup an_Goer_setup cd_Goer_setup ct_Goer_setup
  F_Goer_setup := fun_mk l_Goer_setup c_Goer_setup k_Goer_setup
  b_Goer_setup := (fun_mk (st := s_Goer_setup) l_Goer_setup c_Goer_setup k_Goer_setup).binds (ps := ["self"]) fun _ _ _ _ _ _ us hl => match us, hl with | [_], _ => rfl
  a_parts_from := a_parts_from
  fd_parts_from := PySem.W.fnOf "parts_from" "parts_from" (defArgs s_parts_from) (defBody s_parts_from) (defScope s_parts_from) .none kV_parts_from dc_parts_from pm_parts_from an_parts_from cd_parts_from ct_parts_from
  F_parts_from := fun_mk l_parts_from c_parts_from k_parts_from
  b_parts_from := (fun_mk (st := s_parts_from) l_parts_from c_parts_from k_parts_from).binds (ps := ["one", "other", "most"]) fun _ _ _ _ _ _ us hl => match us, hl with | [_, _, _], _ => rfl
  m_parts_from := PySem.W.mg_of X G n_parts_from
  a_law := a_law
  fd_law := PySem.W.fnOf "law" "law" (defArgs s_law) (defBody s_law) (defScope s_law) .none kV_law dc_law pm_law an_law cd_law ct_law
  F_law := fun_mk l_law c_law k_law
  b_law := (fun_mk (st := s_law) l_law c_law k_law).binds (ps := ["_law_script"]) fun _ _ _ _ _ _ us hl => match us, hl with | [_], _ => rfl
  m_law := PySem.W.mg_of X G n_law
  C_NoMachine := C_NoMachine
  m_NoMachine := PySem.W.mg_of X G n_NoMachine
  C_Goer := C_Goer
  m_Goer := PySem.W.mg_of X G n_Goer
  cl_Goer := ⟨pg_Goer, hd_Goer, po_Goer, sa_Goer⟩
  M_Goer := ⟨mk_Goer, n_Goer_init, i_Goer_init, kc_Goer⟩
  M_Goer_entry := ⟨n_Goer_entry, i_Goer_entry, k_Goer_entry⟩
  M_Goer_step := ⟨n_Goer_step, i_Goer_step, k_Goer_step⟩
  M_Goer_setup := ⟨n_Goer_setup, i_Goer_setup, k_Goer_setup⟩
  nA_Goer_table := f_Goer_table
  nA_Goer_row := f_Goer_row
  nA_Goer_spot := f_Goer_spot
  nA_Goer_signs := f_Goer_signs
  nA_Goer_steps := f_Goer_steps
  tk_MOST_ROWS := tk_MOST_ROWS
  m_MOST_ROWS := PySem.W.mg_of X G n_MOST_ROWS
  tk_MOST_SIGNS := tk_MOST_SIGNS
  m_MOST_SIGNS := PySem.W.mg_of X G n_MOST_SIGNS
  n_range := PySem.W.mg_none_of X G z_range
  n_len := PySem.W.mg_none_of X G z_len
  n_abs := PySem.W.mg_none_of X G z_abs
  n_list := PySem.W.mg_none_of X G z_list
  n_dict := PySem.W.mg_none_of X G z_dict
  n_all := PySem.W.mg_none_of X G z_all
  n_sorted := PySem.W.mg_none_of X G z_sorted
  n_max := PySem.W.mg_none_of X G z_max
theorem all_mk {l : PySem.W.OpenLaw} {w : World} {K : PySem.W.Frag} {h : Heap} {mg : Str → Option Value} {fa : Addr} (X : K.In h) (G : h.Ns mainGlobals mg) (hfa : mg "law" = some (.ref fa)) (t : Tx K mg)
    (hb : ∃ (kV dc pm : Value) (an : Option Addr) (cd ct : Value), t.fd_law = PySem.W.fnOf "law" "law" (defArgs s_law) (defBody s_law) (defScope s_law) .none kV dc pm an cd ct) :
    ∃ fd : FuncData, (∀ (s : Shared) (v : Value), BindsTo s fd ⟨[v], []⟩ [("_law_script", v)]) ∧ ∀ base : Heap, K.In base → base.Ns mainGlobals mg → FnOk l.prog w K mg base CX0 5 fa fd ["_law_script"] (sp_law K) := by
  have e := hfa.symm.trans t.m_law
  cases e
  refine ⟨t.fd_law, fun s v => ?_, fun base _ _ => ok_law t⟩
  obtain ⟨kV, dc, pm, an, cd, ct, e⟩ := hb
  rw [e]
  exact .of_eq rfl
theorem walk {l : PySem.W.OpenLaw} {q : Program} {loose : List Str} {XP : (Str → Option Value) → Heap → Prop} {YP : World → Heap → Prop} {d : DefRec} {K : Params → PySem.W.Frag} (hn : l.most = some 63) (hdf : d.params.defaults = [])
    (hY : ∀ (w : World) (h : Heap), YP w h → (K w.params).In h)
    (F : ∀ (w : World) (mg : Str → Option Value) (fa : Addr) (h : Heap), (K w.params).In h → h.Ns mainGlobals mg → mg d.name = some (.ref fa) →
      ∃ fd : FuncData, (∀ (s : Shared) (u : Value), BindsTo s fd ⟨[u], []⟩ [("_law_script", u)]) ∧ ∀ base : Heap, (K w.params).In base → base.Ns mainGlobals mg → FnOk l.prog w (K w.params) mg base CX0 5 fa fd ["_law_script"] (sp_law (K w.params))) :
    PySem.W.WalkO q loose XP YP l.row.toRowW d [] (fun f vs => PySem.call f vs) :=
  L2.walk_of (n := 63) (k := 5) (x := "_law_script") (CX := fun _ => CX0) (sp := fun w => sp_law (K w.params)) hn (by decide) hdf ⟨rfl, by decide, by decide⟩ hY F (fun _ _ a ns hl _ hS => ⟨a, ns, rfl, hS, hl, fun _ => rfl⟩) fun _ _ _ _ _ z => z
theorem all_go {l : PySem.W.OpenLaw} {w : World} {K : PySem.W.Frag} {h : Heap} {mg : Str → Option Value} {fa : Addr} {a_L_mixed a_L_purse a_L_draw a_L_machine a_L_late a_L_led a_L_any a_L_other a_L_walk a_L_due a_is_entry a_is_machine a_must_machine a_Goer_init a_Goer_entry a_Goer_step a_told_strip a_Goer_setup a_parts_from a_law C_NoMachine C_Goer : Addr} {od_L_mixed an_L_mixed od_L_purse an_L_purse od_L_draw an_L_draw od_L_machine an_L_machine od_L_late an_L_late od_L_led an_L_led od_L_any an_L_any od_L_other an_L_other od_L_walk an_L_walk od_L_due an_L_due od_is_entry an_is_entry od_is_machine an_is_machine od_must_machine an_must_machine od_Goer_init an_Goer_init od_Goer_entry an_Goer_entry od_Goer_step an_Goer_step od_told_strip an_told_strip od_Goer_setup an_Goer_setup od_parts_from an_parts_from od_law an_law : Option Addr} {sl_L_mixed sl_L_purse sl_L_draw sl_L_machine sl_L_late sl_L_led sl_L_any sl_L_other sl_L_walk sl_L_due sl_is_entry sl_is_machine sl_must_machine sl_Goer_init sl_Goer_entry sl_Goer_step sl_told_strip sl_Goer_setup sl_parts_from sl_law : Array (Option Value)} {oc_L_mixed kV_L_mixed dc_L_mixed pm_L_mixed cd_L_mixed ct_L_mixed oc_L_purse kV_L_purse dc_L_purse pm_L_purse cd_L_purse ct_L_purse oc_L_draw kV_L_draw dc_L_draw pm_L_draw cd_L_draw ct_L_draw oc_L_machine kV_L_machine dc_L_machine pm_L_machine cd_L_machine ct_L_machine oc_L_late kV_L_late dc_L_late pm_L_late cd_L_late ct_L_late oc_L_led kV_L_led dc_L_led pm_L_led cd_L_led ct_L_led oc_L_any kV_L_any dc_L_any pm_L_any cd_L_any ct_L_any oc_L_other kV_L_other dc_L_other pm_L_other cd_L_other ct_L_other oc_L_walk kV_L_walk dc_L_walk pm_L_walk cd_L_walk ct_L_walk oc_L_due kV_L_due dc_L_due pm_L_due cd_L_due ct_L_due oc_is_entry kV_is_entry dc_is_entry pm_is_entry cd_is_entry ct_is_entry oc_is_machine kV_is_machine dc_is_machine pm_is_machine cd_is_machine ct_is_machine oc_must_machine kV_must_machine dc_must_machine pm_must_machine cd_must_machine ct_must_machine oc_Goer_init kV_Goer_init dc_Goer_init pm_Goer_init cd_Goer_init ct_Goer_init oc_Goer_entry kV_Goer_entry dc_Goer_entry pm_Goer_entry cd_Goer_entry ct_Goer_entry oc_Goer_step kV_Goer_step dc_Goer_step pm_Goer_step cd_Goer_step ct_Goer_step oc_told_strip kV_told_strip dc_told_strip pm_told_strip cd_told_strip ct_told_strip oc_Goer_setup kV_Goer_setup dc_Goer_setup pm_Goer_setup cd_Goer_setup ct_Goer_setup oc_parts_from kV_parts_from dc_parts_from pm_parts_from cd_parts_from ct_parts_from oc_law kV_law dc_law pm_law cd_law ct_law : Value} {tk_MOST_ROWS tk_MOST_SIGNS : Tok} (X : K.In h) (G : h.Ns mainGlobals mg) (hfa : mg "law" = some (.ref fa))
    (n_NoMachine : PySem.W.nsIn K mainGlobals "NoMachine" = some (some (.ref C_NoMachine)))
    (n_Goer : PySem.W.nsIn K mainGlobals "Goer" = some (some (.ref C_Goer)))
    (n_L_mixed : PySem.W.nsIn K mainGlobals "_law_mixed" = some (some (.ref a_L_mixed)))
    (l_L_mixed : K.lookup a_L_mixed = some ⟨oc_L_mixed, od_L_mixed, .func (PySem.W.fnOf "_law_mixed" "_law_mixed" (defArgs s_L_mixed) (defBody s_L_mixed) (defScope s_L_mixed) .none kV_L_mixed dc_L_mixed pm_L_mixed an_L_mixed cd_L_mixed ct_L_mixed), sl_L_mixed⟩)
    (c_L_mixed : PySem.W.codeIn K cd_L_mixed "_law_mixed" = true)
    (k_L_mixed : PySem.W.keepIn K (.ref a_L_mixed) = true)
    (n_L_purse : PySem.W.nsIn K mainGlobals "_law_purse" = some (some (.ref a_L_purse)))
    (l_L_purse : K.lookup a_L_purse = some ⟨oc_L_purse, od_L_purse, .func (PySem.W.fnOf "_law_purse" "_law_purse" (defArgs s_L_purse) (defBody s_L_purse) (defScope s_L_purse) .none kV_L_purse dc_L_purse pm_L_purse an_L_purse cd_L_purse ct_L_purse), sl_L_purse⟩)
    (c_L_purse : PySem.W.codeIn K cd_L_purse "_law_purse" = true)
    (k_L_purse : PySem.W.keepIn K (.ref a_L_purse) = true)
    (n_L_draw : PySem.W.nsIn K mainGlobals "_law_draw" = some (some (.ref a_L_draw)))
    (l_L_draw : K.lookup a_L_draw = some ⟨oc_L_draw, od_L_draw, .func (PySem.W.fnOf "_law_draw" "_law_draw" (defArgs s_L_draw) (defBody s_L_draw) (defScope s_L_draw) .none kV_L_draw dc_L_draw pm_L_draw an_L_draw cd_L_draw ct_L_draw), sl_L_draw⟩)
    (c_L_draw : PySem.W.codeIn K cd_L_draw "_law_draw" = true)
    (k_L_draw : PySem.W.keepIn K (.ref a_L_draw) = true)
    (n_L_machine : PySem.W.nsIn K mainGlobals "_law_machine" = some (some (.ref a_L_machine)))
    (l_L_machine : K.lookup a_L_machine = some ⟨oc_L_machine, od_L_machine, .func (PySem.W.fnOf "_law_machine" "_law_machine" (defArgs s_L_machine) (defBody s_L_machine) (defScope s_L_machine) .none kV_L_machine dc_L_machine pm_L_machine an_L_machine cd_L_machine ct_L_machine), sl_L_machine⟩)
    (c_L_machine : PySem.W.codeIn K cd_L_machine "_law_machine" = true)
    (k_L_machine : PySem.W.keepIn K (.ref a_L_machine) = true)
    (n_L_late : PySem.W.nsIn K mainGlobals "_law_late" = some (some (.ref a_L_late)))
    (l_L_late : K.lookup a_L_late = some ⟨oc_L_late, od_L_late, .func (PySem.W.fnOf "_law_late" "_law_late" (defArgs s_L_late) (defBody s_L_late) (defScope s_L_late) .none kV_L_late dc_L_late pm_L_late an_L_late cd_L_late ct_L_late), sl_L_late⟩)
    (c_L_late : PySem.W.codeIn K cd_L_late "_law_late" = true)
    (k_L_late : PySem.W.keepIn K (.ref a_L_late) = true)
    (n_L_led : PySem.W.nsIn K mainGlobals "_law_led" = some (some (.ref a_L_led)))
    (l_L_led : K.lookup a_L_led = some ⟨oc_L_led, od_L_led, .func (PySem.W.fnOf "_law_led" "_law_led" (defArgs s_L_led) (defBody s_L_led) (defScope s_L_led) .none kV_L_led dc_L_led pm_L_led an_L_led cd_L_led ct_L_led), sl_L_led⟩)
    (c_L_led : PySem.W.codeIn K cd_L_led "_law_led" = true)
    (k_L_led : PySem.W.keepIn K (.ref a_L_led) = true)
    (n_L_any : PySem.W.nsIn K mainGlobals "_law_any" = some (some (.ref a_L_any)))
    (l_L_any : K.lookup a_L_any = some ⟨oc_L_any, od_L_any, .func (PySem.W.fnOf "_law_any" "_law_any" (defArgs s_L_any) (defBody s_L_any) (defScope s_L_any) .none kV_L_any dc_L_any pm_L_any an_L_any cd_L_any ct_L_any), sl_L_any⟩)
    (c_L_any : PySem.W.codeIn K cd_L_any "_law_any" = true)
    (k_L_any : PySem.W.keepIn K (.ref a_L_any) = true)
    (n_L_other : PySem.W.nsIn K mainGlobals "_law_other" = some (some (.ref a_L_other)))
    (l_L_other : K.lookup a_L_other = some ⟨oc_L_other, od_L_other, .func (PySem.W.fnOf "_law_other" "_law_other" (defArgs s_L_other) (defBody s_L_other) (defScope s_L_other) .none kV_L_other dc_L_other pm_L_other an_L_other cd_L_other ct_L_other), sl_L_other⟩)
    (c_L_other : PySem.W.codeIn K cd_L_other "_law_other" = true)
    (k_L_other : PySem.W.keepIn K (.ref a_L_other) = true)
    (n_L_walk : PySem.W.nsIn K mainGlobals "_law_walk" = some (some (.ref a_L_walk)))
    (l_L_walk : K.lookup a_L_walk = some ⟨oc_L_walk, od_L_walk, .func (PySem.W.fnOf "_law_walk" "_law_walk" (defArgs s_L_walk) (defBody s_L_walk) (defScope s_L_walk) .none kV_L_walk dc_L_walk pm_L_walk an_L_walk cd_L_walk ct_L_walk), sl_L_walk⟩)
    (c_L_walk : PySem.W.codeIn K cd_L_walk "_law_walk" = true)
    (k_L_walk : PySem.W.keepIn K (.ref a_L_walk) = true)
    (n_L_due : PySem.W.nsIn K mainGlobals "_law_due" = some (some (.ref a_L_due)))
    (l_L_due : K.lookup a_L_due = some ⟨oc_L_due, od_L_due, .func (PySem.W.fnOf "_law_due" "_law_due" (defArgs s_L_due) (defBody s_L_due) (defScope s_L_due) .none kV_L_due dc_L_due pm_L_due an_L_due cd_L_due ct_L_due), sl_L_due⟩)
    (c_L_due : PySem.W.codeIn K cd_L_due "_law_due" = true)
    (k_L_due : PySem.W.keepIn K (.ref a_L_due) = true)
    (n_is_entry : PySem.W.nsIn K mainGlobals "is_entry" = some (some (.ref a_is_entry)))
    (l_is_entry : K.lookup a_is_entry = some ⟨oc_is_entry, od_is_entry, .func (PySem.W.fnOf "is_entry" "is_entry" (defArgs s_is_entry) (defBody s_is_entry) (defScope s_is_entry) .none kV_is_entry dc_is_entry pm_is_entry an_is_entry cd_is_entry ct_is_entry), sl_is_entry⟩)
    (c_is_entry : PySem.W.codeIn K cd_is_entry "is_entry" = true)
    (k_is_entry : PySem.W.keepIn K (.ref a_is_entry) = true)
    (n_is_machine : PySem.W.nsIn K mainGlobals "is_machine" = some (some (.ref a_is_machine)))
    (l_is_machine : K.lookup a_is_machine = some ⟨oc_is_machine, od_is_machine, .func (PySem.W.fnOf "is_machine" "is_machine" (defArgs s_is_machine) (defBody s_is_machine) (defScope s_is_machine) .none kV_is_machine dc_is_machine pm_is_machine an_is_machine cd_is_machine ct_is_machine), sl_is_machine⟩)
    (c_is_machine : PySem.W.codeIn K cd_is_machine "is_machine" = true)
    (k_is_machine : PySem.W.keepIn K (.ref a_is_machine) = true)
    (n_must_machine : PySem.W.nsIn K mainGlobals "must_machine" = some (some (.ref a_must_machine)))
    (l_must_machine : K.lookup a_must_machine = some ⟨oc_must_machine, od_must_machine, .func (PySem.W.fnOf "must_machine" "must_machine" (defArgs s_must_machine) (defBody s_must_machine) (defScope s_must_machine) .none kV_must_machine dc_must_machine pm_must_machine an_must_machine cd_must_machine ct_must_machine), sl_must_machine⟩)
    (c_must_machine : PySem.W.codeIn K cd_must_machine "must_machine" = true)
    (k_must_machine : PySem.W.keepIn K (.ref a_must_machine) = true)
    (n_Goer_init : PySem.W.findIn K (.ref C_Goer) "__init__" = some (some (.ref a_Goer_init)))
    (i_Goer_init : PySem.W.isFn K (.ref a_Goer_init) = true)
    (l_Goer_init : K.lookup a_Goer_init = some ⟨oc_Goer_init, od_Goer_init, .func (PySem.W.fnOf "__init__" "Goer.__init__" (defArgs s_Goer_init) (defBody s_Goer_init) (defScope s_Goer_init) .none kV_Goer_init dc_Goer_init pm_Goer_init an_Goer_init cd_Goer_init ct_Goer_init), sl_Goer_init⟩)
    (c_Goer_init : PySem.W.codeIn K cd_Goer_init "Goer.__init__" = true)
    (k_Goer_init : PySem.W.keepIn K (.ref a_Goer_init) = true)
    (n_Goer_entry : PySem.W.findIn K (.ref C_Goer) "entry" = some (some (.ref a_Goer_entry)))
    (i_Goer_entry : PySem.W.isFn K (.ref a_Goer_entry) = true)
    (l_Goer_entry : K.lookup a_Goer_entry = some ⟨oc_Goer_entry, od_Goer_entry, .func (PySem.W.fnOf "entry" "Goer.entry" (defArgs s_Goer_entry) (defBody s_Goer_entry) (defScope s_Goer_entry) .none kV_Goer_entry dc_Goer_entry pm_Goer_entry an_Goer_entry cd_Goer_entry ct_Goer_entry), sl_Goer_entry⟩)
    (c_Goer_entry : PySem.W.codeIn K cd_Goer_entry "Goer.entry" = true)
    (k_Goer_entry : PySem.W.keepIn K (.ref a_Goer_entry) = true)
    (n_Goer_step : PySem.W.findIn K (.ref C_Goer) "step" = some (some (.ref a_Goer_step)))
    (i_Goer_step : PySem.W.isFn K (.ref a_Goer_step) = true)
    (l_Goer_step : K.lookup a_Goer_step = some ⟨oc_Goer_step, od_Goer_step, .func (PySem.W.fnOf "step" "Goer.step" (defArgs s_Goer_step) (defBody s_Goer_step) (defScope s_Goer_step) .none kV_Goer_step dc_Goer_step pm_Goer_step an_Goer_step cd_Goer_step ct_Goer_step), sl_Goer_step⟩)
    (c_Goer_step : PySem.W.codeIn K cd_Goer_step "Goer.step" = true)
    (k_Goer_step : PySem.W.keepIn K (.ref a_Goer_step) = true)
    (n_told_strip : PySem.W.nsIn K mainGlobals "told_strip" = some (some (.ref a_told_strip)))
    (l_told_strip : K.lookup a_told_strip = some ⟨oc_told_strip, od_told_strip, .func (PySem.W.fnOf "told_strip" "told_strip" (defArgs s_told_strip) (defBody s_told_strip) (defScope s_told_strip) .none kV_told_strip dc_told_strip pm_told_strip an_told_strip cd_told_strip ct_told_strip), sl_told_strip⟩)
    (c_told_strip : PySem.W.codeIn K cd_told_strip "told_strip" = true)
    (k_told_strip : PySem.W.keepIn K (.ref a_told_strip) = true)
    (n_Goer_setup : PySem.W.findIn K (.ref C_Goer) "setup" = some (some (.ref a_Goer_setup)))
    (i_Goer_setup : PySem.W.isFn K (.ref a_Goer_setup) = true)
    (l_Goer_setup : K.lookup a_Goer_setup = some ⟨oc_Goer_setup, od_Goer_setup, .func (PySem.W.fnOf "setup" "Goer.setup" (defArgs s_Goer_setup) (defBody s_Goer_setup) (defScope s_Goer_setup) .none kV_Goer_setup dc_Goer_setup pm_Goer_setup an_Goer_setup cd_Goer_setup ct_Goer_setup), sl_Goer_setup⟩)
    (c_Goer_setup : PySem.W.codeIn K cd_Goer_setup "Goer.setup" = true)
    (k_Goer_setup : PySem.W.keepIn K (.ref a_Goer_setup) = true)
    (n_parts_from : PySem.W.nsIn K mainGlobals "parts_from" = some (some (.ref a_parts_from)))
    (l_parts_from : K.lookup a_parts_from = some ⟨oc_parts_from, od_parts_from, .func (PySem.W.fnOf "parts_from" "parts_from" (defArgs s_parts_from) (defBody s_parts_from) (defScope s_parts_from) .none kV_parts_from dc_parts_from pm_parts_from an_parts_from cd_parts_from ct_parts_from), sl_parts_from⟩)
    (c_parts_from : PySem.W.codeIn K cd_parts_from "parts_from" = true)
    (k_parts_from : PySem.W.keepIn K (.ref a_parts_from) = true)
    (n_law : PySem.W.nsIn K mainGlobals "law" = some (some (.ref a_law)))
    (l_law : K.lookup a_law = some ⟨oc_law, od_law, .func (PySem.W.fnOf "law" "law" (defArgs s_law) (defBody s_law) (defScope s_law) .none kV_law dc_law pm_law an_law cd_law ct_law), sl_law⟩)
    (c_law : PySem.W.codeIn K cd_law "law" = true)
    (k_law : PySem.W.keepIn K (.ref a_law) = true)
    (pg_Goer : PySem.W.plainGet K C_Goer Str.empty = true)
    (hd_Goer : PySem.W.hasDictIn K C_Goer = true)
    (po_Goer : PySem.W.plainOver K C_Goer = true)
    (sa_Goer : PySem.W.findIn K (.ref C_Goer) "__setattr__" = some (some (.builtin "object.__setattr__")))
    (mk_Goer : PySem.W.makesIn K C_Goer = true)
    (kc_Goer : PySem.W.keepIn K (.ref C_Goer) = true)
    (f_Goer_table : PySem.W.findIn K (.ref C_Goer) "table" = some none)
    (f_Goer_row : PySem.W.findIn K (.ref C_Goer) "row" = some none)
    (f_Goer_spot : PySem.W.findIn K (.ref C_Goer) "spot" = some none)
    (f_Goer_signs : PySem.W.findIn K (.ref C_Goer) "signs" = some none)
    (f_Goer_steps : PySem.W.findIn K (.ref C_Goer) "steps" = some none)
    (n_MOST_ROWS : PySem.W.nsIn K mainGlobals "MOST_ROWS" = some (some (.int 4 tk_MOST_ROWS)))
    (n_MOST_SIGNS : PySem.W.nsIn K mainGlobals "MOST_SIGNS" = some (some (.int 4 tk_MOST_SIGNS)))
    (z_range : PySem.W.nsIn K mainGlobals "range" = some none)
    (z_len : PySem.W.nsIn K mainGlobals "len" = some none)
    (z_abs : PySem.W.nsIn K mainGlobals "abs" = some none)
    (z_list : PySem.W.nsIn K mainGlobals "list" = some none)
    (z_dict : PySem.W.nsIn K mainGlobals "dict" = some none)
    (z_all : PySem.W.nsIn K mainGlobals "all" = some none)
    (z_sorted : PySem.W.nsIn K mainGlobals "sorted" = some none)
    (z_max : PySem.W.nsIn K mainGlobals "max" = some none) :
    ∃ fd : FuncData, (∀ (s : Shared) (v : Value), BindsTo s fd ⟨[v], []⟩ [("_law_script", v)]) ∧ ∀ base : Heap, K.In base → base.Ns mainGlobals mg → FnOk l.prog w K mg base CX0 5 fa fd ["_law_script"] (sp_law K) :=
  all_mk X G hfa (all_tx X G n_NoMachine n_Goer n_L_mixed l_L_mixed c_L_mixed k_L_mixed n_L_purse l_L_purse c_L_purse k_L_purse n_L_draw l_L_draw c_L_draw k_L_draw n_L_machine l_L_machine c_L_machine k_L_machine n_L_late l_L_late c_L_late k_L_late n_L_led l_L_led c_L_led k_L_led n_L_any l_L_any c_L_any k_L_any n_L_other l_L_other c_L_other k_L_other n_L_walk l_L_walk c_L_walk k_L_walk n_L_due l_L_due c_L_due k_L_due n_is_entry l_is_entry c_is_entry k_is_entry n_is_machine l_is_machine c_is_machine k_is_machine n_must_machine l_must_machine c_must_machine k_must_machine n_Goer_init i_Goer_init l_Goer_init c_Goer_init k_Goer_init n_Goer_entry i_Goer_entry l_Goer_entry c_Goer_entry k_Goer_entry n_Goer_step i_Goer_step l_Goer_step c_Goer_step k_Goer_step n_told_strip l_told_strip c_told_strip k_told_strip n_Goer_setup i_Goer_setup l_Goer_setup c_Goer_setup k_Goer_setup n_parts_from l_parts_from c_parts_from k_parts_from n_law l_law c_law k_law pg_Goer hd_Goer po_Goer sa_Goer mk_Goer kc_Goer f_Goer_table f_Goer_row f_Goer_spot f_Goer_signs f_Goer_steps n_MOST_ROWS n_MOST_SIGNS z_range z_len z_abs z_list z_dict z_all z_sorted z_max) ⟨_, _, _, _, _, _, rfl⟩
end E
open PySem PySem.W PyProof.Rows
set_option maxRecDepth 100000 in
set_option maxHeartbeats 0 in
theorem PySem.Challenge.cw_endnever_k28_where_two_part_holds : PySem.Challenge.rw_endnever_k28_where_two_part.Holds := by
  w_on; o_law; k_head; (case hw => w_witness2)
  k_fill
  refine E.walk (l := PySem.Challenge.rw_endnever_k28_where_two_part) rfl rfl (fun w h Y => PySem.W.kIn_of Y) ?F
  case F =>
    intro w mg fa h KX G hmg
    refine' E.all_go KX G hmg ?n_NoMachine ?n_Goer ?n_L_mixed ?l_L_mixed ?c_L_mixed ?k_L_mixed ?n_L_purse ?l_L_purse ?c_L_purse ?k_L_purse ?n_L_draw ?l_L_draw ?c_L_draw ?k_L_draw ?n_L_machine ?l_L_machine ?c_L_machine ?k_L_machine ?n_L_late ?l_L_late ?c_L_late ?k_L_late ?n_L_led ?l_L_led ?c_L_led ?k_L_led ?n_L_any ?l_L_any ?c_L_any ?k_L_any ?n_L_other ?l_L_other ?c_L_other ?k_L_other ?n_L_walk ?l_L_walk ?c_L_walk ?k_L_walk ?n_L_due ?l_L_due ?c_L_due ?k_L_due ?n_is_entry ?l_is_entry ?c_is_entry ?k_is_entry ?n_is_machine ?l_is_machine ?c_is_machine ?k_is_machine ?n_must_machine ?l_must_machine ?c_must_machine ?k_must_machine ?n_Goer_init ?i_Goer_init ?l_Goer_init ?c_Goer_init ?k_Goer_init ?n_Goer_entry ?i_Goer_entry ?l_Goer_entry ?c_Goer_entry ?k_Goer_entry ?n_Goer_step ?i_Goer_step ?l_Goer_step ?c_Goer_step ?k_Goer_step ?n_told_strip ?l_told_strip ?c_told_strip ?k_told_strip ?n_Goer_setup ?i_Goer_setup ?l_Goer_setup ?c_Goer_setup ?k_Goer_setup ?n_parts_from ?l_parts_from ?c_parts_from ?k_parts_from ?n_law ?l_law ?c_law ?k_law ?pg_Goer ?hd_Goer ?po_Goer ?sa_Goer ?mk_Goer ?kc_Goer ?f_Goer_table ?f_Goer_row ?f_Goer_spot ?f_Goer_signs ?f_Goer_steps ?n_MOST_ROWS ?n_MOST_SIGNS ?z_range ?z_len ?z_abs ?z_list ?z_dict ?z_all ?z_sorted ?z_max
    (case n_NoMachine => k_is); (case n_Goer => k_is); (case n_L_mixed => k_is); (case l_L_mixed => k_is); (case c_L_mixed => k_is); (case k_L_mixed => k_is); (case n_L_purse => k_is); (case l_L_purse => k_is)
    (case c_L_purse => k_is); (case k_L_purse => k_is); (case n_L_draw => k_is); (case l_L_draw => k_is); (case c_L_draw => k_is); (case k_L_draw => k_is); (case n_L_machine => k_is); (case l_L_machine => k_is)
    (case c_L_machine => k_is); (case k_L_machine => k_is); (case n_L_late => k_is); (case l_L_late => k_is); (case c_L_late => k_is); (case k_L_late => k_is); (case n_L_led => k_is); (case l_L_led => k_is)
    (case c_L_led => k_is); (case k_L_led => k_is); (case n_L_any => k_is); (case l_L_any => k_is); (case c_L_any => k_is); (case k_L_any => k_is); (case n_L_other => k_is); (case l_L_other => k_is)
    (case c_L_other => k_is); (case k_L_other => k_is); (case n_L_walk => k_is); (case l_L_walk => k_is); (case c_L_walk => k_is); (case k_L_walk => k_is); (case n_L_due => k_is); (case l_L_due => k_is)
    (case c_L_due => k_is); (case k_L_due => k_is); (case n_is_entry => k_is); (case l_is_entry => k_is); (case c_is_entry => k_is); (case k_is_entry => k_is); (case n_is_machine => k_is); (case l_is_machine => k_is)
    (case c_is_machine => k_is); (case k_is_machine => k_is); (case n_must_machine => k_is); (case l_must_machine => k_is); (case c_must_machine => k_is); (case k_must_machine => k_is); (case n_Goer_init => k_is); (case i_Goer_init => k_is)
    (case l_Goer_init => k_is); (case c_Goer_init => k_is); (case k_Goer_init => k_is); (case n_Goer_entry => k_is); (case i_Goer_entry => k_is); (case l_Goer_entry => k_is); (case c_Goer_entry => k_is); (case k_Goer_entry => k_is)
    (case n_Goer_step => k_is); (case i_Goer_step => k_is); (case l_Goer_step => k_is); (case c_Goer_step => k_is); (case k_Goer_step => k_is); (case n_told_strip => k_is); (case l_told_strip => k_is); (case c_told_strip => k_is)
    (case k_told_strip => k_is); (case n_Goer_setup => k_is); (case i_Goer_setup => k_is); (case l_Goer_setup => k_is); (case c_Goer_setup => k_is); (case k_Goer_setup => k_is); (case n_parts_from => k_is); (case l_parts_from => k_is)
    (case c_parts_from => k_is); (case k_parts_from => k_is); (case n_law => k_is); (case l_law => k_is); (case c_law => k_is); (case k_law => k_is); (case pg_Goer => k_is); (case hd_Goer => k_is)
    (case po_Goer => k_is); (case sa_Goer => k_is); (case mk_Goer => k_is); (case kc_Goer => k_is); (case f_Goer_table => k_is); (case f_Goer_row => k_is); (case f_Goer_spot => k_is); (case f_Goer_signs => k_is)
    (case f_Goer_steps => k_is); (case n_MOST_ROWS => k_is); (case n_MOST_SIGNS => k_is); (case z_range => k_is); (case z_len => k_is); (case z_abs => k_is); (case z_list => k_is); (case z_dict => k_is)
    (case z_all => k_is); (case z_sorted => k_is); (case z_max => k_is)
#print axioms PySem.Challenge.cw_endnever_k28_where_two_part_holds
