import PyProof.Rows.All
import Wide.All
import OpenK.AllK
import Wide.FinOn
import HandS.ForMost
import HandS.SortRule
import HandS.IsInst
import HandS.TupAny
import HandS.TupMul
import HandS.Walk
import HandS.More
import HandS.ListItems
import HandS.Wide
import KE.KTupSum
import HandS.Style
import HandS.Deep
import KE.KDictKeyed
import KE.KeyNested
import PySem.Challenge.RW_endnever_k70_blocks_gone_through
set_option Elab.async false
set_option maxRecDepth 100000
set_option maxHeartbeats 4000000
namespace E
open PySem L2
/-! ### small words of our own -/
theorem inr_int {x : V} {ns : List Int} {i : Nat} (h : (ns.map V.int)[i]? = some x) : ∃ z, x = V.int z ∧ ns[i]? = some z := by
  rw [List.getElem?_map] at h
  cases e : ns[i]? with
  | none => rw [e] at h; cases h
  | some z => rw [e] at h; exact ⟨z, (Option.some.inj h).symm, rfl⟩
/-- F stands in H, whatever comes to it -/
theorem sm_new {F H : Hp} {p : Addr} {o : HO} (s : Same F H) (n : H p = Option.none) : Same F (upd H p o) := fun b u e => by
  rw [upd_ne (ne_of_none (s b u e) n)]
  exact s b u e
theorem sm_set {F H : Hp} {p : Addr} {o : HO} (s : Same F H) (n : F p = Option.none) : Same F (upd H p o) := fun b u e => by
  rw [upd_ne (ne_of_none e n)]
  exact s b u e
theorem sm_up {H : Hp} {p : Addr} {o : HO} (n : H p = none) : Same H (upd H p o) := sm_new (Same.refl H) n
theorem cut_63 {ns : List Int} (h : ns.length ≤ 63) : cutV (ns.map V.int) none (some 63) = ns.map V.int := by
  unfold cutV
  have e1 : HT.sIx (ns.map V.int).length 0 none = 0 := rfl
  have e2 : HT.sIx (ns.map V.int).length (ns.map V.int).length (some 63) = (ns.map V.int).length := by
    simp only [HT.sIx, List.length_map]
    rw [if_neg (by decide), show (63 : Int).toNat = 63 from rfl]
    omega
  rw [e1, e2, List.drop_zero, Nat.sub_zero, List.take_length]
theorem ifT {c : Bool} {A B : Prop} (h : c = true) (a : A) : if c = true then A else B := by
  rw [if_pos h]; exact a
theorem ifF {c : Bool} {A B : Prop} (h : c = false) (b : B) : if c = true then A else B := by
  rw [h, if_neg Bool.false_ne_true]; exact b
theorem one_le : 1 ≤ sizeLine := by decide
theorem two_le : 2 ≤ sizeLine := by decide
theorem three_le : 3 ≤ sizeLine := by decide
theorem five_le : 5 ≤ sizeLine := by decide
theorem nil_le : 0 ≤ sizeLine := by decide
theorem lt_size {n : Nat} (h : n ≤ 1000000) : n < sizeLine := Nat.lt_of_le_of_lt h (by decide)
theorem le_size {n : Nat} (h : n ≤ 1000000) : n ≤ sizeLine := Nat.le_of_lt (lt_size h)
theorem pi_listK {X : Cx} {K : PySem.W.Frag} {tg l : Expr} {tl : TE} (e : X.K = K) (h : PE X l tl) : PI X tg l (iList K tl) := by
  subst e; exact pi_list h
theorem pi_tupK {X : Cx} {K : PySem.W.Frag} {tg l : Expr} {tl : TE} (e : X.K = K) (h : PE X l tl) : PI X tg l (iTup K tl) := by
  subst e; exact pi_tup h
theorem crK {X : Cx} {K : PySem.W.Frag} {f : Value} {r : PySem.W.Frag → List V → Hp → VK → Prop} (e : X.K = K) (h : CallR X f (r X.K)) : CallR X f (r K) := by
  subst e; exact h
theorem orK {X : Cx} {K : PySem.W.Frag} {f : Value → Value → Sem Value} {r : PySem.W.Frag → R2} (e : X.K = K) (h : OpR X f (r X.K)) : OpR X f (r K) := by
  subst e; exact h
theorem ixK {X : Cx} {K : PySem.W.Frag} {r : PySem.W.Frag → R2} (e : X.K = K) (h : IxR X (r X.K)) : IxR X (r K) := by
  subst e; exact h
theorem slK {X : Cx} {K : PySem.W.Frag} {r : PySem.W.Frag → V → Option Int → Option Int → Hp → VK → Prop} (e : X.K = K) (h : SlR X (r X.K)) : SlR X (r K) := by
  subst e; exact h
def rLenQ (K : PySem.W.Frag) : List V → Hp → VK → Prop := fun xs H Q => ∃ p ys, xs = [.ref p] ∧ (SqL K H p ys ∨ SqT K H p ys) ∧ Q (.int ys.length) H
def rListQ (K : PySem.W.Frag) : List V → Hp → VK → Prop := fun xs H Q => ∃ p ys, xs = [.ref p] ∧ (SqL K H p ys ∨ SqT K H p ys) ∧ ∀ l, H l = none → Q (.ref l) (upd H l (.lst ys))
def rTupQ (K : PySem.W.Frag) : List V → Hp → VK → Prop := fun xs H Q => ∃ p ys, xs = [.ref p] ∧ ((SqL K H p ys ∧ ∀ l, H l = none → Q (.ref l) (upd H l (.tup ys))) ∨ (SqT K H p ys ∧ Q (.ref p) H))
theorem ne_of_none' {F H : Hp} {q : Addr} (s : Same F H) (n : H q = none) : F q = none := s.free n
/-- a comprehension without a test: its item comes in -/
theorem yes {σ : St} {H : Hp} {A : Hp → Prop} {B : Hp → Prop} (a : A H) : tYes σ H (fun b H3 => if b = true then A H3 else B H3) := by
  show if true = true then A H else B H
  rw [if_pos rfl]; exact a
theorem call_lenQ {X : Cx} : CallR X (.builtin "len") (rLenQ X.K) := call_len_seq
theorem call_listQ {X : Cx} : CallR X (.type "list") (rListQ X.K) := call_list_of
theorem call_tupQ {X : Cx} : CallR X (.type "tuple") (rTupQ X.K) := call_tuple_of
@[irreducible] def rDictP (K : PySem.W.Frag) : List V → Hp → VK → Prop := fun xs H Q => ∃ (a : Addr) (ps : List Addr) (kvs : List (Key × V)), xs = [.ref a] ∧ SqL K H a (ps.map V.ref) ∧ Paired (fun p kv => SqT K H p [kV kv.1, kv.2]) ps kvs ∧ ∀ p, H p = none → Q (.ref p) (upd H p (.dK (mergeK [] kvs)))
theorem call_dictQ {X : Cx} (hc : X.calm = true) : CallR X (.type "dict") (rDictP X.K) := by
  unfold rDictP
  exact call_dictP hc
@[irreducible] def rSortQ (K : PySem.W.Frag) : List V → Hp → VK → Prop := rSortedPO K
theorem call_sortQ {X : Cx} : CallR X (.builtin "sorted") (rSortQ X.K) := by
  unfold rSortQ
  exact cr_sortedPO
theorem pg_tupK {X : Cx} {K : PySem.W.Frag} {es : List Expr} {k n : Nat} {t : TGs} {pos : Pos} (e : X.K = K) (hc : X.calm = true) (h : PGs X es t) (hn : (assignEach es X.env).length = n := by rfl) (hst : (assignEach es X.env).findIdx? (·.1) = none := by rfl) : PG X (.Tuple es k pos) (gTup K n t) := by
  subst e; exact pg_tup hc h hn hst
theorem pe_fldK {X : Cx} {K : PySem.W.Frag} {e : Expr} {f : Str} {pos : Pos} {ta : TE} (ek : X.K = K) (he : PE X e ta) (hb : attributeBase e f X.env (eval e X.env) = eval e X.env) : PE X (.Attribute e f pos) (tFld K ta f) := by
  subst ek; exact pe_fld he hb
/-! ### what stands, what is new: F the frozen part (nobody changes it), H the heap; from F, H to F', H' with changes at mu alone -/
structure Gr (mu : Addr → Prop) (F H F' H' : Hp) : Prop where
  ff : Same F F'
  fh : Same F' H'
  nw : ∀ c o, F' c = some o → F c = some o ∨ H c = none
  fr : ∀ c o, H c = some o → ¬ mu c → H' c = some o
  th : ∀ c, H' c = none → H c = none
/-- nothing but new things -/
abbrev mu0 : Addr → Prop := fun _ => False
/-- the purse alone -/
abbrev muP (p : Addr) : Addr → Prop := fun c => c = p
section
variable {mu : Addr → Prop} {F H F1 H1 F2 H2 : Hp} {q : Addr} {o u : HO}
theorem Gr.refl (s : Same F H) : Gr mu F H F H := ⟨fun _ _ h => h, s, fun _ _ h => .inl h, fun _ _ h _ => h, fun _ h => h⟩
theorem Gr.trans (a : Gr mu F H F1 H1) (b : Gr mu F1 H1 F2 H2) : Gr mu F H F2 H2 where
  ff := fun c o h => b.ff c o (a.ff c o h)
  fh := b.fh
  nw := fun c o h => by
    rcases b.nw c o h with h | h
    · exact a.nw c o h
    · exact .inr (a.th c h)
  fr := fun c o h m => b.fr c o (a.fr c o h m) m
  th := fun c h => a.th c (b.th c h)
/-- a part that changes what is ours, or what mu has -/
theorem Gr.thn {mu' : Addr → Prop} (a : Gr mu F H F1 H1) (b : Gr mu' F1 H1 F2 H2) (k : ∀ c, mu' c → mu c ∨ H c = none) : Gr mu F H F2 H2 where
  ff := fun c o h => b.ff c o (a.ff c o h)
  fh := b.fh
  nw := fun c o h => by
    rcases b.nw c o h with h | h
    · exact a.nw c o h
    · exact .inr (a.th c h)
  fr := fun c o h m => b.fr c o (a.fr c o h m) fun z => (k c z).elim m fun n => by rw [n] at h; cases h
  th := fun c h => a.th c (b.th c h)
theorem Gr.weak {mu' : Addr → Prop} (a : Gr mu F H F1 H1) (m : ∀ c, mu c → mu' c) : Gr mu' F H F1 H1 :=
  ⟨a.ff, a.fh, a.nw, fun c o h n => a.fr c o h fun z => n (m c z), a.th⟩
theorem Gr.of0 (a : Gr mu0 F H F1 H1) : Gr mu F H F1 H1 := a.weak fun _ z => z.elim
/-- a new thing that nobody will change -/
theorem Gr.new (a : Gr mu F H F1 H1) (n : H1 q = none) : Gr mu F H (upd F1 q o) (upd H1 q o) where
  ff := fun c o h => by
    rw [upd_ne (ne_of_none (a.fh c o (a.ff c o h)) n)]
    exact a.ff c o h
  fh := fun c u h => by
    by_cases e : c = q
    · subst e; rw [upd_same] at h ⊢; exact h
    · rw [upd_ne e] at h ⊢; exact a.fh c u h
  nw := fun c u h => by
    by_cases e : c = q
    · subst e; exact .inr (a.th _ n)
    · rw [upd_ne e] at h; exact a.nw c u h
  fr := fun c u h m => by
    rw [upd_ne (ne_of_none (a.fr c u h m) n)]
    exact a.fr c u h m
  th := fun c h => by
    by_cases e : c = q
    · subst e; rw [upd_same] at h; cases h
    · rw [upd_ne e] at h; exact a.th c h
/-- a new thing that may be changed yet -/
theorem Gr.own (a : Gr mu F H F1 H1) (n : H1 q = none) : Gr mu F H F1 (upd H1 q o) where
  ff := a.ff
  fh := fun c u h => by
    rw [upd_ne (ne_of_none (a.fh c u h) n)]
    exact a.fh c u h
  nw := a.nw
  fr := fun c u h m => by
    rw [upd_ne (ne_of_none (a.fr c u h m) n)]
    exact a.fr c u h m
  th := fun c h => by
    by_cases e : c = q
    · subst e; rw [upd_same] at h; cases h
    · rw [upd_ne e] at h; exact a.th c h
/-- a change of what is ours, and not frozen -/
theorem Gr.set (a : Gr mu F H F1 H1) (f : F1 q = none) (m : H q = none ∨ mu q) : Gr mu F H F1 (upd H1 q o) where
  ff := a.ff
  fh := fun c u h => by
    rw [upd_ne (ne_of_none h f)]
    exact a.fh c u h
  nw := a.nw
  fr := fun c u h k => by
    have e : c ≠ q := by
      rintro rfl
      rcases m with m | m
      · rw [m] at h; cases h
      · exact k m
    rw [upd_ne e]
    exact a.fr c u h k
  th := fun c h => by
    by_cases e : c = q
    · subst e; rw [upd_same] at h; cases h
    · rw [upd_ne e] at h; exact a.th c h
/-- what was ours is changed no more -/
theorem Gr.frz (a : Gr mu F H F1 H1) (h : H1 q = some o) (n : H q = none) (f : F1 q = none) : Gr mu F H (upd F1 q o) H1 where
  ff := fun c u e => by
    rw [upd_ne (ne_of_none (a.ff c u e) f)]
    exact a.ff c u e
  fh := fun c u e => by
    by_cases k : c = q
    · subst k; rw [upd_same] at e; cases e; exact h
    · rw [upd_ne k] at e; exact a.fh c u e
  nw := fun c u e => by
    by_cases k : c = q
    · subst k; exact .inr n
    · rw [upd_ne k] at e; exact a.nw c u e
  fr := a.fr
  th := a.th
theorem Gr.free (a : Gr mu F H F1 H1) (n : H1 q = none) : F1 q = none := a.fh.free n
end
/-- an owned thing: new since H, not frozen, it is o now -/
structure Ow (H F H1 : Hp) (q : Addr) (o : HO) : Prop where
  n : H q = none
  f : F q = none
  h : H1 q = some o
section
variable {mu mu' : Addr → Prop} {H0 F H F1 H1 : Hp} {q r : Addr} {o u : HO}
theorem Ow.call (w : Ow H0 F H q o) (a : Gr mu F H F1 H1) (m : ¬ mu q) : Ow H0 F1 H1 q o :=
  ⟨w.n, (by
    cases e : F1 q with
    | none => rfl
    | some z =>
      rcases a.nw q z e with k | k
      · rw [w.f] at k; cases k
      · rw [w.h] at k; cases k), a.fr q o w.h m⟩
theorem Ow.ne (w : Ow H0 F H q o) (n : H r = none) : q ≠ r := ne_of_none w.h n
theorem Ow.new (w : Ow H0 F H q o) (n : H r = none) : Ow H0 (upd F r u) (upd H r u) q o :=
  ⟨w.n, by rw [upd_ne (w.ne n)]; exact w.f, by rw [upd_ne (w.ne n)]; exact w.h⟩
theorem Ow.own (w : Ow H0 F H q o) (n : H r = none) : Ow H0 F (upd H r u) q o :=
  ⟨w.n, w.f, by rw [upd_ne (w.ne n)]; exact w.h⟩
theorem Ow.mk1 (a : Gr mu H0' H0 F H) (n : H q = none) : Ow H0 F (upd H q o) q o := ⟨a.th q n, a.free n, upd_same⟩
theorem Ow.set (w : Ow H0 F H q o) : Ow H0 F (upd H q u) q u := ⟨w.n, w.f, upd_same⟩
theorem Ow.other (w : Ow H0 F H q o) (e : q ≠ r) : Ow H0 F (upd H r u) q o := ⟨w.n, w.f, by rw [upd_ne e]; exact w.h⟩
end
/-! ### what stands for a datum -/
def All2 {α β : Type} (r : α → β → Prop) (xs : List α) (ys : List β) : Prop := xs.length = ys.length ∧ ∀ (i : Nat) (x : α) (y : β), xs[i]? = some x → ys[i]? = some y → r x y
section
variable {α β : Type} {r s : α → β → Prop} {xs xs' : List α} {ys ys' : List β}
theorem All2.nil : All2 r [] [] := ⟨rfl, fun i x y h => by simp at h⟩
theorem All2.get (a : All2 r xs ys) {i : Nat} {y : β} (h : ys[i]? = some y) : ∃ x, xs[i]? = some x ∧ r x y := by
  have l := (List.getElem?_eq_some_iff.mp h).1
  have l' : i < xs.length := by rw [a.1]; exact l
  exact ⟨xs[i], List.getElem?_eq_getElem l', a.2 i _ y (List.getElem?_eq_getElem l') h⟩
theorem All2.get' (a : All2 r xs ys) {i : Nat} {x : α} (h : xs[i]? = some x) : ∃ y, ys[i]? = some y ∧ r x y := by
  have l := (List.getElem?_eq_some_iff.mp h).1
  have l' : i < ys.length := by rw [← a.1]; exact l
  exact ⟨ys[i], List.getElem?_eq_getElem l', a.2 i x _ h (List.getElem?_eq_getElem l')⟩
theorem All2.imp (a : All2 r xs ys) (f : ∀ x y, r x y → s x y) : All2 s xs ys := ⟨a.1, fun i x y h k => f x y (a.2 i x y h k)⟩
theorem All2.app (a : All2 r xs ys) (b : All2 r xs' ys') : All2 r (xs ++ xs') (ys ++ ys') := by
  refine ⟨by rw [List.length_append, List.length_append, a.1, b.1], fun i x y h k => ?_⟩
  by_cases l : i < xs.length
  · rw [List.getElem?_append_left l] at h
    rw [List.getElem?_append_left (by rw [← a.1]; exact l)] at k
    exact a.2 i x y h k
  · rw [List.getElem?_append_right (by omega)] at h
    rw [List.getElem?_append_right (by rw [← a.1]; omega), ← a.1] at k
    exact b.2 _ x y h k
theorem All2.one {x : α} {y : β} (h : r x y) : All2 r [x] [y] := ⟨rfl, fun i a b p q => by
  cases i with
  | zero => simp at p q; subst p; subst q; exact h
  | succ n => simp at p⟩
theorem All2.cons {x : α} {y : β} (h : r x y) (a : All2 r xs ys) : All2 r (x :: xs) (y :: ys) := (All2.one h).app a
theorem All2.set (a : All2 r xs ys) {x : α} {y : β} (h : r x y) (j : Nat) : All2 r (xs.set j x) (ys.set j y) := by
  refine ⟨by rw [List.length_set, List.length_set]; exact a.1, fun i u v p q => ?_⟩
  by_cases e : j = i
  · subst e
    rw [List.getElem?_set_self'] at p q
    cases e1 : xs[j]? with
    | none => rw [e1] at p; cases p
    | some z =>
      cases e2 : ys[j]? with
      | none => rw [e2] at q; cases q
      | some z2 =>
        rw [e1] at p; rw [e2] at q
        cases p; cases q
        exact h
  · rw [List.getElem?_set_ne e] at p q
    exact a.2 i u v p q
theorem All2.take (a : All2 r xs ys) (n : Nat) : All2 r (xs.take n) (ys.take n) := by
  refine ⟨by rw [List.length_take, List.length_take, a.1], fun i u v p q => ?_⟩
  rw [List.getElem?_take] at p q
  split at p
  · rw [if_pos (by assumption)] at q; exact a.2 i u v p q
  · cases p
theorem All2.drop (a : All2 r xs ys) (n : Nat) : All2 r (xs.drop n) (ys.drop n) := by
  refine ⟨by rw [List.length_drop, List.length_drop, a.1], fun i u v p q => ?_⟩
  rw [List.getElem?_drop] at p q
  exact a.2 _ u v p q
end
class Dat (α : Type) where
  rep : Hp → V → α → Prop
  mono : ∀ {H H' : Hp} {v : V} {d : α}, Same H H' → rep H v d → rep H' v d
  py : α → PyData
  dp : ∀ {K : PySem.W.Frag} {H : Hp} {v : V} {d : α}, rep H v d → Dp K H v (py d)
  can : ∀ d, (py d).canLay0 = true
  dep : Nat
  depth : ∀ d, (py d).depth ≤ dep
  eqv : ∀ a b, PyData.eqv (py a) (py b) = true ↔ a = b
section
variable {α β γ : Type}
/-- v stands for d in H -/
abbrev Is [Dat α] (H : Hp) (v : V) (d : α) : Prop := Dat.rep H v d
theorem Is.up [Dat α] {H H' : Hp} {v : V} {d : α} (h : Is H v d) (s : Same H H') : Is H' v d := Dat.mono s h
abbrev IsAll [Dat α] (H : Hp) (xs : List V) (ds : List α) : Prop := All2 (fun v d => Is H v d) xs ds
theorem IsAll.up [Dat α] {H H' : Hp} {xs : List V} {ds : List α} (h : IsAll H xs ds) (s : Same H H') : IsAll H' xs ds := h.imp fun _ _ z => Is.up z s
theorem dp_all [Dat α] {K : PySem.W.Frag} {H : Hp} : ∀ {xs : List V} {ds : List α}, IsAll H xs ds → DpAll K H xs (ds.map Dat.py)
  | [], [], _ => .nil
  | [], d :: ds, h => by have := h.1; simp at this
  | x :: xs, [], h => by have := h.1; simp at this
  | x :: xs, d :: ds, h => .cons (Dat.dp (h.2 0 x d rfl rfl)) (dp_all ⟨by have := h.1; simpa using this, fun i a b p q => h.2 (i + 1) a b (by simpa using p) (by simpa using q)⟩)
theorem can_all [Dat α] : ∀ ds : List α, PyData.canLayAll0 (ds.map Dat.py) = true
  | [] => rfl
  | d :: ds => by
    show (PyData.canLay0 (Dat.py d) && PyData.canLayAll0 (ds.map Dat.py)) = true
    rw [Dat.can, can_all ds]; rfl
theorem depth_all [Dat α] : ∀ ds : List α, PyData.depthAll (ds.map Dat.py) ≤ Dat.dep α
  | [] => Nat.zero_le _
  | d :: ds => by
    show max (PyData.depth (Dat.py d)) (PyData.depthAll (ds.map Dat.py)) ≤ _
    exact Nat.max_le.mpr ⟨Dat.depth d, depth_all ds⟩
theorem eqv_all [Dat α] : ∀ a b : List α, PyData.eqvAll (a.map Dat.py) (b.map Dat.py) = true ↔ a = b
  | [], [] => by simp [PyData.eqvAll]
  | [], _ :: _ => by simp [PyData.eqvAll]
  | _ :: _, [] => by simp [PyData.eqvAll]
  | x :: xs, y :: ys => by
    rw [List.map_cons, List.map_cons, PyData.eqvAll, Bool.and_eq_true, Dat.eqv, eqv_all xs ys, List.cons.injEq]
instance : Dat Int where
  rep := fun _ v i => v = .int i
  mono := fun _ h => h
  py := .int
  dp := fun h => h ▸ .int _
  can := fun _ => rfl
  dep := 0
  depth := fun _ => Nat.le_refl _
  eqv := fun a b => by simp [PyData.eqv]
instance : Dat Bool where
  rep := fun _ v i => v = .bl i
  mono := fun _ h => h
  py := .bool
  dp := fun h => h ▸ .bl _
  can := fun _ => rfl
  dep := 0
  depth := fun _ => Nat.le_refl _
  eqv := fun a b => by simp [PyData.eqv]
/-- a list of data -/
instance [Dat α] : Dat (List α) where
  rep := fun H v l => ∃ a xs, v = .ref a ∧ H a = some (.lst xs) ∧ IsAll H xs l
  mono := fun s h => by
    obtain ⟨a, xs, e, h, i⟩ := h
    exact ⟨a, xs, e, s _ _ h, IsAll.up i s⟩
  py := fun l => .list (l.map Dat.py)
  dp := fun h => by
    obtain ⟨a, xs, rfl, h, i⟩ := h
    exact .lst (SqL.of h) (dp_all i)
  can := fun d => can_all d
  dep := Dat.dep α + 1
  depth := fun d => Nat.succ_le_succ (depth_all d)
  eqv := fun a b => by rw [PyData.eqv]; exact eqv_all a b
/-- a tuple of data of one kind -/
structure Tup (α : Type) where
  l : List α
  deriving DecidableEq
instance [Dat α] : Dat (Tup α) where
  rep := fun H v l => ∃ a xs, v = .ref a ∧ H a = some (.tup xs) ∧ IsAll H xs l.l
  mono := fun s h => by
    obtain ⟨a, xs, e, h, i⟩ := h
    exact ⟨a, xs, e, s _ _ h, IsAll.up i s⟩
  py := fun l => .tuple (l.l.map Dat.py)
  dp := fun h => by
    obtain ⟨a, xs, rfl, h, i⟩ := h
    exact .tup (SqT.of h) (dp_all i)
  can := fun d => can_all d.l
  dep := Dat.dep α + 1
  depth := fun d => Nat.succ_le_succ (depth_all d.l)
  eqv := fun a b => by
    rw [PyData.eqv, eqv_all]
    obtain ⟨a⟩ := a; obtain ⟨b⟩ := b
    simp
/-- a pair; a triple -/
structure T2 (α β : Type) where
  a : α
  b : β
  deriving DecidableEq
structure T3 (α β γ : Type) where
  a : α
  b : β
  c : γ
  deriving DecidableEq
instance [Dat α] [Dat β] : Dat (T2 α β) where
  rep := fun H v d => ∃ p x y, v = .ref p ∧ H p = some (.tup [x, y]) ∧ Is H x d.a ∧ Is H y d.b
  mono := fun s h => by
    obtain ⟨p, x, y, e, h, i, j⟩ := h
    exact ⟨p, x, y, e, s _ _ h, Is.up i s, Is.up j s⟩
  py := fun d => .tuple [Dat.py d.a, Dat.py d.b]
  dp := fun h => by
    obtain ⟨p, x, y, rfl, h, i, j⟩ := h
    exact .tup (SqT.of h) (.cons (Dat.dp i) (.cons (Dat.dp j) .nil))
  can := fun d => by
    show (PyData.canLay0 (Dat.py d.a) && (PyData.canLay0 (Dat.py d.b) && true)) = true
    rw [Dat.can, Dat.can]; rfl
  dep := max (Dat.dep α) (Dat.dep β) + 1
  depth := fun d => by
    have h1 := Dat.depth d.a
    have h2 := Dat.depth d.b
    show max (PyData.depth (Dat.py d.a)) (max (PyData.depth (Dat.py d.b)) 0) + 1 ≤ _
    omega
  eqv := fun a b => by
    obtain ⟨a, a'⟩ := a; obtain ⟨b, b'⟩ := b
    simp [PyData.eqv, PyData.eqvAll, Dat.eqv]
instance [Dat α] [Dat β] [Dat γ] : Dat (T3 α β γ) where
  rep := fun H v d => ∃ p x y z, v = .ref p ∧ H p = some (.tup [x, y, z]) ∧ Is H x d.a ∧ Is H y d.b ∧ Is H z d.c
  mono := fun s h => by
    obtain ⟨p, x, y, z, e, h, i, j, k⟩ := h
    exact ⟨p, x, y, z, e, s _ _ h, Is.up i s, Is.up j s, Is.up k s⟩
  py := fun d => .tuple [Dat.py d.a, Dat.py d.b, Dat.py d.c]
  dp := fun h => by
    obtain ⟨p, x, y, z, rfl, h, i, j, k⟩ := h
    exact .tup (SqT.of h) (.cons (Dat.dp i) (.cons (Dat.dp j) (.cons (Dat.dp k) .nil)))
  can := fun d => by
    show (PyData.canLay0 (Dat.py d.a) && (PyData.canLay0 (Dat.py d.b) && (PyData.canLay0 (Dat.py d.c) && true))) = true
    rw [Dat.can, Dat.can, Dat.can]; rfl
  dep := max (Dat.dep α) (max (Dat.dep β) (Dat.dep γ)) + 1
  depth := fun d => by
    have h1 := Dat.depth d.a
    have h2 := Dat.depth d.b
    have h3 := Dat.depth d.c
    show max (PyData.depth (Dat.py d.a)) (max (PyData.depth (Dat.py d.b)) (max (PyData.depth (Dat.py d.c)) 0)) + 1 ≤ _
    omega
  eqv := fun a b => by
    obtain ⟨a, a', a''⟩ := a; obtain ⟨b, b', b''⟩ := b
    simp [PyData.eqv, PyData.eqvAll, Dat.eqv]
/-- None, or a datum that is a tuple or a list -/
class Big (α : Type) [Dat α] : Prop where
  big : ∀ d : α, (∃ l, Dat.py d = .tuple l) ∨ ∃ l, Dat.py d = .list l
instance [Dat α] : Big (List α) := ⟨fun d => .inr ⟨_, rfl⟩⟩
instance [Dat α] : Big (Tup α) := ⟨fun d => .inl ⟨_, rfl⟩⟩
instance [Dat α] [Dat β] : Big (T2 α β) := ⟨fun d => .inl ⟨_, rfl⟩⟩
instance [Dat α] [Dat β] [Dat γ] : Big (T3 α β γ) := ⟨fun d => .inl ⟨_, rfl⟩⟩
instance [Dat α] [Big α] : Dat (Option α) where
  rep := fun H v d => match d with
    | none => v = .non
    | some d => Is H v d
  mono := fun {H H' v d} s h => by
    cases d with
    | none => exact h
    | some d => exact Is.up (show Is H v d from h) s
  py := fun d => match d with
    | none => .none
    | some d => Dat.py d
  dp := fun {K H v d} h => by
    cases d with
    | none => cases h; exact .non
    | some d => exact Dat.dp (show Is H v d from h)
  can := fun d => by
    cases d with
    | none => rfl
    | some d => exact Dat.can d
  dep := Dat.dep α
  depth := fun d => by
    cases d with
    | none => exact Nat.zero_le _
    | some d => exact Dat.depth d
  eqv := fun a b => by
    cases a with
    | none =>
      cases b with
      | none => exact ⟨fun _ => rfl, fun _ => rfl⟩
      | some b =>
        refine ⟨fun h => ?_, fun h => nomatch h⟩
        have h : PyData.eqv .none (Dat.py b) = true := h
        rcases Big.big b with ⟨l, e⟩ | ⟨l, e⟩ <;> (rw [e] at h; simp only [PyData.eqv] at h; cases h)
    | some a =>
      cases b with
      | none =>
        refine ⟨fun h => ?_, fun h => nomatch h⟩
        have h : PyData.eqv (Dat.py a) .none = true := h
        rcases Big.big a with ⟨l, e⟩ | ⟨l, e⟩ <;> (rw [e] at h; simp only [PyData.eqv] at h; cases h)
      | some b =>
        show PyData.eqv (Dat.py a) (Dat.py b) = true ↔ _
        rw [Dat.eqv, Option.some.injEq]
end
/-- == and != of data -/
theorem eq_dat0 {α : Type} [Dat α] [DecidableEq α] {a b : α} (hd : Dat.dep α ≤ 64) : SeqAt.shaped (Dat.py a) = true ∧ SeqAt.shaped (Dat.py b) = true ∧ PyData.eqv (Dat.py a) (Dat.py b) = decide (a = b) := by
  refine ⟨?_, ?_, ?_⟩
  · show (PyData.canLay0 _ && decide _) = true
    rw [Dat.can, decide_eq_true (Nat.le_trans (Dat.depth a) hd)]; rfl
  · show (PyData.canLay0 _ && decide _) = true
    rw [Dat.can, decide_eq_true (Nat.le_trans (Dat.depth b) hd)]; rfl
  · rw [Bool.eq_iff_iff, Dat.eqv, decide_eq_true_iff]
theorem eq_dat {α : Type} [Dat α] [DecidableEq α] {K : PySem.W.Frag} {H : Hp} {x y : V} {a b : α} {Q : VK} (ha : Is H x a) (hb : Is H y b) (q : Q (.bl (decide (a = b))) H) (hd : Dat.dep α ≤ 64 := by decide) : rEqD K x y H Q := by
  obtain ⟨h1, h2, h3⟩ := eq_dat0 (a := a) (b := b) hd
  exact ⟨Dat.py a, Dat.py b, Dat.dp ha, Dat.dp hb, h1, h2, by rw [h3]; exact q⟩
theorem ne_dat {α : Type} [Dat α] [DecidableEq α] {K : PySem.W.Frag} {H : Hp} {x y : V} {a b : α} {Q : VK} (ha : Is H x a) (hb : Is H y b) (q : Q (.bl (!decide (a = b))) H) (hd : Dat.dep α ≤ 64 := by decide) : rNeD K x y H Q := by
  obtain ⟨h1, h2, h3⟩ := eq_dat0 (a := a) (b := b) hd
  exact ⟨Dat.py a, Dat.py b, Dat.dp ha, Dat.dp hb, h1, h2, by rw [h3]; exact q⟩
/-! ### machines -/
/-- an entry -/
inductive Ent where
  | emp
  | go (put way row : Int)
  deriving DecidableEq
def entO : Ent → HO
  | .emp => .tup []
  | .go p w r => .tup [.int p, .int w, .int r]
def entP : Ent → PyData
  | .emp => .tuple []
  | .go p w r => .tuple [.int p, .int w, .int r]
instance : Dat Ent where
  rep := fun H v e => ∃ a, v = .ref a ∧ H a = some (entO e)
  mono := fun s h => by obtain ⟨a, e, h⟩ := h; exact ⟨a, e, s _ _ h⟩
  py := entP
  dp := fun {K H v d} h => by
    obtain ⟨a, rfl, h⟩ := h
    cases d with
    | emp => exact .tup (SqT.of h) .nil
    | go p w r => exact .tup (SqT.of h) (.cons (.int _) (.cons (.int _) (.cons (.int _) .nil)))
  can := fun d => by cases d <;> rfl
  dep := 1
  depth := fun d => by cases d <;> simp [entP, PyData.depth, PyData.depthAll]
  eqv := fun a b => by cases a <;> cases b <;> simp [entP, PyData.eqv, PyData.eqvAll]
instance : Big Ent := ⟨fun d => by cases d <;> exact .inl ⟨_, rfl⟩⟩
abbrev Mach := List (List Ent)
/-! ### pairs of ints: a dict's items, sorted ones -/
abbrev PI := T2 Int Int
def dI (l : List PI) : List (Key × V) := l.map fun p => (Sum.inl p.a, V.int p.b)
def look (l : List PI) (x : Int) : Option Int := (l.find? fun p => decide (p.a = x)).map (·.b)
def put (l : List PI) (x v : Int) : List PI := if (l.any fun p => decide (p.a = x)) = true then l.map (fun p => if p.a = x then ⟨p.a, v⟩ else p) else l ++ [⟨x, v⟩]
def merge (l m : List PI) : List PI := m.foldl (fun acc p => put acc p.a p.b) l
theorem key_inl (a b : Int) : ((Sum.inl a : Key) = Sum.inl b) = (a = b) := propext ⟨Sum.inl.inj, fun h => by rw [h]⟩
theorem dI_val (x : Int) : ∀ l : List PI, valV (dI l) (Sum.inl x) = (look l x).map V.int
  | [] => rfl
  | p :: l => by
    have ih := dI_val x l
    show valV ((Sum.inl p.a, V.int p.b) :: dI l) (Sum.inl x) = _
    by_cases e : p.a = x
    · rw [valV_pos (by rw [key_inl]; exact e)]
      simp [look, e]
    · rw [valV_neg (by rw [key_inl]; exact e), ih]
      simp [look, e]
theorem dI_put (l : List PI) (x v : Int) : putK (dI l) (Sum.inl x) (.int v) = dI (put l x v) := by
  have e : ((dI l).any fun kv => decide (kv.1 = Sum.inl x)) = (l.any fun p => decide (p.a = x)) := by
    unfold dI
    rw [List.any_map]
    congr 1
    funext p
    simp only [Function.comp, key_inl]
  unfold putK put
  rw [e]
  by_cases a : (l.any fun p => decide (p.a = x)) = true
  · rw [if_pos a, if_pos a]
    unfold dI
    rw [List.map_map, List.map_map]
    congr 1
    funext p
    simp only [Function.comp, key_inl]
    by_cases h : p.a = x
    · rw [if_pos h, if_pos h]
    · rw [if_neg h, if_neg h]
  · rw [if_neg a, if_neg a]
    unfold dI
    rw [List.map_append]
    rfl
theorem dI_merge (m : List PI) : ∀ l : List PI, mergeK (dI l) (dI m) = dI (merge l m) := by
  induction m with
  | nil => intro l; rfl
  | cons p m ih =>
    intro l
    show mergeK (putK (dI l) (Sum.inl p.a) (.int p.b)) (dI m) = dI (merge (put l p.a p.b) m)
    rw [dI_put]
    exact ih _
theorem look_nil (x : Int) : look [] x = none := rfl
theorem look_cons (p : PI) (l : List PI) (x : Int) : look (p :: l) x = if p.a = x then some p.b else look l x := by
  unfold look
  rw [List.find?_cons]
  by_cases e : p.a = x
  · simp [e]
  · simp [e]
theorem look_any (x : Int) : ∀ l : List PI, (l.any fun p => decide (p.a = x)) = (look l x).isSome
  | [] => rfl
  | p :: l => by
    rw [List.any_cons, look_any x l, look_cons]
    by_cases e : p.a = x
    · simp [e]
    · simp [e]
theorem look_map (x y v : Int) : ∀ l : List PI, look (l.map fun p => if p.a = x then ⟨p.a, v⟩ else p) y = (look l y).map fun z => if y = x then v else z
  | [] => rfl
  | p :: l => by
    rw [List.map_cons, look_cons, look_cons, look_map x y v l]
    by_cases e : p.a = x
    · rw [if_pos e]
      by_cases f : p.a = y
      · rw [if_pos f, if_pos f]
        rw [← f, Option.map_some, if_pos e]
      · rw [if_neg f, if_neg f]
    · rw [if_neg e]
      by_cases f : p.a = y
      · rw [if_pos f, if_pos f, Option.map_some, if_neg (by rw [← f]; exact e)]
      · rw [if_neg f, if_neg f]
theorem look_app (l m : List PI) (x : Int) : look (l ++ m) x = (look l x).or (look m x) := by
  induction l with
  | nil => rfl
  | cons p l ih =>
    rw [List.cons_append, look_cons, look_cons, ih]
    by_cases e : p.a = x
    · rw [if_pos e, if_pos e]; rfl
    · rw [if_neg e, if_neg e]
theorem look_put (l : List PI) (x v y : Int) : look (put l x v) y = if y = x then some v else look l y := by
  unfold put
  by_cases a : (l.any fun p => decide (p.a = x)) = true
  · rw [if_pos a, look_map]
    by_cases e : y = x
    · rw [if_pos e, e]
      rw [look_any] at a
      obtain ⟨z, hz⟩ := Option.isSome_iff_exists.mp a
      rw [hz, Option.map_some, if_pos rfl]
    · rw [if_neg e]
      cases look l y with
      | none => rfl
      | some z => rw [Option.map_some, if_neg e]
  · rw [if_neg a, look_app]
    rw [look_any] at a
    by_cases e : y = x
    · rw [if_pos e, e]
      cases h : look l x with
      | none => rw [look_cons, if_pos rfl]; rfl
      | some z => rw [h] at a; exact absurd rfl a
    · rw [if_neg e, look_cons, if_neg (fun z => e z.symm), look_nil]
      cases look l y <;> rfl
/-- no place twice -/
def Nd (l : List PI) : Prop := (l.map (·.a)).Nodup
theorem look_none {l : List PI} {x : Int} : look l x = none ↔ x ∉ l.map (·.a) := by
  induction l with
  | nil => simp [look_nil]
  | cons p l ih =>
    rw [look_cons, List.map_cons, List.mem_cons]
    by_cases e : p.a = x
    · rw [if_pos e]; simp [e]
    · rw [if_neg e, ih]
      constructor
      · intro h z
        rcases z with z | z
        · exact e z.symm
        · exact h z
      · intro h z
        exact h (.inr z)
theorem look_mem {l : List PI} (h : Nd l) {p : PI} (m : p ∈ l) : look l p.a = some p.b := by
  induction l with
  | nil => cases m
  | cons q l ih =>
    have h' := List.nodup_cons.mp h
    rw [look_cons]
    rcases List.mem_cons.mp m with rfl | m
    · rw [if_pos rfl]
    · rw [if_neg (fun e => h'.1 (by show q.a ∈ _; rw [e]; exact List.mem_map.mpr ⟨p, m, rfl⟩))]
      exact ih h'.2 m
theorem mem_look {l : List PI} {x v : Int} (h : look l x = some v) : (⟨x, v⟩ : PI) ∈ l := by
  induction l with
  | nil => cases h
  | cons q l ih =>
    rw [look_cons] at h
    by_cases e : q.a = x
    · rw [if_pos e] at h
      cases h
      subst e
      exact List.mem_cons_self
    · rw [if_neg e] at h
      exact List.mem_cons_of_mem _ (ih h)
theorem nd_put {l : List PI} (h : Nd l) (x v : Int) : Nd (put l x v) := by
  unfold put
  by_cases a : (l.any fun p => decide (p.a = x)) = true
  · rw [if_pos a]
    unfold Nd
    rw [List.map_map]
    have e : ((fun p : PI => p.a) ∘ fun p : PI => if p.a = x then (⟨p.a, v⟩ : PI) else p) = fun p : PI => p.a := by
      funext p
      simp only [Function.comp]
      split <;> rfl
    rw [e]; exact h
  · rw [if_neg a]
    unfold Nd
    rw [List.map_append]
    refine nd_snoc h ?_
    rw [look_any] at a
    refine look_none.mp ?_
    cases q : look l x with
    | none => rfl
    | some z => rw [q] at a; exact absurd rfl a
theorem put_new {l : List PI} {x : Int} (v : Int) (h : look l x = none) : put l x v = l ++ [⟨x, v⟩] := by
  unfold put
  rw [look_any, h]
  rfl
theorem merge_nd {m : List PI} : ∀ {l : List PI}, Nd (l ++ m) → merge l m = l ++ m := by
  induction m with
  | nil => intro l _; simp [merge]
  | cons p m ih =>
    intro l h
    have e : l ++ p :: m = (l ++ [p]) ++ m := by simp
    have hn : look l p.a = none := by
      refine look_none.mpr fun z => ?_
      unfold Nd at h
      rw [List.map_append] at h
      exact (List.nodup_append.mp h).2.2 _ z _ (by rw [List.map_cons]; exact List.mem_cons_self) rfl
    show merge (put l p.a p.b) m = _
    rw [put_new _ hn, e]
    exact ih (by rw [← e]; exact h)
theorem nd_nil : Nd [] := List.nodup_nil
theorem put_len (l : List PI) (x v : Int) : (put l x v).length ≤ l.length + 1 := by
  unfold put
  split
  · rw [List.length_map]; omega
  · rw [List.length_append]; exact Nat.le_refl _
/-- Python's order of pairs -/
def leP (p q : PI) : Bool := decide (p.a < q.a) || (decide (p.a = q.a) && decide (p.b ≤ q.b))
theorem leP_iff {p q : PI} : leP p q = true ↔ p.a < q.a ∨ (p.a = q.a ∧ p.b ≤ q.b) := by simp [leP]
def ins (p : PI) : List PI → List PI
  | [] => [p]
  | q :: l => if leP p q = true then p :: q :: l else q :: ins p l
def srt (l : List PI) : List PI := l.foldr ins []
theorem ins_perm (p : PI) : ∀ l : List PI, (ins p l).Perm (p :: l)
  | [] => List.Perm.refl _
  | q :: l => by
    unfold ins
    split
    · exact List.Perm.refl _
    · exact (List.Perm.cons q (ins_perm p l)).trans (List.Perm.swap p q l)
theorem srt_perm : ∀ l : List PI, (srt l).Perm l
  | [] => List.Perm.refl _
  | p :: l => (ins_perm p (srt l)).trans ((srt_perm l).cons p)
abbrev LeP (p q : PI) : Prop := leP p q = true
theorem leP_trans {p q r : PI} (h1 : LeP p q) (h2 : LeP q r) : LeP p r := by
  have a := leP_iff.mp h1
  have b := leP_iff.mp h2
  exact leP_iff.mpr (by omega)
theorem leP_total (p q : PI) : LeP p q ∨ LeP q p := by
  show leP p q = true ∨ leP q p = true
  rw [leP_iff, leP_iff]
  omega
theorem ins_srt (p : PI) : ∀ {l : List PI}, l.Pairwise LeP → (ins p l).Pairwise LeP
  | [], _ => List.pairwise_singleton _ _
  | q :: l, h => by
    have h' := List.pairwise_cons.mp h
    unfold ins
    split
    · rename_i e
      refine List.pairwise_cons.mpr ⟨fun x m => ?_, h⟩
      rcases List.mem_cons.mp m with rfl | m
      · exact e
      · exact leP_trans e (h'.1 x m)
    · rename_i e
      refine List.pairwise_cons.mpr ⟨fun x m => ?_, ins_srt p h'.2⟩
      rcases List.mem_cons.mp ((ins_perm p l).mem_iff.mp m) with rfl | m
      · rcases leP_total q x with z | z
        · exact z
        · exact absurd z e
      · exact h'.1 x m
theorem srt_srt : ∀ l : List PI, (srt l).Pairwise LeP
  | [] => List.Pairwise.nil
  | p :: l => ins_srt p (srt_srt l)
theorem leP_anti {p q : PI} (h1 : LeP p q) (h2 : LeP q p) : p = q := by
  have a := leP_iff.mp h1
  have b := leP_iff.mp h2
  obtain ⟨x, y⟩ := p
  obtain ⟨x', y'⟩ := q
  have e1 : x = x' := by show x = x'; simp only at a b; omega
  have e2 : y = y' := by simp only at a b; omega
  rw [e1, e2]
/-- there is one sorted list of them -/
theorem srt_uniq : ∀ {l m : List PI}, l.Pairwise LeP → m.Pairwise LeP → l.Perm m → l = m
  | [], m, _, _, h => (List.Perm.eq_nil h.symm).symm
  | x :: l, [], _, _, h => absurd h.length_eq (by simp)
  | x :: l, y :: m, hl, hm, h => by
    have l' := List.pairwise_cons.mp hl
    have m' := List.pairwise_cons.mp hm
    have h1 : LeP y x := by
      rcases List.mem_cons.mp (h.mem_iff.mp (List.mem_cons_self (a := x) (l := l))) with e | z
      · rw [e]; rcases leP_total y y with z | z <;> exact z
      · exact m'.1 x z
    have h2 : LeP x y := by
      rcases List.mem_cons.mp (h.mem_iff.mpr (List.mem_cons_self (a := y) (l := m))) with e | z
      · rw [e]; rcases leP_total x x with z | z <;> exact z
      · exact l'.1 y z
    have e := leP_anti h2 h1
    subst e
    rw [srt_uniq l'.2 m'.2 h.cons_inv]
theorem srt_of {l m : List PI} (h : m.Pairwise LeP) (p : m.Perm l) : m = srt l := srt_uniq h (srt_srt l) (p.trans (srt_perm l).symm)
/-- what a value says as a pair, read off the heap -/
def pOf (H : Hp) : V → Int × Int
  | .ref t => match H t with
    | some (.tup [.int i, .int j]) => (i, j)
    | _ => (0, 0)
  | _ => (0, 0)
theorem pOf_is {H : Hp} {v : V} {d : PI} (h : Is H v d) : ∃ t, v = .ref t ∧ H t = some (.tup [.int (pOf H v).1, .int (pOf H v).2]) ∧ d = ⟨(pOf H v).1, (pOf H v).2⟩ := by
  obtain ⟨t, x, y, rfl, h1, h2, h3⟩ := h
  have h2 : x = .int d.a := h2
  have h3 : y = .int d.b := h3
  subst h2
  subst h3
  have e : pOf H (.ref t) = (d.a, d.b) := by simp only [pOf, h1]
  exact ⟨t, rfl, by rw [e]; exact h1, by rw [e]⟩
theorem all_of {H : Hp} : ∀ {xs : List V} {l : List PI}, IsAll H xs l → l = xs.map fun v => (⟨(pOf H v).1, (pOf H v).2⟩ : PI) := fun {xs l} h => by
  refine List.ext_getElem? fun i => ?_
  rw [List.getElem?_map]
  cases e : xs[i]? with
  | none =>
    have := List.getElem?_eq_none_iff.mp e
    exact List.getElem?_eq_none_iff.mpr (by rw [← h.1]; exact this)
  | some x =>
    obtain ⟨d, hd, hx⟩ := h.get' e
    obtain ⟨t, _, _, q⟩ := pOf_is hx
    rw [hd, q]
    rfl
/-- sorted of a list of pairs -/
theorem sort_pairs {K : PySem.W.Frag} {F H : Hp} {a : Addr} {xs : List V} {l : List PI} {Q : VK} (sF : Same F H) (hx : IsAll F xs l) (ha : SqL K H a xs) (q : ∀ ys p, H p = none → IsAll F ys (srt l) → Q (.ref p) (upd H p (.lst ys))) : rSortQ K [.ref a] H Q := by
  unfold rSortQ
  refine ⟨a, xs, pOf F, rfl, ha, fun x m => ?_, fun ys p hs hb np => q ys p np ?_⟩
  · obtain ⟨i, hi⟩ := List.getElem?_of_mem m
    obtain ⟨d, _, hd⟩ := hx.get' hi
    obtain ⟨t, e, h, _⟩ := pOf_is hd
    exact ⟨t, e, sF _ _ h⟩
  · have el := all_of hx
    have hys : IsAll F ys (ys.map fun v => (⟨(pOf F v).1, (pOf F v).2⟩ : PI)) := by
      refine ⟨by rw [List.length_map], fun i x y h1 h2 => ?_⟩
      rw [List.getElem?_map, h1] at h2
      cases h2
      have m : x ∈ xs := hb.perm.mem_iff.mp (List.mem_of_getElem? h1)
      obtain ⟨j, hj⟩ := List.getElem?_of_mem m
      obtain ⟨d, _, hd⟩ := hx.get' hj
      obtain ⟨t, e, h, e2⟩ := pOf_is hd
      exact ⟨t, _, _, e, h, rfl, rfl⟩
    have es : (ys.map fun v => (⟨(pOf F v).1, (pOf F v).2⟩ : PI)) = srt l := by
      refine srt_of ?_ ?_
      · refine List.pairwise_map.mpr (List.Pairwise.imp (fun {x y} h => ?_) hs)
        have h := SrtO.lexB_no.mp h
        exact leP_iff.mpr (by simp only; omega)
      · rw [el]
        exact hb.perm.map _
    rw [es] at hys
    exact hys
theorem pairs_of {K : PySem.W.Frag} {H : Hp} : ∀ {xs : List V} {l : List PI}, IsAll H xs l → ∃ ps : List Addr, xs = ps.map V.ref ∧ Paired (fun p kv => SqT K H p [kV kv.1, kv.2]) ps (dI l)
  | [], [], _ => ⟨[], rfl, .nil⟩
  | [], d :: l, h => by have := h.1; simp at this
  | x :: xs, [], h => by have := h.1; simp at this
  | x :: xs, d :: l, h => by
    obtain ⟨t, x1, x2, e, h1, h2, h3⟩ := h.2 0 x d rfl rfl
    have h2 : x1 = .int d.a := h2
    have h3 : x2 = .int d.b := h3
    subst h2
    subst h3
    obtain ⟨ps, e2, p⟩ := pairs_of (K := K) (xs := xs) (l := l) ⟨by have := h.1; simpa using this, fun i a b p q => h.2 (i + 1) a b (by simpa using p) (by simpa using q)⟩
    exact ⟨t :: ps, by rw [e, e2]; rfl, .cons (SqT.of h1) p⟩
/-- dict(pairs) -/
theorem dict_pairs {K : PySem.W.Frag} {H : Hp} {a : Addr} {xs : List V} {l : List PI} {Q : VK} (hx : IsAll H xs l) (ha : SqL K H a xs) (q : ∀ p, H p = none → Q (.ref p) (upd H p (.dK (dI (merge [] l))))) : rDictP K [.ref a] H Q := by
  unfold rDictP
  obtain ⟨ps, e, p⟩ := pairs_of (K := K) hx
  refine ⟨a, ps, dI l, rfl, by rw [← e]; exact ha, p, fun d nd => ?_⟩
  have e2 : mergeK [] (dI l) = dI (merge [] l) := dI_merge l []
  rw [e2]
  exact q d nd
/-! ### a dict under its lock -/
theorem lock_in {F H : Hp} {d : Addr} {o : HO} (s : Same F H) : Same (fun c => if c = d then none else F c) (upd H d o) := fun c u h => by
  by_cases e : c = d
  · simp only [e, if_true] at h; cases h
  · simp only [e, if_false] at h
    rw [upd_ne e]; exact s c u h
theorem lock_out {F H F2 H2 : Hp} {d : Addr} {o u : HO} (s : Same F H) (h : H d = some u) (g : Gr mu0 (fun c => if c = d then none else F c) (upd H d o) F2 H2) :
    H2 d = some o ∧ Same F2 (fun c => if c = d then F d else F2 c) ∧ Gr mu0 F H (fun c => if c = d then F d else F2 c) (upd H2 d u) := by
  have n2 : F2 d = none := by
    cases e : F2 d with
    | none => rfl
    | some z =>
      rcases g.nw d z e with k | k
      · simp only [if_true] at k; cases k
      · rw [upd_same] at k; cases k
  refine ⟨g.fr d o upd_same (fun z => z), fun c z e => ?_, ⟨fun c z e => ?_, fun c z e => ?_, fun c z e => ?_, fun c z e m => ?_, fun c e => ?_⟩⟩
  · by_cases k : c = d
    · rw [k, n2] at e; cases e
    · simp only [k, if_false]; exact e
  · by_cases k : c = d
    · simp only [k, if_true]; rw [← k]; exact e
    · simp only [k, if_false]
      exact g.ff c z (by simp only [k, if_false]; exact e)
  · by_cases k : c = d
    · simp only [k, if_true] at e
      rw [k, upd_same, ← h]
      exact s d z e
    · simp only [k, if_false] at e
      rw [upd_ne k]; exact g.fh c z e
  · by_cases k : c = d
    · simp only [k, if_true] at e
      exact .inl (by rw [k]; exact e)
    · simp only [k, if_false] at e
      rcases g.nw c z e with q | q
      · simp only [k, if_false] at q; exact .inl q
      · rw [upd_ne k] at q; exact .inr q
  · by_cases k : c = d
    · rw [k, upd_same]; rw [k, h] at e; exact e
    · rw [upd_ne k]
      exact g.fr c z (by rw [upd_ne k]; exact e) (fun z => z)
  · by_cases k : c = d
    · rw [k, upd_same] at e; cases e
    · rw [upd_ne k] at e
      have q := g.th c e
      rw [upd_ne k] at q; exact q
/-- the signs that aren't 0, in order -/
def nz (p : PI) : Bool := decide (p.b ≠ 0)
def told (l : List PI) : List PI := srt (l.filter nz)
theorem dI_get {l : List PI} {i : Nat} (h : i < l.length) : (dI l)[i]? = some (Sum.inl l[i].a, V.int l[i].b) := by
  unfold dI
  rw [List.getElem?_map, List.getElem?_eq_getElem h]
  rfl
theorem filter_take_succ {l : List PI} {f : PI → Bool} {i : Nat} (h : i < l.length) : (l.take (i + 1)).filter f = (l.take i).filter f ++ (if f l[i] = true then [l[i]] else []) := by
  rw [List.take_add_one, List.getElem?_eq_getElem h, List.filter_append]
  show _ ++ List.filter f [l[i]] = _
  rw [List.filter_cons]
  split <;> rfl
theorem nd_srt {l : List PI} (h : Nd l) : Nd (srt l) := ((srt_perm l).map (fun p : PI => p.a)).nodup_iff.mpr h
theorem mem_srt {l : List PI} {q : PI} : q ∈ srt l ↔ q ∈ l := (srt_perm l).mem_iff
theorem mem_put {l : List PI} {x v : Int} {q : PI} (m : q ∈ put l x v) : q ∈ l ∨ q = ⟨x, v⟩ := by
  unfold put at m
  split at m
  · obtain ⟨z, hz, e⟩ := List.mem_map.mp m
    split at e
    · rename_i h1 h2
      exact .inr (by rw [← e, h2])
    · exact .inl (by rw [← e]; exact hz)
  · rcases List.mem_append.mp m with m | m
    · exact .inl m
    · exact .inr (List.mem_singleton.mp m)
/-! ### sorted(d.items()), d a dict of ints to ints -/
section
open PySem.Spec PyProof.Rows
variable {X : Cx}
/-- many new things are tracked at once -/
theorem inv_many {pins : List (Addr × Obj)} {σ : L2.St} {H H' : Hp} {s : Shared} {h' : Heap} {tk : Nat} {as : List Addr} (I : Inv X pins σ H s) (k : ∀ b o, s.heap.get? b = some o → h'.get? b = some o) (hp : ∀ a ∈ as, s.heap.objs.size ≤ a)
    (p1 : ∀ b, b ∉ as → H' b = H b) (p2 : ∀ b ∈ as, ∀ o, H' b = some o → ObjOk X.prog X.w H' h' b o) : Inv X pins σ H' { s with heap := h', toks := tk } := by
  have old : ∀ b o, s.heap.get? b = some o → b ∉ as := fun b o e z => Nat.lt_irrefl _ (Nat.lt_of_lt_of_le (Heap.lt_size e) (hp b z))
  have trc : ∀ b o, H b = some o → b ∉ as := fun b o e z => by
    have := I.hok.lt e
    exact Nat.lt_irrefl _ (Nat.lt_of_lt_of_le this (hp b z))
  have kp : ∀ b o, H b = some o → H' b = some o := fun b o e => by rw [p1 b (trc b o e)]; exact e
  refine I.un ⟨fun b o q _ _ _ => k b o q, fun b o q _ _ _ => ⟨o.slots, k b o q⟩, fun b o q n _ => by rw [p1 b (old b o q)]; exact n, fun b o q _ => ⟨o, k b o q⟩, fun b xs e => kp b _ e, fun b o u e => kp b _ e, fun b ps e => ⟨#[], by rw [kp b _ e]; simp⟩⟩ fun b o e => ?_
  by_cases m : b ∈ as
  · exact p2 b m o e
  · rw [p1 b m] at e
    exact (I.hok b o e).stay (fun c u _ q => k c u q) (fun c q => kp c _ q) fun c xs q => kp c _ q
/-- the pair that stands at a -/
def pzAt (zs : List (Addr × PI)) (a : Addr) : Option PI := (zs.find? fun z => decide (z.1 = a)).map (·.2)
theorem pzAt_ix : ∀ {zs : List (Addr × PI)}, (zs.map (·.1)).Nodup → ∀ {j : Nat} {z : Addr × PI}, zs[j]? = some z → pzAt zs z.1 = some z.2
  | [], _, j, z, h => by cases h
  | y :: ys, nd, 0, z, h => by
    have e := Option.some.inj h
    subst e
    simp [pzAt]
  | y :: ys, nd, j + 1, z, h => by
    have nd' := List.nodup_cons.mp nd
    have m : z.1 ∈ ys.map (·.1) := List.mem_map.mpr ⟨z, List.mem_of_getElem? (show ys[j]? = some z from h), rfl⟩
    have ih := pzAt_ix nd'.2 (show ys[j]? = some z from h)
    have ne : ¬ y.1 = z.1 := fun e => nd'.1 (by show y.1 ∈ _; rw [e]; exact m)
    unfold pzAt at ih ⊢
    rw [List.find?_cons, decide_eq_false ne]
    exact ih
theorem pzAt_no {zs : List (Addr × PI)} {a : Addr} (h : a ∉ zs.map (·.1)) : pzAt zs a = none := by
  unfold pzAt
  rw [List.find?_eq_none.mpr fun z m e => h (List.mem_map.mpr ⟨z, m, of_decide_eq_true e⟩)]
  rfl
def trk (H : Hp) (B : Addr) (L : HO) (zs : List (Addr × PI)) : Hp := fun b => if b = B then some L else match pzAt zs b with
  | some q => some (.tup [.int q.a, .int q.b])
  | none => H b
def adOf : Value → Addr
  | .ref a => a
  | _ => 0
@[irreducible] def rSortIt : V → Hp → VK → Prop := fun x H Q => ∃ (d : Addr) (l : List PI), x = .ref d ∧ H d = some (.dK (dI l)) ∧
  ∀ (H' : Hp) (p : Addr) (ys : List Addr), Same H H' → H p = none → (∀ t ∈ ys, H t = none) → p ∉ ys → (∀ b, b ≠ p → b ∉ ys → H' b = H b) → H' p = some (.lst (ys.map V.ref)) → All2 (fun t (q : PI) => H' t = some (.tup [.int q.a, .int q.b])) ys (srt l) → Q (.ref p) H'
def tSortIt (te : TE) : TE := fun σ H Q => te σ H fun x H1 => rSortIt x H1 Q
theorem pe_sortedItems {e : Expr} {te : TE} {p apos cpos pos : Pos} (hc : X.calm = true) (he : PE X e te) (hg : Gl X "sorted") (hm : X.mg "sorted" = none) (hv : bootBuiltins "sorted" = some (.builtin "sorted")) (hbase : attributeBase e "items" X.env (eval e X.env) = eval e X.env := by rfl) (hline : (apos.endLine == cpos.line) = true := by rfl)
    (hs : starEach [.Call (.Attribute e "items" apos) [] [] cpos] X.env = (false, eval (.Call (.Attribute e "items" apos) [] [] cpos) X.env) :: starEach [] X.env := by rfl) :
    PE X (.Call (.Name "sorted" p) [.Call (.Attribute e "items" apos) [] [] cpos] [] pos) (tSortIt te) := by
  refine ⟨fun pins s σ H Q I hq => ?_⟩
  refine wpAny_Call_Name_kw (ld_blt I hg hm hv ?_)
  refine PyProof.Rows.callWith_builtin1 ?_ hs rfl
  rw [hs]
  show wpAny _ _ (spliced ((false, eval (.Call (.Attribute e "items" apos) [] [] cpos) X.env) :: backTo pos (starEach [] X.env))) _ _ s
  refine Calls.spliced_cons ?_
  refine wpAny_Call_method (T := "dict") (id := "dict.items") hbase rfl hline F.plainAttrs_dict F.slot_dict_items F.type_dict_items (thn (he.run pins s σ H _ I hq) fun u s1 ⟨x, H1, I1, rx, q⟩ => ?_)
  unfold rSortIt at q
  obtain ⟨d, l, rfl, hd, q⟩ := q
  obtain rfl : u = Value.ref d := rx
  obtain ⟨hz, hs0, vs, kv, hdo⟩ := I1.hok d _ hd
  obtain ⟨ep, hat⟩ := hdo.dictAt
  have lk : (dI l).length = vs.length := Paired.length kv
  have ll : (dI l).length = l.length := by unfold dI; rw [List.length_map]
  refine ⟨hdo.typeIs, hdo.mapOf.noDict, ?_⟩
  show wpAny _ _ (callWith cpos (.builtin "dict.items") [.ref d] [] []) _ X.xe s1
  refine method_meetsIn F.slot_dict_items F.entry_dict_items rfl (PySem.evalArgs_none ⟨rfl, hdo.typeIs, F.args_dict_items_1 _, _, meets_dict_items (mixKind X.prog X.w) d hs0, ⟨vs, hdo⟩, ?_⟩)
  refine Calls.spliced_nil ?_
  have I2 : Inv X pins σ H1 { s1 with heap := s1.heap.push { cls := .type "dict_items", data := .fields #[.ref d] } } := I1.kept (t' := s1.toks) fun b ob q => Heap.get?_push_of_some _ q
  have hB : ((H1 d).isSome) = true := by rw [hd]; rfl
  refine Calls.call_function_entry kind_sorted plain_sorted entry_sorted (args_sorted1 _) (by
    unfold Builtin.«sorted»
    refine wpAny_bind (m := checkCount "sorted" 1 1 _) (wpAny_pure (wpAny_bind (PySem.W.kdx_collect (knd := mixKind X.prog X.w) (kvs := vs) (ep := ep) (I1.ok.hd hc) ⟨_, Heap.get?_push_size _ rfl, rfl, rfl⟩ (hat.push _) (by omega) fun h1 tk as hk hl hG => ?_)))
    refine wpAny_bind (wpAny_newList ?_ (by rw [List.length_map, hl]; omega))
    -- the pairs' tuples: at as
    have nd : as.Nodup := hG.rise.imp fun {a b} h => Nat.ne_of_lt h
    have lz : (as.zip l).map (·.1) = as := List.map_fst_zip (by omega)
    have zx : ∀ (j : Nat) (a : Addr), as[j]? = some a → ∃ (q : PI) (t u : Tok), l[j]? = some q ∧ pzAt (as.zip l) a = some q ∧ h1.get? a = some { cls := .type "tuple", data := .seq #[.int q.a t, .int q.b u] } := fun j a h => by
      obtain ⟨key, k, x, e1, e2, e3⟩ := hG.pairs j a h
      have jl : j < l.length := by have := (List.getElem?_eq_some_iff.mp h).1; omega
      have lj : l[j]? = some l[j] := List.getElem?_eq_getElem jl
      obtain ⟨y, e4, e5, e6⟩ := LiI.paired_get kv (dI_get jl)
      rw [e1] at e4
      have e4 := Option.some.inj e4
      subst e4
      obtain ⟨i, tk1, e7, rfl⟩ | ⟨z, tk1, e7, _⟩ := keyIs_shape (show keyIs k key = true from e2)
      · have e5 : Sum.inl l[j].a = k := e5
        rw [e7] at e5
        have e5 := Sum.inl.inj e5
        subst e5
        obtain ⟨tk2, e6⟩ := (show RelV (.int l[j].b) x from e6)
        subst e6
        exact ⟨l[j], tk1, tk2, lj, pzAt_ix (zs := as.zip l) (by rw [lz]; exact nd) (j := j) (z := (a, l[j])) (List.getElem?_zip_eq_some.mpr ⟨h, lj⟩), e3⟩
      · have e5 : Sum.inl l[j].a = k := e5
        rw [e7] at e5
        cases e5
    have zm : ∀ a ∈ as, ∃ (q : PI) (t u : Tok), pzAt (as.zip l) a = some q ∧ h1.get? a = some { cls := .type "tuple", data := .seq #[.int q.a t, .int q.b u] } := fun a m => by
      obtain ⟨j, hj⟩ := List.getElem?_of_mem m
      obtain ⟨q, t, u, _, h2, h3⟩ := zx j a hj
      exact ⟨q, t, u, h2, h3⟩
    have lm : as.map (fun a => (pzAt (as.zip l) a).getD ⟨0, 0⟩) = l := by
      refine List.ext_getElem? fun j => ?_
      rw [List.getElem?_map]
      cases hj : as[j]? with
      | none =>
        have := List.getElem?_eq_none_iff.mp hj
        exact (List.getElem?_eq_none_iff.mpr (by omega)).symm
      | some a =>
        obtain ⟨q, t, u, h1, h2, _⟩ := zx j a hj
        rw [h1, Option.map_some, h2]; rfl
    generalize ezs : as.zip l = zs at zx zm lm lz
    have s12 : (s1.heap.push { cls := .type "dict_items", data := .fields #[.ref d] }).objs.size ≤ h1.objs.size := by
      have := Heap.lt_size (hk _ _ (Heap.get?_push_size s1.heap rfl))
      rw [Heap.size_push]; exact this
    have Bn : h1.objs.size ∉ as := fun z => Nat.lt_irrefl _ (hG.there z)
    let kk : Value → Int × Int := fun v => (((pzAt zs (adOf v)).getD ⟨0, 0⟩).a, ((pzAt zs (adOf v)).getD ⟨0, 0⟩).b)
    have ho : (h1.push { cls := .type "list", data := .seq (as.map Value.ref).toArray }).get? h1.objs.size = some (seqObj "list" (as.map Value.ref).toArray 0) := Heap.get?_push_size _ rfl
    refine wpAny_bind (wpAny_holding (wpAny_call_entry slot_list_sort ⟨_, ho, rfl⟩ entry_list_sort (SrtO.list_sort_ord (ltv := fun v u => SrtO.lexB (kk v) (kk u)) (SrtO.swo_lex kk) ho (by rw [List.length_map, hl]; omega) (fun h2 => ?_) fun out hso hbo => ⟨_, rfl, wpAny_pure ⟨_, rfl, ?_⟩⟩) (args_list_sort _)))
    · refine SrtO.pairs_sortableO (k := kk) (by omega) (fun v m => ?_) fun o e => ?_
      · obtain ⟨a, ma, rfl⟩ := List.mem_map.mp m
        obtain ⟨q, t, u, h1', h2'⟩ := zm a ma
        refine ⟨a, _, t, u, 0, rfl, Heap.get?_push_of_some _ h2', rfl, ?_⟩
        show _ = Data.seq #[.int ((pzAt zs a).getD ⟨0, 0⟩).a t, .int ((pzAt zs a).getD ⟨0, 0⟩).b u] 0
        rw [h1']
        rfl
      · rw [ho] at e
        cases e
        intro c
        exact absurd (Value.type.inj c) (by decide)
    · have outp : out.Perm (as.map Value.ref) := hbo.perm
      have oe : out = (out.map adOf).map Value.ref := by
        rw [List.map_map]
        refine (List.map_id out).symm.trans (List.map_congr_left fun v m => ?_)
        obtain ⟨a, _, rfl⟩ := List.mem_map.mp (outp.mem_iff.mp m)
        rfl
      have yp : (out.map adOf).Perm as := by
        have := outp.map adOf
        rw [List.map_map] at this
        have e : as.map (adOf ∘ Value.ref) = as := (List.map_congr_left fun a _ => rfl).trans (List.map_id as)
        rw [e] at this; exact this
      generalize out.map adOf = ys at oe yp
      have lo : out.length ≤ sizeLine := by rw [oe, List.length_map, yp.length_eq, hl]; omega
      obtain ⟨ep3, h3B⟩ := sortedHeap_at (vs := as.map Value.ref) (out := out.toArray) ho
      have h3o : ∀ b o, h1.get? b = some o → (sortedHeap (h1.push { cls := .type "list", data := .seq (as.map Value.ref).toArray }) h1.objs.size (as.map Value.ref) out.toArray).get? b = some o := fun b o e => by
        have bl := Heap.lt_size e
        rw [sortedHeap_old (Nat.ne_of_lt bl) (by rw [Heap.size_push]; exact Nat.lt_succ_of_lt bl)]
        exact Heap.get?_push_of_some _ e
      have tB : trk H1 h1.objs.size (.lst (ys.map V.ref)) zs h1.objs.size = some (.lst (ys.map V.ref)) := by unfold trk; rw [if_pos rfl]
      have tT : ∀ a ∈ as, ∀ q, pzAt zs a = some q → trk H1 h1.objs.size (.lst (ys.map V.ref)) zs a = some (.tup [.int q.a, .int q.b]) := fun a m q e => by
        unfold trk
        rw [if_neg (fun z => Bn (by rw [← z]; exact m)), e]
      have tO : ∀ b, b ≠ h1.objs.size → b ∉ as → trk H1 h1.objs.size (.lst (ys.map V.ref)) zs b = H1 b := fun b n m => by
        unfold trk
        rw [if_neg n, pzAt_no (by rw [lz]; exact m)]
      have big : ∀ a ∈ h1.objs.size :: as, (s1.heap.push { cls := .type "dict_items", data := .fields #[.ref d] }).objs.size ≤ a := fun a m => by
        rcases List.mem_cons.mp m with rfl | m
        · exact s12
        · exact Nat.le_of_lt (hG.above a m)
      have J := inv_many (tk := tk) (H' := trk H1 h1.objs.size (.lst (ys.map V.ref)) zs) (h' := sortedHeap (h1.push { cls := .type "list", data := .seq (as.map Value.ref).toArray }) h1.objs.size (as.map Value.ref) out.toArray) (as := h1.objs.size :: as) I2 (fun b o e => h3o b o (hk b o e)) big
          (fun b m => tO b (fun z => m (by rw [z]; exact List.mem_cons_self)) (fun z => m (List.mem_cons_of_mem _ z))) (fun b m o e => by
        by_cases hb : b = h1.objs.size
        · subst hb
          rw [tB] at e
          cases e
          refine ⟨by rw [List.length_map, yp.length_eq, hl]; omega, out, ep3, ?_, h3B⟩
          rw [oe]
          exact LiI.vals_refs ys
        · have m := (List.mem_cons.mp m).resolve_left hb
          obtain ⟨q, t, u, e1, e2⟩ := zm b m
          rw [tT b m q e1] at e
          cases e
          exact ⟨two_le, [.int q.a t, .int q.b u], .cons ⟨_, rfl⟩ (.cons ⟨_, rfl⟩ .nil), ⟨_, h3o b _ e2, rfl, _, rfl⟩⟩)
      have fr1 : ∀ a ∈ h1.objs.size :: as, H1 a = none := fun a m => I2.hok.fresh (big a m)
      have ym : ∀ a, a ∈ ys ↔ a ∈ as := fun a => yp.mem_iff
      refine ⟨.ref h1.objs.size, _, J, rfl, q _ _ ys (fun b o e => ?_) (fr1 _ List.mem_cons_self) (fun t m => fr1 t (List.mem_cons_of_mem _ ((ym t).mp m))) (fun z => Bn ((ym _).mp z)) (fun b n m => tO b n fun z => m ((ym b).mpr z)) tB ?_⟩
      · rw [tO b (fun z => by rw [z, fr1 _ List.mem_cons_self] at e; cases e) (fun z => by rw [fr1 b (List.mem_cons_of_mem _ z)] at e; cases e)]
        exact e
      · have es : ys.map (fun a => (pzAt zs a).getD ⟨0, 0⟩) = srt l := by
          refine srt_of ?_ (by rw [← lm]; exact yp.map _)
          rw [oe] at hso
          have hso := List.pairwise_map.mp hso
          refine List.pairwise_map.mpr (hso.imp fun {x y} h => ?_)
          have h := SrtO.lexB_no.mp h
          exact leP_iff.mpr (by simp only [kk, adOf] at h; omega)
        rw [← es]
        refine ⟨by rw [List.length_map], fun i x y h1 h2 => ?_⟩
        rw [List.getElem?_map, h1] at h2
        cases h2
        have m := (ym x).mp (List.mem_of_getElem? h1)
        obtain ⟨q, t, u, e1, e2⟩ := zm x m
        rw [tT x m q e1]
        show _ = some (HO.tup [V.int ((pzAt zs x).getD ⟨0, 0⟩).a, V.int ((pzAt zs x).getD ⟨0, 0⟩).b])
        rw [e1]
        rfl)
theorem sitems {F H : Hp} {d : Addr} {l : List PI} {Q : VK} (sF : Same F H) (hd : H d = some (.dK (dI l))) (q : ∀ (F' H' : Hp) (p : Addr) (xs : List V), Gr mu0 F H F' H' → Ow H F' H' p (.lst xs) → IsAll F' xs (srt l) → Q (.ref p) H') : rSortIt (.ref d) H Q := by
  unfold rSortIt
  refine ⟨d, l, rfl, hd, fun H' p ys s n nt pn off hp al => ?_⟩
  have fy : ∀ b ∈ ys, F b = none := fun b m => sF.free (nt b m)
  have s' : Same F (fun b => if b ∈ ys then H' b else F b) := fun b o e => by
    by_cases m : b ∈ ys
    · rw [fy b m] at e; cases e
    · simp only [m, if_false]; exact e
  have e2 : ∀ b, b ∈ ys → (if b ∈ ys then H' b else F b) = H' b := fun b m => if_pos m
  refine q (fun b => if b ∈ ys then H' b else F b) H' p (ys.map V.ref) ⟨s', fun b o e => ?_, fun b o e => ?_, fun b o e _ => s b o e, fun b e => s.free e⟩ ⟨n, ?_, hp⟩ ⟨by rw [List.length_map]; exact al.1, fun i x y h1 h2 => ?_⟩
  · by_cases m : b ∈ ys
    · simp only [m, if_true] at e; exact e
    · simp only [m, if_false] at e; exact s b o (sF b o e)
  · by_cases m : b ∈ ys
    · exact .inr (nt b m)
    · simp only [m, if_false] at e; exact .inl e
  · show (if p ∈ ys then H' p else F p) = none
    rw [if_neg pn]; exact sF.free n
  · rw [List.getElem?_map] at h1
    cases e : ys[i]? with
    | none => rw [e] at h1; cases h1
    | some t =>
      rw [e] at h1
      cases h1
      refine ⟨t, _, _, rfl, ?_, rfl, rfl⟩
      show (if t ∈ ys then H' t else F t) = _
      rw [if_pos (List.mem_of_getElem? e)]
      exact al.2 i t y e h2
end
/-! ### sum of a tuple; a tuple not at all or once -/
section
open PySem.Spec PyProof.Rows
variable {X : Cx}
def rSumT (K : PySem.W.Frag) : List V → Hp → VK → Prop := fun vs H Q => ∃ (a : Addr) (ns : List Int), vs = [V.ref a] ∧ SqT K H a (ns.map V.int) ∧ Q (.int ns.sum) H
theorem cr_sumT (hc : X.calm = true) : CallR X (.builtin "sum") (rSumT X.K) := by
  intro pins s σ H vs us Q I r h
  obtain ⟨a, ns, rfl, ht, q⟩ := h
  obtain ⟨its, rv, ⟨o, ho, hcl, n, hd⟩, _⟩ := I.tuple ht
  have hi := rv.ints
  obtain ⟨xs, e⟩ := hi.allInts.items
  have hn : numsOf (intItems xs).toList = ns := by rw [← e]; exact hi.numsOf
  rw [nums_intItems] at hn
  rw [e] at hd
  rw [Vals.ref1 r]
  refine PySem.W.ktm_sumG (I.ok.hd hc) ⟨o, ho, hcl, n, hd⟩ fun h' tk t' hk => ?_
  rw [preSum_eq, List.take_of_length_le (by simp), hn]
  exact ⟨.int _, H, I.kept hk, ⟨_, rfl⟩, q⟩
theorem tup_mul1 (l : Addr) (items : Array Value) (n : Nat) (dd : Option Addr) (sl : Array (Option Value)) (u : Tok) (hne : items.isEmpty = false) :
    Meets (Builtin.«tuple.__mul__» ⟨[.ref l, .int 1 u], []⟩) (fun _ R s => s.heap.get? l = some { cls := .type "tuple", dict := dd, data := .seq items n, slots := sl } ∧ R (.ok (.ret (Value.ref l))) s) :=
  .of_wp fun prog w A R s h => by
    obtain ⟨hp, g, d, tk, os⟩ := s
    obtain ⟨hl, h⟩ := h
    have f1 := AutoSeq1.idx_int
    wp_walk using wpAny_loadPart' hl
    exact ⟨_, rfl, h⟩
theorem tup_mul0 (l : Addr) (items : Array Value) (n : Nat) (dd : Option Addr) (sl : Array (Option Value)) (u : Tok) (hne : items.isEmpty = false) :
    Meets (Builtin.«tuple.__mul__» ⟨[.ref l, .int 0 u], []⟩) (fun _ R s => s.heap.get? l = some { cls := .type "tuple", dict := dd, data := .seq items n, slots := sl } ∧
      R (.ok (.ret (Value.ref s.heap.objs.size))) { s with heap := s.heap.push { cls := Value.type "tuple", data := Data.seq #[] }, toks := s.toks }) :=
  .of_wp fun prog w A R s h => by
    obtain ⟨hp, g, d, tk, os⟩ := s
    obtain ⟨hl, h⟩ := h
    have f1 := AutoSeq1.idx_int
    wp_walk using wpAny_loadPart' hl
    exact ⟨_, rfl, h⟩
def rRep01 (K : PySem.W.Frag) : R2 := fun x y H Q => ∃ l k xs, x = .ref l ∧ y = .int k ∧ SqT K H l xs ∧ xs ≠ [] ∧ ((k = 1 ∧ Q (.ref l) H) ∨ (k = 0 ∧ ∀ p, H p = none → Q (.ref p) (upd H p (.tup []))))
theorem op_rep01 : OpR X (binaryOp .Mult) (rRep01 X.K) := by
  intro pins s σ H x y v u Q I rx ry h
  obtain ⟨l, k, xs, rfl, rfl, hT, hne, h⟩ := h
  cases rx
  obtain ⟨tk, rfl⟩ := ry
  obtain ⟨its, r, ⟨⟨cls, dd, data, sl⟩, ho, hc, n, hd⟩, hs⟩ := I.tuple hT
  simp only at hc hd
  subst hc hd
  have hi : its.toArray.isEmpty = false := by
    cases its with
    | nil => have := r.length; exact absurd (List.eq_nil_of_length_eq_zero this) hne
    | cons a b => rfl
  rcases h with ⟨rfl, q⟩ | ⟨rfl, q⟩
  · refine wpAny_binaryOp_repeat_ref (T := "tuple") (U := "int") (by decide) ⟨_, ho, rfl⟩ (fun s' => typeIs_int s' 1 tk) noFill_tuple_mul F.fills_int_mul F.slot_int_rmul repeat_tuple F.slot_int_index.lookup
      (call_meets F.slot_int_rmul (typeIs_int s 1 tk) F.entry_int_rmul (F.args_int_rmul_2 _ _) (int_rmul_tuple 1 tk l its.toArray n dd sl)
        ⟨ho, rfl, ⟨_, ho, rfl⟩, call_meets F.slot_tuple_mul ⟨_, ho, rfl⟩ F.entry_tuple_mul (F.args_tuple_mul_2 _ _) (tup_mul1 l its.toArray n dd sl tk hi) ⟨ho, ?_⟩⟩)
    exact ⟨.ref l, H, I, rfl, q⟩
  · refine wpAny_binaryOp_repeat_ref (T := "tuple") (U := "int") (by decide) ⟨_, ho, rfl⟩ (fun s' => typeIs_int s' 0 tk) noFill_tuple_mul F.fills_int_mul F.slot_int_rmul repeat_tuple F.slot_int_index.lookup
      (call_meets F.slot_int_rmul (typeIs_int s 0 tk) F.entry_int_rmul (F.args_int_rmul_2 _ _) (int_rmul_tuple 0 tk l its.toArray n dd sl)
        ⟨ho, rfl, ⟨_, ho, rfl⟩, call_meets F.slot_tuple_mul ⟨_, ho, rfl⟩ F.entry_tuple_mul (F.args_tuple_mul_2 _ _) (tup_mul0 l its.toArray n dd sl tk hi) ⟨ho, ?_⟩⟩)
    refine ⟨.ref s.heap.objs.size, _, I.laid (t' := s.toks) (o := .tup []) (fun b ob q => Heap.get?_push_of_some _ q) (Nat.le_refl _) ?_, rfl, q _ (I.hok.fresh (Nat.le_refl _))⟩
    exact ⟨nil_le, _, .nil, IsTup.new _ _⟩
end
/-! slices of tuples, +: the ways -/
@[irreducible] def rSlQ (K : PySem.W.Frag) : V → Option Int → Option Int → Hp → VK → Prop := rSlA K
theorem sl_tupQ {X : Cx} : SlR X (rSlQ X.K) := by
  unfold rSlQ
  exact sl_tupA
@[irreducible] def rCatQ (K : PySem.W.Frag) : R2 := rCatA K
theorem op_catQ {X : Cx} : OpR X (binaryOp .Add) (rCatQ X.K) := by
  unfold rCatQ
  exact op_catA
theorem slA_all {K : PySem.W.Frag} {H : Hp} {a : Addr} {xs : List V} {lo hi : Option Int} {Q : VK} (h : SqT K H a xs) (w : HT.sIx xs.length 0 lo = 0 ∧ HT.sIx xs.length xs.length hi = xs.length) (q : Q (.ref a) H) : rSlQ K (.ref a) lo hi H Q := by
  unfold rSlQ
  exact ⟨a, xs, rfl, h, fun _ => q, fun n => absurd w n⟩
theorem slA_cut {K : PySem.W.Frag} {H : Hp} {a : Addr} {xs : List V} {lo hi : Option Int} {Q : VK} (h : SqT K H a xs) (w : ¬ (HT.sIx xs.length 0 lo = 0 ∧ HT.sIx xs.length xs.length hi = xs.length)) (q : ∀ p, H p = none → Q (.ref p) (upd H p (.tup (cutV xs lo hi)))) : rSlQ K (.ref a) lo hi H Q := by
  unfold rSlQ
  exact ⟨a, xs, rfl, h, fun n => absurd n w, fun _ => q⟩
theorem catA_nil {K : PySem.W.Frag} {H : Hp} {a b : Addr} {ys : List V} {Q : VK} (h : SqT K H a []) (h2 : SqT K H b ys) (l : ys.length ≤ sizeLine) (q : Q (.ref b) H) : rCatQ K (.ref a) (.ref b) H Q := by
  unfold rCatQ
  exact ⟨a, b, [], ys, rfl, rfl, h, h2, by simpa using l, fun _ => q, fun n => absurd rfl n, fun n => absurd rfl n⟩
theorem catA_new {K : PySem.W.Frag} {H : Hp} {a b : Addr} {xs ys : List V} {Q : VK} (h : SqT K H a xs) (h2 : SqT K H b ys) (l : xs.length + ys.length ≤ sizeLine) (n1 : xs ≠ []) (n2 : ys ≠ []) (q : ∀ p, H p = none → Q (.ref p) (upd H p (.tup (xs ++ ys)))) : rCatQ K (.ref a) (.ref b) H Q := by
  unfold rCatQ
  exact ⟨a, b, xs, ys, rfl, rfl, h, h2, l, fun e => absurd e n1, fun _ e => absurd e n2, fun _ _ => q⟩
/-! ### dicts keyed by data: tuples in tuples -/
section
open PySem.Spec PyProof.Rows
mutual
def keyD : PyData → NestedKey
  | .int i => .num i
  | .str x => .text x
  | .tuple xs => .tup (keyDs xs)
  | _ => .none
def keyDs : List PyData → List NestedKey
  | [] => []
  | d :: ds => keyD d :: keyDs ds
end
mutual
def kable : PyData → Bool
  | .none => true
  | .int _ => true
  | .str _ => true
  | .tuple xs => kables xs
  | _ => false
def kables : List PyData → Bool
  | [] => true
  | d :: ds => kable d && kables ds
end
mutual
theorem keyD_eqv : ∀ a b : PyData, kable a = true → kable b = true → (keyD a = keyD b ↔ PyData.eqv a b = true)
  | .none, b, _, hb => by cases b <;> simp_all [keyD, PyData.eqv, kable]
  | .int i, b, _, hb => by cases b <;> simp_all [keyD, PyData.eqv, kable]
  | .str x, b, _, hb => by cases b <;> simp_all [keyD, PyData.eqv, kable]
  | .tuple xs, .tuple ys, ha, hb => by
    rw [keyD, keyD, PyData.eqv, NestedKey.tup.injEq]
    exact keyDs_eqv xs ys (by rw [kable] at ha; exact ha) (by rw [kable] at hb; exact hb)
  | .tuple xs, .none, _, _ => by simp [keyD, PyData.eqv]
  | .tuple xs, .int _, _, _ => by simp [keyD, PyData.eqv]
  | .tuple xs, .str _, _, _ => by simp [keyD, PyData.eqv]
  | .tuple xs, .bool _, _, hb => by simp [kable] at hb
  | .tuple xs, .list _, _, hb => by simp [kable] at hb
  | .tuple xs, .dict _, _, hb => by simp [kable] at hb
  | .bool _, _, ha, _ => by simp [kable] at ha
  | .list _, _, ha, _ => by simp [kable] at ha
  | .dict _, _, ha, _ => by simp [kable] at ha
theorem keyDs_eqv : ∀ a b : List PyData, kables a = true → kables b = true → (keyDs a = keyDs b ↔ PyData.eqvAll a b = true)
  | [], [], _, _ => by simp [keyDs, PyData.eqvAll]
  | [], _ :: _, _, _ => by simp [keyDs, PyData.eqvAll]
  | _ :: _, [], _, _ => by simp [keyDs, PyData.eqvAll]
  | a :: as, b :: bs, ha, hb => by
    rw [kables, Bool.and_eq_true] at ha hb
    rw [keyDs, keyDs, PyData.eqvAll, Bool.and_eq_true, List.cons.injEq, keyD_eqv a b ha.1 hb.1, keyDs_eqv as bs ha.2 hb.2]
end
mutual
theorem keyD_depth : ∀ d : PyData, (keyD d).depth ≤ d.depth
  | .none => by simp [keyD, NestedKey.depth]
  | .int _ => by simp [keyD, NestedKey.depth]
  | .str _ => by simp [keyD, NestedKey.depth]
  | .bool _ => by simp [keyD, NestedKey.depth]
  | .list _ => by simp [keyD, NestedKey.depth]
  | .dict _ => by simp [keyD, NestedKey.depth]
  | .tuple xs => by
    rw [keyD, NestedKey.depth, PyData.depth]
    exact Nat.succ_le_succ (keyDs_depth xs)
theorem keyDs_depth : ∀ ds : List PyData, NestedKey.depthAll (keyDs ds) ≤ PyData.depthAll ds
  | [] => by simp [keyDs, NestedKey.depthAll]
  | d :: ds => by
    have h1 := keyD_depth d
    have h2 := keyDs_depth ds
    rw [keyDs, NestedKey.depthAll, PyData.depthAll]
    omega
end
section
variable {X : Cx} {pins : List (Addr × Obj)} {σ : L2.St} {H : Hp} {s : Shared}
mutual
theorem key_at (I : Inv X pins σ H s) : ∀ (d : PyData) (v : V) (u : Value), kable d = true → Dp X.K H v d → RelV v u → NestedIs s.heap (keyD d) u
  | .none, _, _, _, hd, r => by cases hd; cases r; exact .none
  | .int i, _, _, _, hd, r => by cases hd; obtain ⟨t, rfl⟩ := r; exact .int _ _
  | .str x, _, _, _, hd, r => by cases hd; obtain ⟨t, rfl⟩ := r; exact .text _ _
  | .tuple ds, _, _, hk, hd, r => by
    cases hd with
    | tup hs ha =>
      cases r
      obtain ⟨its, rv, ⟨o, ho, hc, n, hdt⟩, _⟩ := I.tuple hs
      exact .tup ho hc hdt (by simpa using keys_at I ds _ its (by rw [kable] at hk; exact hk) ha rv)
  | .bool _, _, _, hk, _, _ => by simp [kable] at hk
  | .list _, _, _, hk, _, _ => by simp [kable] at hk
  | .dict _, _, _, hk, _, _ => by simp [kable] at hk
theorem keys_at (I : Inv X pins σ H s) : ∀ (ds : List PyData) (vs : List V) (us : List Value), kables ds = true → DpAll X.K H vs ds → Vals vs us → NestedAll s.heap (keyDs ds) us
  | [], _, _, _, hd, r => by cases hd; cases r; exact .nil
  | d :: ds, _, _, hk, hd, r => by
    rw [kables, Bool.and_eq_true] at hk
    cases hd with
    | cons h1 h2 =>
      cases r with
      | cons r1 r2 => exact .cons (key_at I d _ _ hk.1 h1 r1) (keys_at I ds _ _ hk.2 h2 r2)
end
end
/-- a key, the place of its tuple, the value -/
abbrev Ne := NestedKey × Addr × V
def RelN : List Ne → List (NestedKey × Addr × Value) → Prop := Paired fun p q => p.1 = q.1 ∧ p.2.1 = q.2.1 ∧ RelV p.2.2 q.2.2
def NOk (P : Program) (w : World) (a : Addr) (xs : List Ne) (h : Heap) : Prop := xs.length ≤ sizeLine ∧ (a == sysModules) = false ∧ ∃ ys, RelN xs ys ∧
  ∃ o es ep, h.get? a = some o ∧ o.ExactDict ∧ o.data = .dict es ep ∧ es.toList = ys.map (entryOfKey (nestedKind P w)) ∧ (ys.map (·.1)).Nodup
/-- a dict of such keys -/
def DictN (P : Program) (w : World) (a : Addr) (xs : List Ne) : HO := .ext (NOk P w a xs)
theorem NOk.obj {P : Program} {w : World} {a : Addr} {xs : List Ne} {h : Heap} {H : Hp} (x : NOk P w a xs h) : ObjOk P w H h a (DictN P w a xs) := by
  refine ⟨x, ?_, fun h1 h2 y k => ?_⟩
  · obtain ⟨_, _, _, _, o, _, _, e, _⟩ := x
    exact ⟨o, e⟩
  · obtain ⟨z1, z2, ys, r, o, es, ep, e, c⟩ := y
    exact ⟨z1, z2, ys, r, o, es, ep, k _ e, c⟩
def valN (xs : List Ne) (k : NestedKey) : Option V := (xs.find? fun x => decide (x.1 = k)).map (·.2.2)
def putN (xs : List Ne) (k : NestedKey) (b : Addr) (v : V) : List Ne := if (valN xs k).isSome then xs.map (fun x => if x.1 = k then (x.1, x.2.1, v) else x) else xs ++ [(k, b, v)]
theorem RelN.val {xs : List Ne} {ys : List (NestedKey × Addr × Value)} (r : RelN xs ys) (k : NestedKey) : RelO (valN xs k) ((atKey ys k).map (·.2)) := by
  induction r with
  | nil => exact True.intro
  | @cons p q ps qs h t ih =>
    obtain ⟨h1, h2, h3⟩ := h
    unfold valN atKey at ih ⊢
    rw [List.find?_cons, List.find?_cons]
    by_cases e : p.1 = k
    · rw [decide_eq_true e, decide_eq_true (h1 ▸ e)]
      exact h3
    · rw [decide_eq_false e, decide_eq_false (h1 ▸ e)]
      exact ih
theorem RelN.put {xs : List Ne} {ys : List (NestedKey × Addr × Value)} (r : RelN xs ys) (k : NestedKey) (b : Addr) {v : V} {u : Value} (rv : RelV v u) : RelN (putN xs k b v) (storedH ys k b u) := by
  have e : (valN xs k).isSome = (atKey ys k).isSome := by
    rw [(r.val k).isSome_eq, Option.isSome_map]
  unfold putN storedH
  rw [e]
  by_cases h : (atKey ys k).isSome = true
  · rw [if_pos h, if_pos h]
    clear e h
    induction r with
    | nil => exact .nil
    | @cons p q ps qs hpq t ih =>
      obtain ⟨h1, h2, h3⟩ := hpq
      refine .cons ?_ ih
      unfold putAt
      dsimp only
      by_cases e : p.1 = k
      · rw [if_pos e, if_pos (h1 ▸ e)]; exact ⟨h1, h2, rv⟩
      · rw [if_neg e, if_neg (h1 ▸ e)]; exact ⟨h1, h2, h3⟩
  · rw [if_neg h, if_neg h]
    clear e h
    induction r with
    | nil => exact .cons ⟨rfl, rfl, rv⟩ .nil
    | cons hpq t ih => exact .cons hpq ih
/-- the keys stand yet -/
def KeysN (K : PySem.W.Frag) (H : Hp) (xs : List Ne) : Prop := ∀ t ∈ xs, ∃ d, keyD d = t.1 ∧ kable d = true ∧ d.depth ≤ 8 ∧ Dp K H (.ref t.2.1) d
section
variable {X : Cx} {pins : List (Addr × Obj)} {σ : L2.St} {H : Hp} {s : Shared} {a : Addr} {xs : List Ne}
theorem n_of (I : Inv X pins σ H s) (e : H a = some (DictN X.prog X.w a xs)) (hk : KeysN X.K H xs) : xs.length ≤ sizeLine ∧ (a == sysModules) = false ∧ ∃ ys, RelN xs ys ∧ s.heap.DictOfH (nestedKind X.prog X.w) a ys := by
  obtain ⟨⟨z1, z2, ys, r, o, es, ep, e1, e2, e3, e4, e5⟩, _⟩ := (show ObjOk X.prog X.w H s.heap a (DictN X.prog X.w a xs) from I.hok a _ e)
  refine ⟨z1, z2, ys, r, o, es, ep, e1, e2, e3, e4, ?_, e5⟩
  have all : ∀ {xs : List Ne} {ys : List (NestedKey × Addr × Value)}, RelN xs ys → KeysN X.K H xs → ∀ x ∈ ys, (nestedKind X.prog X.w).is s.heap x.1 x.2.1 := by
    intro xs ys r
    induction r with
    | nil => intro _ x hx; exact nomatch hx
    | @cons p q ps qs h t ih =>
      intro hk x hx
      obtain ⟨h1, h2, h3⟩ := h
      rcases List.mem_cons.mp hx with e | hx
      · subst e
        obtain ⟨d, k1, k2, k3, k4⟩ := hk p (List.mem_cons_self ..)
        rw [← h1, ← h2, ← k1]
        exact ⟨key_at I d _ _ k2 k4 rfl, Nat.le_trans (keyD_depth d) k3⟩
      · exact ih (fun t m => hk t (List.mem_cons_of_mem _ m)) x hx
  exact all r hk
end
/-- what the dict at a holds at the key y -/
def NGet (X : Cx) (H : Hp) (a : Addr) (y : V) (o : Option V) : Prop := ∃ xs b d, H a = some (DictN X.prog X.w a xs) ∧ KeysN X.K H xs ∧ y = .ref b ∧ Dp X.K H y d ∧ kable d = true ∧ d.depth ≤ 8 ∧ o = valN xs (keyD d)
def NPut (X : Cx) (H : Hp) (a : Addr) (y v : V) (H' : Hp) : Prop := ∃ xs b d, H a = some (DictN X.prog X.w a xs) ∧ KeysN X.K H xs ∧ y = .ref b ∧ Dp X.K H y d ∧ kable d = true ∧ d.depth ≤ 8 ∧ xs.length < sizeLine ∧ H' = upd H a (DictN X.prog X.w a (putN xs (keyD d) b v))
theorem putN_len (xs : List Ne) (k : NestedKey) (b : Addr) (v : V) : (putN xs k b v).length ≤ xs.length + 1 := by
  unfold putN
  split
  · rw [List.length_map]; omega
  · rw [List.length_append]; exact Nat.le_refl _
section
variable {X : Cx} {pins : List (Addr × Obj)} {σ : L2.St} {H : Hp} {s : Shared} {a : Addr} {y v : V} {u r : Value} {o : Option V} {A : Around} {E : Value → Shared → Prop}
theorem n_in {Q : Value → Shared → Prop} (hu : A.units + 9 < cLine) (I : Inv X pins σ H s) (g : NGet X H a y o) (ry : RelV y u) (h : ∀ s', Inv X pins σ H s' → Q (.bool o.isSome) s') : wpAny (model X.prog X.w) A (compareOp .In u (.ref a)) Q E s := by
  obtain ⟨xs, b, d, e, hk, rfl, hd, kd, dd, l⟩ := g
  cases (show u = Value.ref b from ry)
  obtain ⟨z, zd, ys, rel, D⟩ := n_of I e hk
  refine wpAny_in_heap (knd := nestedKind X.prog X.w) (show A.units + 1 + 8 < cLine by omega) ⟨key_at I d _ _ kd hd rfl, Nat.le_trans (keyD_depth d) dd⟩ zd D ?_
  have q := (rel.val (keyD d)).isSome_eq
  rw [Option.isSome_map] at q
  rw [← q, ← l]
  exact h _ (I.tok _)
theorem n_notIn {Q : Value → Shared → Prop} (hu : A.units + 9 < cLine) (I : Inv X pins σ H s) (g : NGet X H a y o) (ry : RelV y u) (h : ∀ s', Inv X pins σ H s' → Q (.bool (!o.isSome)) s') : wpAny (model X.prog X.w) A (compareOp .NotIn u (.ref a)) Q E s := by
  obtain ⟨xs, b, d, e, hk, rfl, hd, kd, dd, l⟩ := g
  cases (show u = Value.ref b from ry)
  obtain ⟨z, zd, ys, rel, D⟩ := n_of I e hk
  refine wpAny_notIn_heap (knd := nestedKind X.prog X.w) (show A.units + 1 + 8 < cLine by omega) ⟨key_at I d _ _ kd hd rfl, Nat.le_trans (keyD_depth d) dd⟩ zd D ?_
  have q := (rel.val (keyD d)).isSome_eq
  rw [Option.isSome_map] at q
  rw [← q, ← l]
  exact h _ (I.tok _)
theorem n_item {Q : Value → Shared → Prop} (hu : A.units + 9 < cLine) (I : Inv X pins σ H s) (g : NGet X H a y (some v)) (ry : RelV y u) (h : ∀ w' s', Inv X pins σ H s' → RelV v w' → Q w' s') : wpAny (model X.prog X.w) A (getItem (.ref a) u) Q E s := by
  obtain ⟨xs, b, d, e, hk, rfl, hd, kd, dd, l⟩ := g
  cases (show u = Value.ref b from ry)
  obtain ⟨z, zd, ys, rel, D⟩ := n_of I e hk
  obtain ⟨w', hw, rw'⟩ := RelO.some_of (v := v) (o := (atKey ys (keyD d)).map (·.2)) (by rw [l]; exact rel.val _)
  obtain ⟨p, hp, hp2⟩ := Option.map_eq_some_iff.mp hw
  refine wpAny_getItem_heap (knd := nestedKind X.prog X.w) (show A.units + 1 + 8 < cLine by omega) ⟨key_at I d _ _ kd hd rfl, Nat.le_trans (keyD_depth d) dd⟩ D hp ?_
  rw [hp2]
  exact h w' _ (I.tok _) rw'
theorem n_set {H' : Hp} {Q : Unit → Shared → Prop} (hu : A.units + 9 < cLine) (I : Inv X pins σ H s) (g : NPut X H a y v H') (ry : RelV y u) (rv : RelV v r) (h : ∀ s', Inv X pins σ H' s' → Q () s') : wpAny (model X.prog X.w) A (setItem (.ref a) u r) Q E s := by
  obtain ⟨xs, b, d, e, hk, rfl, hd, kd, dd, l, rfl⟩ := g
  cases (show u = Value.ref b from ry)
  obtain ⟨z, zd, ys, rel, D⟩ := n_of I e hk
  have hz : ys.length ≤ sizeLine := by rw [← Paired.length rel]; exact z
  have hl : (putN xs (keyD d) b v).length ≤ sizeLine := by have := putN_len xs (keyD d) b v; omega
  refine wpAny_setItem_heap (hsz := hz) (knd := nestedKind X.prog X.w) (show A.units + 1 + 8 < cLine by omega) ⟨key_at I d _ _ kd hd rfl, Nat.le_trans (keyD_depth d) dd⟩ D fun h' D' hs => h _ ?_
  obtain ⟨q, es, ep, hq, h2, h3, h4, _, h5⟩ := D'
  exact d_write I (by rw [e]; exact True.intro) hs ⟨q, hq⟩ (NOk.obj ⟨hl, zd, _, rel.put _ b rv, q, es, ep, hq, h2, h3, h4, h5⟩)
end
/-! the rules -/
def tNNew (P : Program) (w : World) : TE := fun _ H Q => ∀ p, H p = none → Q (.ref p) (upd H p (DictN P w p []))
def tNIn (X : Cx) (n : Bool) (ty td : TE) : TE := fun σ H Q => ty σ H fun y H1 => td σ H1 fun x H2 => ∃ a o, x = .ref a ∧ NGet X H2 a y o ∧ Q (.bl (if n then !o.isSome else o.isSome)) H2
def tNGet (X : Cx) (td ty : TE) : TE := fun σ H Q => td σ H fun x H1 => ty σ H1 fun y H2 => ∃ a v, x = .ref a ∧ NGet X H2 a y (some v) ∧ Q v H2
def sNPut (X : Cx) (td ty tv : TE) : TS := fun D σ H => tv σ H fun v H1 => td σ H1 fun x H2 => ty σ H2 fun y H3 => ∃ a H4, x = .ref a ∧ NPut X H3 a y v H4 ∧ D.nx σ H4
section
variable {X : Cx} {o i value : PySem.Expr} {pos pos' : Pos} {td ty tv : TE}
theorem pe_nnew : PE X (.Dict [] [] pos) (tNNew X.prog X.w) := ⟨fun pins s σ H Q I h => by
  refine wpAny_Dict_empty ⟨.ref s.heap.objs.size, _, I.laid (a := s.heap.objs.size) (o := DictN X.prog X.w s.heap.objs.size []) (t' := s.toks) (fun _ _ q => Heap.get?_push_of_some _ q) (Nat.le_refl _) ?_, rfl, h _ (I.hok.fresh (Nat.le_refl _))⟩
  exact NOk.obj ⟨Nat.zero_le _, beq_eq_false_iff_ne.mpr (Ne.symm (Nat.ne_of_lt I.big)), [], .nil, _, #[], 0, Heap.get?_push_size _ rfl, ⟨rfl, rfl, rfl⟩, rfl, rfl, List.nodup_nil⟩⟩
theorem pc_nin (hu : X.A.units + 9 < cLine) (hi : PE X i ty) (ho : PE X o td) : PC X .In i o (tNIn X false ty td) := by
  refine ⟨fun pins s σ H Q I h => thn (hi.run pins s σ H _ I h) fun iv s1 ⟨y, H1, J1, ry, q1⟩ => thn (ho.run pins s1 σ H1 _ J1 q1) fun u s2 ⟨x, H2, J2, rx, a, ov, ex, g, q2⟩ => ?_⟩
  subst ex
  obtain rfl : u = Value.ref a := rx
  exact n_in hu J2 g ry fun s3 J3 => ⟨.bl ov.isSome, H2, J3, rfl, q2⟩
theorem pc_nnotin (hu : X.A.units + 9 < cLine) (hi : PE X i ty) (ho : PE X o td) : PC X .NotIn i o (tNIn X true ty td) := by
  refine ⟨fun pins s σ H Q I h => thn (hi.run pins s σ H _ I h) fun iv s1 ⟨y, H1, J1, ry, q1⟩ => thn (ho.run pins s1 σ H1 _ J1 q1) fun u s2 ⟨x, H2, J2, rx, a, ov, ex, g, q2⟩ => ?_⟩
  subst ex
  obtain rfl : u = Value.ref a := rx
  exact n_notIn hu J2 g ry fun s3 J3 => ⟨.bl (!ov.isSome), H2, J3, rfl, q2⟩
theorem ps_nput (hu : X.A.units + 9 < cLine) (ho : PE X o td) (hi : PE X i ty) (hv : PE X value tv) (hs : swapsWith value (some (.Subscript o i pos')) pos.line X.env = pure false) : PS X (.Assign [.Subscript o i pos'] value pos) (sNPut X td ty tv) := by
  refine ⟨fun pins s σ H D I h => wpAny_Assign_Subscript (thn (hv.run pins s σ H _ I h) fun r s1 ⟨v, H1, J1, rv, q1⟩ => thn (ho.run pins s1 σ H1 _ J1 q1) fun u s2 ⟨x, H2, J2, rx, q2⟩ => thn (hi.run pins s2 σ H2 _ J2 q2) fun iv s3 ⟨y, H3, J3, ry, a, H4, ex, g, q3⟩ => ?_) hs⟩
  subst ex
  obtain rfl : u = Value.ref a := rx
  exact n_set hu J3 g ry rv fun s4 J4 => ⟨σ, H4, J4, q3⟩
end
/-! the same, of typed data -/
abbrev DL (α : Type) := List (Addr × α × V)
def neL {α : Type} [Dat α] (l : DL α) : List Ne := l.map fun t => (keyD (Dat.py t.2.1), t.1, t.2.2)
def DictD (P : Program) (w : World) {α : Type} [Dat α] (a : Addr) (l : DL α) : HO := DictN P w a (neL l)
def hasD {α : Type} [DecidableEq α] (l : DL α) (x : α) : Bool := l.any fun t => decide (t.2.1 = x)
def putD {α : Type} [DecidableEq α] (l : DL α) (b : Addr) (x : α) (v : V) : DL α := if hasD l x = true then l.map (fun t => if t.2.1 = x then (t.1, t.2.1, v) else t) else l ++ [(b, x, v)]
def KeysD {α : Type} [Dat α] (H : Hp) (l : DL α) : Prop := ∀ t ∈ l, Is H (.ref t.1) t.2.1
class Kd (α : Type) [Dat α] : Prop where
  k : ∀ d : α, kable (Dat.py d) = true
instance : Kd Int := ⟨fun _ => by show kable (.int _) = true; rw [kable]⟩
theorem kd_all {α : Type} [Dat α] [Kd α] : ∀ l : List α, kables (l.map Dat.py) = true
  | [] => by rw [List.map_nil, kables]
  | d :: l => by rw [List.map_cons, kables, Kd.k, kd_all l]; rfl
instance {α : Type} [Dat α] [Kd α] : Kd (Tup α) := ⟨fun d => by show kable (.tuple (d.l.map Dat.py)) = true; rw [kable]; exact kd_all d.l⟩
instance {α β : Type} [Dat α] [Dat β] [Kd α] [Kd β] : Kd (T2 α β) := ⟨fun d => by
  show kable (.tuple [Dat.py d.a, Dat.py d.b]) = true
  rw [kable, kables, kables, kables, Kd.k, Kd.k]; rfl⟩
instance {α β γ : Type} [Dat α] [Dat β] [Dat γ] [Kd α] [Kd β] [Kd γ] : Kd (T3 α β γ) := ⟨fun d => by
  show kable (.tuple [Dat.py d.a, Dat.py d.b, Dat.py d.c]) = true
  rw [kable, kables, kables, kables, kables, Kd.k, Kd.k, Kd.k]; rfl⟩
section
variable {α : Type} [Dat α] [DecidableEq α] [Kd α]
theorem keyD_inj (a b : α) : (keyD (Dat.py a) = keyD (Dat.py b)) = (a = b) := propext ((keyD_eqv _ _ (Kd.k a) (Kd.k b)).trans (Dat.eqv a b))
theorem KeysD.n {K : PySem.W.Frag} {H : Hp} {l : DL α} (h : KeysD H l) (hl : Dat.dep α ≤ 8) : KeysN K H (neL l) := fun t m => by
  obtain ⟨x, mx, rfl⟩ := List.mem_map.mp m
  exact ⟨Dat.py x.2.1, rfl, Kd.k _, Nat.le_trans (Dat.depth _) hl, Dat.dp (h x mx)⟩
theorem KeysD.up {H H' : Hp} {l : DL α} (h : KeysD H l) (s : Same H H') : KeysD H' l := fun t m => Is.up (h t m) s
theorem valN_neL (x : α) : ∀ l : DL α, (valN (neL l) (keyD (Dat.py x))).isSome = hasD l x
  | [] => rfl
  | t :: l => by
    have ih := valN_neL x l
    unfold valN neL hasD at ih ⊢
    rw [List.map_cons, List.find?_cons, List.any_cons]
    simp only [keyD_inj] at ih ⊢
    by_cases e : t.2.1 = x
    · rw [decide_eq_true e]; rfl
    · rw [decide_eq_false e, Bool.false_or]; exact ih
theorem putN_neL (l : DL α) (b : Addr) (x : α) (v : V) : putN (neL l) (keyD (Dat.py x)) b v = neL (putD l b x v) := by
  unfold putN putD
  rw [valN_neL]
  by_cases h : hasD l x = true
  · rw [if_pos h, if_pos h]
    unfold neL
    rw [List.map_map, List.map_map]
    congr 1
    funext t
    simp only [Function.comp, keyD_inj]
    by_cases e : t.2.1 = x
    · rw [if_pos e, if_pos e]
    · rw [if_neg e, if_neg e]
  · rw [if_neg h, if_neg h]
    unfold neL
    rw [List.map_append]; rfl
theorem NGet.d {X : Cx} {P : Program} {w : World} {H : Hp} {a b : Addr} {l : DL α} {x : α} (h : H a = some (DictD P w a l)) (k : KeysD H l) (hx : Is H (.ref b) x) (hP : X.prog = P := by rfl) (hw : X.w = w := by rfl) (hl : Dat.dep α ≤ 8 := by decide) : NGet X H a (.ref b) (valN (neL l) (keyD (Dat.py x))) := by
  subst hP hw
  exact ⟨neL l, b, Dat.py x, h, k.n hl, rfl, Dat.dp hx, Kd.k x, Nat.le_trans (Dat.depth x) hl, rfl⟩
theorem NPut.d {X : Cx} {P : Program} {w : World} {H : Hp} {a b : Addr} {l : DL α} {x : α} {v : V} (h : H a = some (DictD P w a l)) (k : KeysD H l) (hx : Is H (.ref b) x) (z : l.length < sizeLine) (hP : X.prog = P := by rfl) (hw : X.w = w := by rfl) (hl : Dat.dep α ≤ 8 := by decide) : NPut X H a (.ref b) v (upd H a (DictD P w a (putD l b x v))) := by
  subst hP hw
  exact ⟨neL l, b, Dat.py x, h, k.n hl, rfl, Dat.dp hx, Kd.k x, Nat.le_trans (Dat.depth x) hl, by unfold neL; rw [List.length_map]; exact z, by rw [putN_neL]; rfl⟩
theorem hasD_put (l : DL α) (b : Addr) (x y : α) (v : V) : hasD (putD l b x v) y = (decide (x = y) || hasD l y) := by
  unfold putD
  by_cases h : hasD l x = true
  · rw [if_pos h]
    have e : hasD (l.map fun t => if t.2.1 = x then (t.1, t.2.1, v) else t) y = hasD l y := by
      unfold hasD
      rw [List.any_map]
      congr 1
      funext t
      show decide ((if t.2.1 = x then (t.1, t.2.1, v) else t).2.1 = y) = _
      split <;> rfl
    rw [e]
    by_cases c : x = y
    · subst c; rw [h, Bool.or_true]
    · rw [decide_eq_false c, Bool.false_or]
  · rw [if_neg h]
    unfold hasD
    rw [List.any_append, List.any_cons, List.any_nil, Bool.or_false, Bool.or_comm]
theorem KeysD.put {H : Hp} {l : DL α} {b : Addr} {x : α} {v : V} (h : KeysD H l) (hx : Is H (.ref b) x) : KeysD H (putD l b x v) := fun t m => by
  unfold putD at m
  by_cases c : hasD l x = true
  · rw [if_pos c] at m
    obtain ⟨t0, m0, rfl⟩ := List.mem_map.mp m
    have z := h t0 m0
    show Is H (.ref (if t0.2.1 = x then (t0.1, t0.2.1, v) else t0).1) (if t0.2.1 = x then (t0.1, t0.2.1, v) else t0).2.1
    split <;> exact z
  · rw [if_neg c] at m
    rcases List.mem_append.mp m with m | m
    · exact h t m
    · rw [List.mem_singleton.mp m]; exact hx
theorem putD_len (l : DL α) (b : Addr) (x : α) (v : V) : (putD l b x v).length ≤ l.length + 1 := by
  unfold putD
  split
  · rw [List.length_map]; omega
  · rw [List.length_append]; exact Nat.le_refl _
end
theorem units9 {k : Nat} {A : Around} (r : Room k A) : A.units + 9 < cLine := by have := r.un; omega
end
def top (i : Nat) : Stmt := PySem.Challenge.pw_endnever_k70_blocks_gone_through.main.body.getD i (.Pass ⟨0, 0, 0, 0⟩)
abbrev s_L_at : Stmt := top 13
abbrev N_L_at : List Str := ["_law_script", "_law_k"]
theorem sc_L_at : FnScope ["_law_script", "_law_k"] ["_law_script", "_law_k"] (defScope s_L_at) := ⟨rfl, rfl, rfl, by decide +kernel, rfl, by decide +kernel, by decide +kernel⟩
abbrev s_L_purse : Stmt := top 16
abbrev N_L_purse : List Str := ["_law_script", "_law_at_here", "_law_cell"]
theorem sc_L_purse : FnScope ["_law_script", "_law_at_here", "_law_cell"] ["_law_script", "_law_at_here"] (defScope s_L_purse) := ⟨rfl, rfl, rfl, by decide +kernel, rfl, by decide +kernel, by decide +kernel⟩
abbrev s_L_mixed : Stmt := top 15
abbrev N_L_mixed : List Str := ["_law_cell", "_law_k", "_law_number"]
theorem sc_L_mixed : FnScope ["_law_cell", "_law_k", "_law_number"] ["_law_cell", "_law_k"] (defScope s_L_mixed) := ⟨rfl, rfl, rfl, by decide +kernel, rfl, by decide +kernel, by decide +kernel⟩
abbrev s_L_draw : Stmt := top 17
abbrev N_L_draw : List Str := ["_law_purse_here", "_law_out_of", "_law_drawn", "_law_number"]
theorem sc_L_draw : FnScope ["_law_purse_here", "_law_out_of", "_law_drawn", "_law_number"] ["_law_purse_here", "_law_out_of"] (defScope s_L_draw) := ⟨rfl, rfl, rfl, by decide +kernel, rfl, by decide +kernel, by decide +kernel⟩
abbrev s_L_entry : Stmt := top 18
abbrev N_L_entry : List Str := ["_law_purse_here", "_law_rows", "_law_signs", "_law_row", "_law_few", "_law_put", "_law_way", "_law_to"]
theorem sc_L_entry : FnScope ["_law_purse_here", "_law_rows", "_law_signs", "_law_row", "_law_few", "_law_put", "_law_way", "_law_to"] ["_law_purse_here", "_law_rows", "_law_signs", "_law_row", "_law_few"] (defScope s_L_entry) := ⟨rfl, rfl, rfl, by decide +kernel, rfl, by decide +kernel, by decide +kernel⟩
abbrev s_L_machine : Stmt := top 19
abbrev N_L_machine : List Str := ["_law_purse_here", "_law_rows", "_law_signs", "_law_few", "_law_sign", "_law_row"]
theorem sc_L_machine : FnScope ["_law_purse_here", "_law_rows", "_law_signs", "_law_few", "_law_sign", "_law_row"] ["_law_purse_here"] (defScope s_L_machine) := ⟨rfl, rfl, rfl, by decide +kernel, rfl, by decide +kernel, by decide +kernel⟩
abbrev s_L_kept : Stmt := top 20
abbrev N_L_kept : List Str := ["_law_machine_here", "_law_row"]
theorem sc_L_kept : FnScope ["_law_machine_here", "_law_row"] ["_law_machine_here"] (defScope s_L_kept) := ⟨rfl, rfl, rfl, by decide +kernel, rfl, by decide +kernel, by decide +kernel⟩
abbrev s_L_block : Stmt := top 22
abbrev N_L_block : List Str := ["_law_purse_here", "_law_signs", "_law_k"]
theorem sc_L_block : FnScope ["_law_purse_here", "_law_signs", "_law_k"] ["_law_purse_here", "_law_signs"] (defScope s_L_block) := ⟨rfl, rfl, rfl, by decide +kernel, rfl, by decide +kernel, by decide +kernel⟩
abbrev s_L_through : Stmt := top 21
abbrev N_L_through : List Str := ["_law_machine_here", "_law_block_here", "_law_row", "_law_side", "_law_signs", "_law_place", "_law_seen", "_law_steps", "_law_entry_here"]
theorem sc_L_through : FnScope ["_law_machine_here", "_law_block_here", "_law_row", "_law_side", "_law_signs", "_law_place", "_law_seen", "_law_steps", "_law_entry_here"] ["_law_machine_here", "_law_block_here", "_law_row", "_law_side"] (defScope s_L_through) := ⟨rfl, rfl, rfl, by decide +kernel, rfl, by decide +kernel, by decide +kernel⟩
abbrev s_is_entry : Stmt := top 6
abbrev N_is_entry : List Str := ["entry", "rows", "signs"]
theorem sc_is_entry : FnScope ["entry", "rows", "signs"] ["entry", "rows", "signs"] (defScope s_is_entry) := ⟨rfl, rfl, rfl, by decide +kernel, rfl, by decide +kernel, by decide +kernel⟩
abbrev s_is_machine : Stmt := top 7
abbrev N_is_machine : List Str := ["machine", "rows", "signs", "row", "entry"]
theorem sc_is_machine : FnScope ["machine", "rows", "signs", "row", "entry"] ["machine"] (defScope s_is_machine) := ⟨rfl, rfl, rfl, by decide +kernel, rfl, by decide +kernel, by decide +kernel⟩
abbrev s_must_machine : Stmt := top 8
abbrev N_must_machine : List Str := ["machine"]
theorem sc_must_machine : FnScope ["machine"] ["machine"] (defScope s_must_machine) := ⟨rfl, rfl, rfl, by decide +kernel, rfl, by decide +kernel, by decide +kernel⟩
abbrev s_most_setups : Stmt := top 10
abbrev N_most_setups : List Str := ["machine", "block", "found", "sign"]
theorem sc_most_setups : FnScope ["machine", "block", "found", "sign"] ["machine", "block"] (defScope s_most_setups) := ⟨rfl, rfl, rfl, by decide +kernel, rfl, by decide +kernel, by decide +kernel⟩
abbrev s_through : Stmt := top 11
abbrev N_through : List Str := ["machine", "block", "row", "side", "signs", "place", "steps", "entry"]
theorem sc_through : FnScope ["machine", "block", "row", "side", "signs", "place", "steps", "entry"] ["machine", "block", "row", "side"] (defScope s_through) := ⟨rfl, rfl, rfl, by decide +kernel, rfl, by decide +kernel, by decide +kernel⟩
abbrev s_L_counted : Stmt := top 24
abbrev N_L_counted : List Str := ["_law_number", "_law_counter", "_law_block_here"]
theorem sc_L_counted : FnScope ["_law_number", "_law_counter", "_law_block_here"] ["_law_number"] (defScope s_L_counted) := ⟨rfl, rfl, rfl, by decide +kernel, rfl, by decide +kernel, by decide +kernel⟩
abbrev s_L_whole : Stmt := top 14
abbrev N_L_whole : List Str := ["_law_found"]
theorem sc_L_whole : FnScope ["_law_found"] ["_law_found"] (defScope s_L_whole) := ⟨rfl, rfl, rfl, by decide +kernel, rfl, by decide +kernel, by decide +kernel⟩
abbrev s_L_kinds : Stmt := top 23
abbrev N_L_kinds : List Str := ["_law_found", "_law_number"]
theorem sc_L_kinds : FnScope ["_law_found", "_law_number"] ["_law_found"] (defScope s_L_kinds) := ⟨rfl, rfl, rfl, by decide +kernel, rfl, by decide +kernel, by decide +kernel⟩
abbrev s_law : Stmt := top 25
abbrev N_law : List Str := ["_law_script", "_law_k", "_law_purse_here", "_law_machine_here", "_law_handed", "_law_turn", "_law_block_here", "_law_row", "_law_side", "_law_due", "_law_again", "_law_found"]
theorem sc_law : FnScope ["_law_script", "_law_k", "_law_purse_here", "_law_machine_here", "_law_handed", "_law_turn", "_law_block_here", "_law_row", "_law_side", "_law_due", "_law_again", "_law_found"] ["_law_script"] (defScope s_law) := ⟨rfl, rfl, rfl, by decide +kernel, rfl, by decide +kernel, by decide +kernel⟩
/-- what the top has written: where each def stands, what the names hold -/
structure Tx (K : PySem.W.Frag) (mg : Str → Option Value) where
  a_L_at : Addr
  fd_L_at : FuncData
  F_L_at : Fun K "_law_at" "_law_at" s_L_at a_L_at fd_L_at
  b_L_at : Binds K fd_L_at ["_law_script", "_law_k"] []
  m_L_at : mg "_law_at" = some (.ref a_L_at)
  a_L_purse : Addr
  fd_L_purse : FuncData
  F_L_purse : Fun K "_law_purse" "_law_purse" s_L_purse a_L_purse fd_L_purse
  b_L_purse : Binds K fd_L_purse ["_law_script", "_law_at_here"] []
  m_L_purse : mg "_law_purse" = some (.ref a_L_purse)
  a_L_mixed : Addr
  fd_L_mixed : FuncData
  F_L_mixed : Fun K "_law_mixed" "_law_mixed" s_L_mixed a_L_mixed fd_L_mixed
  b_L_mixed : Binds K fd_L_mixed ["_law_cell", "_law_k"] []
  m_L_mixed : mg "_law_mixed" = some (.ref a_L_mixed)
  a_L_draw : Addr
  fd_L_draw : FuncData
  F_L_draw : Fun K "_law_draw" "_law_draw" s_L_draw a_L_draw fd_L_draw
  b_L_draw : Binds K fd_L_draw ["_law_purse_here", "_law_out_of"] []
  m_L_draw : mg "_law_draw" = some (.ref a_L_draw)
  a_L_entry : Addr
  fd_L_entry : FuncData
  F_L_entry : Fun K "_law_entry" "_law_entry" s_L_entry a_L_entry fd_L_entry
  b_L_entry : Binds K fd_L_entry ["_law_purse_here", "_law_rows", "_law_signs", "_law_row", "_law_few"] []
  m_L_entry : mg "_law_entry" = some (.ref a_L_entry)
  a_L_machine : Addr
  fd_L_machine : FuncData
  F_L_machine : Fun K "_law_machine" "_law_machine" s_L_machine a_L_machine fd_L_machine
  b_L_machine : Binds K fd_L_machine ["_law_purse_here"] []
  m_L_machine : mg "_law_machine" = some (.ref a_L_machine)
  a_L_kept : Addr
  fd_L_kept : FuncData
  F_L_kept : Fun K "_law_kept" "_law_kept" s_L_kept a_L_kept fd_L_kept
  b_L_kept : Binds K fd_L_kept ["_law_machine_here"] []
  m_L_kept : mg "_law_kept" = some (.ref a_L_kept)
  a_L_block : Addr
  fd_L_block : FuncData
  F_L_block : Fun K "_law_block" "_law_block" s_L_block a_L_block fd_L_block
  b_L_block : Binds K fd_L_block ["_law_purse_here", "_law_signs"] []
  m_L_block : mg "_law_block" = some (.ref a_L_block)
  a_L_through : Addr
  fd_L_through : FuncData
  F_L_through : Fun K "_law_through" "_law_through" s_L_through a_L_through fd_L_through
  b_L_through : Binds K fd_L_through ["_law_machine_here", "_law_block_here", "_law_row", "_law_side"] []
  m_L_through : mg "_law_through" = some (.ref a_L_through)
  a_is_entry : Addr
  fd_is_entry : FuncData
  F_is_entry : Fun K "is_entry" "is_entry" s_is_entry a_is_entry fd_is_entry
  b_is_entry : Binds K fd_is_entry ["entry", "rows", "signs"] []
  m_is_entry : mg "is_entry" = some (.ref a_is_entry)
  a_is_machine : Addr
  fd_is_machine : FuncData
  F_is_machine : Fun K "is_machine" "is_machine" s_is_machine a_is_machine fd_is_machine
  b_is_machine : Binds K fd_is_machine ["machine"] []
  m_is_machine : mg "is_machine" = some (.ref a_is_machine)
  a_must_machine : Addr
  fd_must_machine : FuncData
  F_must_machine : Fun K "must_machine" "must_machine" s_must_machine a_must_machine fd_must_machine
  b_must_machine : Binds K fd_must_machine ["machine"] []
  m_must_machine : mg "must_machine" = some (.ref a_must_machine)
  a_most_setups : Addr
  fd_most_setups : FuncData
  F_most_setups : Fun K "most_setups" "most_setups" s_most_setups a_most_setups fd_most_setups
  b_most_setups : Binds K fd_most_setups ["machine", "block"] []
  m_most_setups : mg "most_setups" = some (.ref a_most_setups)
  a_through : Addr
  fd_through : FuncData
  F_through : Fun K "through" "through" s_through a_through fd_through
  b_through : Binds K fd_through ["machine", "block", "row", "side"] []
  m_through : mg "through" = some (.ref a_through)
  a_L_counted : Addr
  fd_L_counted : FuncData
  F_L_counted : Fun K "_law_counted" "_law_counted" s_L_counted a_L_counted fd_L_counted
  b_L_counted : Binds K fd_L_counted ["_law_number"] []
  m_L_counted : mg "_law_counted" = some (.ref a_L_counted)
  a_L_whole : Addr
  fd_L_whole : FuncData
  F_L_whole : Fun K "_law_whole" "_law_whole" s_L_whole a_L_whole fd_L_whole
  b_L_whole : Binds K fd_L_whole ["_law_found"] []
  m_L_whole : mg "_law_whole" = some (.ref a_L_whole)
  a_L_kinds : Addr
  fd_L_kinds : FuncData
  F_L_kinds : Fun K "_law_kinds" "_law_kinds" s_L_kinds a_L_kinds fd_L_kinds
  b_L_kinds : Binds K fd_L_kinds ["_law_found"] []
  m_L_kinds : mg "_law_kinds" = some (.ref a_L_kinds)
  a_law : Addr
  fd_law : FuncData
  F_law : Fun K "law" "law" s_law a_law fd_law
  b_law : Binds K fd_law ["_law_script"] []
  m_law : mg "law" = some (.ref a_law)
  C_NoMachine : Addr
  m_NoMachine : mg "NoMachine" = some (.ref C_NoMachine)
  tk_MOST_ROWS : Tok
  m_MOST_ROWS : mg "MOST_ROWS" = some (.int 4 tk_MOST_ROWS)
  tk_MOST_SIGNS : Tok
  m_MOST_SIGNS : mg "MOST_SIGNS" = some (.int 4 tk_MOST_SIGNS)
  n_len : mg "len" = none
  n_max : mg "max" = none
  n_int : mg "int" = none
  n_range : mg "range" = none
  n_list : mg "list" = none
  n_tuple : mg "tuple" = none
  n_all : mg "all" = none
  n_isinstance : mg "isinstance" = none
  n_bool : mg "bool" = none
section
variable {P : Program} {w : World} {K : PySem.W.Frag} {mg : Str → Option Value} {base : Heap}
/-! ### small things -/
theorem ln {H : Hp} {p q : Addr} {o u : HO} (n : H q = none) (h : H p = some o) : upd H q u p = some o := (upd_ne (ne_of_none h n)).trans h
theorem kt_int_int {K : PySem.W.Frag} : PySem.W.kitOne K (.type "int") (.type "int") = some true := kit_ty (by decide +kernel)
theorem kt_int_bool {K : PySem.W.Frag} : PySem.W.kitOne K (.type "int") (.type "bool") = some false := kit_ty (by decide +kernel)
theorem kt_tup {K : PySem.W.Frag} : PySem.W.kitOne K (.type "tuple") (.type "tuple") = some true := kit_ty (by decide +kernel)
theorem kt_list {K : PySem.W.Frag} : PySem.W.kitOne K (.type "list") (.type "list") = some true := kit_ty (by decide +kernel)
theorem gr_purse {H H1 : Hp} (s : Same H H1) : Gr mu0 H H H H1 := ⟨fun _ _ h => h, s, fun _ _ h => .inl h, fun c o h _ => s c o h, fun c h => s.free h⟩
theorem at_end {xs : List V} {k : Nat} {v : V} (l : xs.length = k + 1) (h : xs[k]? = some v) : atI xs (-1) = some v := by
  have e : ixN xs.length (-1) = some k := by
    unfold ixN
    rw [if_neg (by decide), if_pos (by omega)]
    congr 1
    omega
  unfold atI
  rw [e]
  exact h
theorem cut_all {xs : List V} {j : Nat} (h : xs.length ≤ j) : cutV xs none (some (j : Int)) = xs := by
  unfold cutV
  have e1 : HT.sIx xs.length 0 none = 0 := rfl
  have e2 : HT.sIx xs.length xs.length (some (j : Int)) = xs.length := by
    simp only [HT.sIx]
    rw [if_neg (by omega), Int.toNat_natCast]
    omega
  rw [e1, e2, List.drop_zero, Nat.sub_zero, List.take_length]
theorem map_take_succ {α β : Type} {f : α → β} {xs : List α} {i : Nat} {x : α} (h : xs[i]? = some x) : (xs.take (i + 1)).map f = (xs.take i).map f ++ [f x] := by
  rw [List.take_add_one, h, List.map_append]; rfl
theorem cut_1 {xs : List V} : cutV xs (some 1) none = xs.drop 1 := by
  unfold cutV
  have e2 : HT.sIx xs.length xs.length none = xs.length := rfl
  rw [e2]
  cases xs with
  | nil => simp
  | cons x xs =>
    have e1 : HT.sIx (x :: xs).length 0 (some 1) = 1 := by
      simp only [HT.sIx, List.length_cons]
      rw [if_neg (by decide), show (1 : Int).toNat = 1 from rfl]
      omega
    rw [e1]
    show (xs.take (xs.length + 1 - 1)) = xs
    rw [Nat.add_sub_cancel, List.take_length]
theorem cut32 : ¬ (HT.sIx 3 0 none = 0 ∧ HT.sIx 3 3 (some 2) = 3) := by decide
theorem Gr.frzS {mu : Addr → Prop} {F H F1 H1 : Hp} (g : Gr mu F H F1 H1) (P : Addr → Prop) [DecidablePred P] (h : ∀ c, P c → H c = none ∧ F1 c = none) : Gr mu F H (fun c => if P c then H1 c else F1 c) H1 ∧ Same F1 (fun c => if P c then H1 c else F1 c) := by
  have s : Same F1 (fun c => if P c then H1 c else F1 c) := fun c o e => by
    by_cases p : P c
    · rw [(h c p).2] at e; cases e
    · simp only [p, if_false]; exact e
  refine ⟨⟨fun c o e => s c o (g.ff c o e), fun c o e => ?_, fun c o e => ?_, g.fr, g.th⟩, s⟩
  · by_cases p : P c
    · simp only [p, if_true] at e; exact e
    · simp only [p, if_false] at e; exact g.fh c o e
  · by_cases p : P c
    · exact .inr (h c p).1
    · simp only [p, if_false] at e; exact g.nw c o e
/-! ### purses of three numbers -/
def PurseC (a c k : Int) : HO := .lst [.int a, .int c, .int k]
def PuAt (H : Hp) (p : Addr) (b : Int) : Prop := ∃ a c k : Int, H p = some (PurseC a c k) ∧ 0 ≤ k ∧ k ≤ b
theorem PuAt.le {H : Hp} {p : Addr} {b b' : Int} (h : PuAt H p b) (l : b ≤ b') : PuAt H p b' := by
  obtain ⟨a, c, k, e, h0, h1⟩ := h
  exact ⟨a, c, k, e, h0, by omega⟩
theorem PuAt.gr {mu : Addr → Prop} {F H F' H' : Hp} {p : Addr} {b : Int} (h : PuAt H p b) (g : Gr mu F H F' H') (m : ¬ mu p) : PuAt H' p b := by
  obtain ⟨a, c, k, e, h0, h1⟩ := h
  exact ⟨a, c, k, g.fr _ _ e m, h0, h1⟩
theorem PuAt.ln {H : Hp} {p q : Addr} {o : HO} {b : Int} (h : PuAt H p b) (n : H q = none) : PuAt (upd H q o) p b := by
  obtain ⟨a, c, k, e, h0, h1⟩ := h
  exact ⟨a, c, k, by rw [upd_ne (ne_of_none e n)]; exact e, h0, h1⟩
theorem PuAt.off {H : Hp} {p q : Addr} {o : HO} {b : Int} (h : PuAt H p b) (n : p ≠ q) : PuAt (upd H q o) p b := by
  obtain ⟨a, c, k, e, h0, h1⟩ := h
  exact ⟨a, c, k, by rw [upd_ne n]; exact e, h0, h1⟩
theorem PuAt.ex {H : Hp} {p : Addr} {b : Int} (h : PuAt H p b) : ∃ o, H p = some o := by
  obtain ⟨a, c, k, e, _⟩ := h
  exact ⟨_, e⟩
theorem Gr.pf0 {mu : Addr → Prop} {F H F1 H1 : Hp} {p : Addr} {o : HO} (g : Gr mu F H F1 H1) (f : F p = none) (h : H p = some o) : F1 p = none := by
  cases e : F1 p with
  | none => rfl
  | some z =>
    rcases g.nw p z e with k | k
    · rw [f] at k; cases k
    · rw [h] at k; cases k
theorem PuAt.f {mu : Addr → Prop} {F H F1 H1 : Hp} {p : Addr} {b : Int} (h : PuAt H p b) (f : F p = none) (g : Gr mu F H F1 H1) : F1 p = none := by
  obtain ⟨o, e⟩ := h.ex
  exact g.pf0 f e
theorem PuAt.ne {H : Hp} {p q : Addr} {b : Int} (h : PuAt H p b) (n : H q = none) : p ≠ q := by
  obtain ⟨o, e⟩ := h.ex
  exact ne_of_none e n
def sp_L_at (K : PySem.W.Frag) : Sp := fun vs H Q _ => ∃ (l : Addr) (ns : List Int) (k : Nat), vs = [.ref l, .int k] ∧ SqL K H l (ns.map V.int) ∧ ∀ z : Int, Q (.int z) H
theorem ok_L_at (t : Tx K mg) : FnOk P w K mg base CX0 1 t.a_L_at t.fd_L_at ["_law_script", "_law_k"] (sp_L_at K) := by
  refine t.F_L_at.ok sc_L_at (fun vs H Q E h => ?_) (fun cdv A outer s H vs Q E hr h => ?_)
  · obtain ⟨l, ns, k, rfl, _⟩ := h
    rfl
  · obtain ⟨l, ns, k, rfl, hl, q⟩ := h
    refine ⟨_, (pss_cons (ps_if (pt_cmpR op_lt (pv 1) (pe_callB (id := "len") call_lenQ (by rfl) t.n_len (by decide +kernel) (pa_cons (pv 0) pa_nil)) (nomark _)) (pss_one (ps_ret (pe_ix ix_list (pv 0) (pv 1) (fun _ _ => rfl)))) pss_nil)
      (pss_one (ps_ret pe_int))), ?_⟩
    refine ⟨_, rfl, _, rfl, l, _, rfl, .inl hl, _, _, rfl, rfl, _, rfl, ?_⟩
    refine ite2 (fun c => ?_) (fun c => ?_)
    · have c := of_decide_eq_true c
      have c : k < ns.length := by
        rw [List.length_map] at c
        omega
      refine ⟨_, rfl, _, rfl, l, _, _, _, rfl, rfl, hl, atI_nat (j := k) (by rw [List.getElem?_map, List.getElem?_eq_getElem c]; rfl), ?_⟩
      exact q _
    · exact q 0
def sp_L_mixed : Sp := fun vs H Q _ => ∃ c k : Int, vs = [.int c, .int k] ∧ 0 ≤ k ∧ k < 1000000 ∧ ∀ n : Int, Q (.int n) H
theorem ok_L_mixed (t : Tx K mg) : FnOk P w K mg base CX0 1 t.a_L_mixed t.fd_L_mixed ["_law_cell", "_law_k"] sp_L_mixed := by
  refine t.F_L_mixed.ok sc_L_mixed (fun vs H Q E h => ?_) (fun cdv A outer s H vs Q E hr h => ?_)
  · obtain ⟨c, k, rfl, _⟩ := h
    rfl
  · obtain ⟨c, k, rfl, k0, k1, q⟩ := h
    refine ⟨_, (pss_cons (ps_set (i := 0) sc_L_mixed.nd rfl (by first | exact Or.inl rfl | exact Or.inr rfl) (pe_op op_mod (pv 0) pe_int))
      (pss_cons (ps_set (i := 2) sc_L_mixed.nd rfl (by first | exact Or.inl rfl | exact Or.inr rfl) (pe_op op_mod (pe_op op_add (pe_op op_add (pe_op op_mul (pv 0) pe_int) (pe_op op_mul (pe_op op_mul pe_int (pv 1)) (pv 1))) (pv 1)) pe_int))
      (pss_cons (ps_set (i := 2) sc_L_mixed.nd rfl (by first | exact Or.inl rfl | exact Or.inr rfl) (pe_op op_mod (pe_op op_mul (pv 2) (pv 2)) pe_int))
      (pss_one (ps_ret (pe_op op_mod (pe_op op_mul (pv 2) pe_int) pe_int)))))), ?_⟩
    refine ⟨_, rfl, _, _, rfl, rfl, (by show (0 : Int) < 4611685803679178881; decide), ?_⟩
    generalize c % 4611685803679178881 = r
    refine ⟨_, rfl, _, _, rfl, rfl, .inr ⟨by decide, by decide⟩, _, rfl, _, _, rfl, rfl, .inl ⟨by decide, by decide⟩, _, rfl, _, _, rfl, rfl, .inr ⟨by omega, by omega⟩, _, _, rfl, rfl, _, rfl, _, _, rfl, rfl, _, _, rfl, rfl, (by show (0 : Int) < 2147483647; decide), ?_⟩
    have g0 := Int.emod_nonneg (r * 1103515245 + 7919 * k * k + k) (show (2147483647 : Int) ≠ 0 by decide)
    have g1 := Int.emod_lt_of_pos (r * 1103515245 + 7919 * k * k + k) (show (0 : Int) < 2147483647 by decide)
    generalize (r * 1103515245 + 7919 * k * k + k) % 2147483647 = n at g0 g1
    refine ⟨_, rfl, _, rfl, _, _, rfl, rfl, .inl ⟨by omega, by omega⟩, _, _, rfl, rfl, (by show (0 : Int) < 2147483629; decide), ?_⟩
    refine ⟨_, rfl, _, _, rfl, rfl, .inr ⟨by decide, by decide⟩, _, _, rfl, rfl, (by show (0 : Int) < 2147483587; decide), ?_⟩
    exact q _
def sp_L_purse (K : PySem.W.Frag) : Sp := fun vs H Q _ => ∃ (l : Addr) (ns : List Int) (k : Nat), vs = [.ref l, .int k] ∧ SqL K H l (ns.map V.int) ∧ k ≤ 10 ∧
  ∀ (p : Addr) (H' : Hp), Same H H' → H p = none → PuAt H' p 10000 → Q (.ref p) H'
theorem ok_L_purse (t : Tx K mg) : FnOk P w K mg base CX0 2 t.a_L_purse t.fd_L_purse ["_law_script", "_law_at_here"] (sp_L_purse K) := by
  refine t.F_L_purse.ok sc_L_purse (fun vs H Q E h => ?_) (fun cdv A outer s H vs Q E hr h => ?_)
  · obtain ⟨l, ns, k, rfl, _⟩ := h
    rfl
  · obtain ⟨l, ns, k, rfl, hl, k1, q⟩ := h
    refine ⟨_, (pss_cons (ps_set (i := 2) sc_L_purse.nd rfl (by first | exact Or.inl rfl | exact Or.inr rfl) (pe_call (ok_L_at t) (hr.mono (by decide)) (by rfl) t.m_L_at t.F_L_at.kp t.b_L_at .nil pass0 (pa_cons (pv 0) (pa_cons (pv 1) pa_nil))))
      (pss_one (ps_ret (pe_lst (pa_cons (pe_callB (id := "max") (call_max2 rfl) (by rfl) t.n_max (by decide +kernel) (pa_cons (pe_op op_sub (pv 2) (pe_op op_pow pe_int pe_int)) (pa_cons pe_int pa_nil))) (pa_cons (pv 2) (pa_cons (pe_op op_mul pe_int (pv 1)) pa_nil))))))), ?_⟩
    refine ⟨_, rfl, _, rfl, l, ns, k, rfl, hl, fun z => ?_⟩
    refine ⟨_, rfl, _, _, rfl, rfl, ⟨by decide, by decide, by decide⟩, _, _, rfl, rfl, _, _, rfl, ?_⟩
    refine ⟨_, rfl, _, rfl, _, _, rfl, rfl, .inl ⟨by decide, by decide⟩, three_le, fun p np => ?_⟩
    exact q p _ (sm_up np) np ⟨_, _, _, upd_same, by omega, by omega⟩
def sp_L_draw : Sp := fun vs H Q _ => ∃ (F : Hp) (p : Addr) (n b : Int), vs = [.ref p, .int n] ∧ Same F H ∧ F p = none ∧ PuAt H p b ∧ b ≤ 900000 ∧ 0 < n ∧ n < 1267650600228229401496703205376 ∧
  ∀ (d : Int) (H' : Hp), 0 ≤ d → d < n → Gr (muP p) F H F H' → PuAt H' p (b + 2) → Q (.int d) H'
theorem ok_L_draw (t : Tx K mg) : FnOk P w K mg base CX0 2 t.a_L_draw t.fd_L_draw ["_law_purse_here", "_law_out_of"] sp_L_draw := by
  refine t.F_L_draw.ok sc_L_draw (fun vs H Q E h => ?_) (fun cdv A outer s H vs Q E hr h => ?_)
  · obtain ⟨F, p, n, b, rfl, _⟩ := h
    rfl
  · obtain ⟨F, p, n, b, rfl, sF, fp, ⟨a, cc, k, hp, k0, kb⟩, hb, n0, n1, q⟩ := h
    refine ⟨_, (pss_cons (ps_if (pt_cmpR op_gt (pe_ix ix_list (pv 0) pe_int (fun _ _ => rfl)) pe_int (nomark _)) (pss_cons (ps_set (i := 2) sc_L_draw.nd rfl (by first | exact Or.inl rfl | exact Or.inr rfl) (pe_op op_mod (pe_ix ix_list (pv 0) pe_int (fun _ _ => rfl)) (pv 1)))
      (pss_cons (ps_asg (pe_op op_fdivW (pe_ix ix_list (pv 0) pe_int (fun _ _ => rfl)) (pv 1)) (pg_sub (pv 0) pe_int set_list))
      (pss_one (ps_ret (pv 2))))) pss_nil)
      (pss_cons (ps_asg (pe_op op_add (pe_ix ix_list (pv 0) pe_int (fun _ _ => rfl)) pe_int) (pg_sub (pv 0) pe_int set_list))
      (pss_cons (ps_set (i := 3) sc_L_draw.nd rfl (by first | exact Or.inl rfl | exact Or.inr rfl) (pe_call (ok_L_mixed t) (hr.mono (by decide)) (by rfl) t.m_L_mixed t.F_L_mixed.kp t.b_L_mixed .nil pass0 (pa_cons (pe_ix ix_list (pv 0) pe_int (fun _ _ => rfl)) (pa_cons (pe_ix ix_list (pv 0) pe_int (fun _ _ => rfl)) pa_nil))))
      (pss_one (ps_ret (pe_op op_mod (pe_op op_fdiv (pe_op op_add (pe_op op_mul (pv 3) pe_int) (pe_call (ok_L_mixed t) (hr.mono (by decide)) (by rfl) t.m_L_mixed t.F_L_mixed.kp t.b_L_mixed .nil pass0 (pa_cons (pe_op op_add (pe_ix ix_list (pv 0) pe_int (fun _ _ => rfl)) (pv 3)) (pa_cons (pe_op op_add (pe_ix ix_list (pv 0) pe_int (fun _ _ => rfl)) pe_int) pa_nil)))) pe_int) (pv 1))))))), ?_⟩
    have gr : ∀ a c k : Int, Gr (muP p) F H F (upd H p (PurseC a c k)) := fun a c k => (Gr.refl sF).set fp (.inr rfl)
    refine ⟨_, rfl, p, _, _, _, rfl, rfl, SqL.of hp, atI_nat (j := 0) rfl, _, _, rfl, rfl, _, rfl, ?_⟩
    refine ite2 (fun c => ?_) (fun c => ?_)
    · refine ⟨_, rfl, p, _, _, _, rfl, rfl, SqL.of hp, atI_nat (j := 0) rfl, _, rfl, _, _, rfl, rfl, n0, ?_⟩
      refine ⟨_, rfl, p, _, _, _, rfl, rfl, SqL.of hp, atI_nat (j := 0) rfl, _, rfl, _, _, rfl, rfl, wide_div n0 (b := 100) (by have e : (2 : Nat) ^ 100 = 1267650600228229401496703205376 := rfl; rw [e]; omega) (by decide) (by decide), _, rfl, p, _, _, 0, rfl, rfl, hp, rfl, _, rfl, ?_⟩
      exact q _ _ (Int.emod_nonneg _ (by omega)) (Int.emod_lt_of_pos _ n0) (gr _ _ _) ⟨_, _, _, upd_same, k0, by omega⟩
    · refine ⟨_, rfl, p, _, _, _, rfl, rfl, SqL.of hp, atI_nat (j := 2) rfl, _, _, rfl, rfl, _, rfl, p, _, _, 2, rfl, rfl, hp, rfl, ?_⟩
      have h2 : (upd H p (.lst ([.int a, .int cc, .int k].set 2 (.int (k + 2))))) p = some (PurseC a cc (k + 2)) := upd_same
      refine ⟨_, rfl, p, _, _, _, rfl, rfl, SqL.of h2, atI_nat (j := 1) rfl, _, rfl, p, _, _, _, rfl, rfl, SqL.of h2, atI_nat (j := 2) rfl, _, _, rfl, by omega, by omega, fun m => ?_⟩
      refine ⟨_, rfl, _, _, rfl, rfl, .inr ⟨by decide, by decide⟩, ?_⟩
      refine ⟨_, rfl, p, _, _, _, rfl, rfl, SqL.of h2, atI_nat (j := 1) rfl, _, rfl, _, _, rfl, rfl, _, rfl, p, _, _, _, rfl, rfl, SqL.of h2, atI_nat (j := 2) rfl, _, _, rfl, rfl, _, _, rfl, by omega, by omega, fun m2 => ?_⟩
      refine ⟨_, _, rfl, rfl, _, _, rfl, rfl, ⟨by decide, by decide⟩, _, rfl, _, _, rfl, rfl, n0, ?_⟩
      exact q _ _ (Int.emod_nonneg _ (by omega)) (Int.emod_lt_of_pos _ n0) (gr _ _ _) ⟨_, _, _, upd_same, by omega, by omega⟩
def sp_L_whole : Sp := fun vs H Q _ => ∃ i : Int, vs = [.int i] ∧ Q (.bl true) H
theorem ok_L_whole (t : Tx K mg) : FnOk P w K mg base CX0 1 t.a_L_whole t.fd_L_whole ["_law_found"] sp_L_whole := by
  refine t.F_L_whole.ok sc_L_whole (fun vs H Q E h => ?_) (fun cdv A outer s H vs Q E hr h => ?_)
  · obtain ⟨i, rfl, _⟩ := h
    rfl
  · obtain ⟨i, rfl, q⟩ := h
    refine ⟨_, (pss_one (ps_ret (pe_and (pe_callB (id := "isinstance") call_isi (by rfl) t.n_isinstance (by decide +kernel) (pa_cons (pv 0) (pa_cons (pe_bltn (v := .ty "int") (by rfl) t.n_int (by decide +kernel) rfl) pa_nil))) (pe_one (pe_not (pe_callB (id := "isinstance") call_isi (by rfl) t.n_isinstance (by decide +kernel) (pa_cons (pv 0) (pa_cons (pe_bltn (v := .ty "bool") (by rfl) t.n_bool (by decide +kernel) rfl) pa_nil)))))))), ?_⟩
    exact ⟨_, rfl, _, _, _, _, true, rfl, .ty "int", .base (.int i), kt_int_int, _, rfl, ifT rfl ⟨_, rfl, _, _, _, _, false, rfl, .ty "bool", .base (.int i), kt_int_bool, _, rfl, q⟩⟩
/-! ### machines that are machines -/
structure EOk (R S : Nat) (e : Ent) : Prop where
  ok : ∀ p w r, e = .go p w r → (0 ≤ p ∧ p < S) ∧ (w = -1 ∨ w = 1) ∧ 0 ≤ r ∧ r < R
structure MOk (M : Mach) (R S : Nat) : Prop where
  r1 : 1 ≤ R
  r4 : R ≤ 4
  s2 : 2 ≤ S
  s4 : S ≤ 4
  len : M.length = R
  row : ∀ r ∈ M, r.length = S
  ent : ∀ r ∈ M, ∀ e ∈ r, EOk R S e
def sp_is_entry : Sp := fun vs H Q _ => ∃ (F : Hp) (v : V) (e : Ent) (R S : Nat), vs = [v, .int R, .int S] ∧ Same F H ∧ Is F v e ∧ EOk R S e ∧ ∀ H', Gr mu0 F H F H' → Q (.bl true) H'
theorem ok_is_entry (t : Tx K mg) : FnOk P w K mg base CX0 1 t.a_is_entry t.fd_is_entry ["entry", "rows", "signs"] sp_is_entry := by
  refine t.F_is_entry.ok sc_is_entry (fun vs H Q E h => ?_) (fun cdv A outer s H vs Q E hr h => ?_)
  · obtain ⟨F, v, e, R, S, rfl, _⟩ := h
    rfl
  · obtain ⟨F, v, e, R, S, rfl, sF, hv, he, q⟩ := h
    refine ⟨_, (pss_cons (ps_if (pt_cmpR (op_eqD hr.units) (pv 0) (pe_tup pa_nil) (nomark _)) (pss_one (ps_ret pe_bl)) pss_nil)
      (pss_one (ps_ret (pe_and (pe_cmpR op_eq (pe_callB (id := "len") call_lenQ (by rfl) t.n_len (by decide +kernel) (pa_cons (pv 0) pa_nil)) pe_int (nomark _)) (pe_and (pe_chain op_le op_lt pe_int (pe_ix ix_tup (pv 0) pe_int (fun _ _ => rfl)) (pv 2)) (pe_and (pe_cmpR op_in_seq (pe_ix ix_tup (pv 0) pe_int (fun _ _ => rfl)) (pe_lst (pa_cons (pe_un un_neg pe_int) (pa_cons pe_int pa_nil))) (by rfl)) (pe_one (pe_chain op_le op_lt pe_int (pe_ix ix_tup (pv 0) pe_int (fun _ _ => rfl)) (pv 1))))))))), ?_⟩
    have g0 : Gr mu0 F H F H := Gr.refl sF
    refine ⟨_, rfl, by show 0 ≤ sizeLine; decide, fun p np => ?_⟩
    have g1 : Gr mu0 F H F (upd H p (.tup [])) := g0.own np
    refine eq_dat (a := e) (b := Ent.emp) (hv.up g1.fh) ⟨p, rfl, upd_same⟩ ?_
    refine ⟨_, rfl, ?_⟩
    refine ite2 (fun c => ?_) (fun c => ?_)
    · exact q _ g1
    · cases e with
      | emp => exact absurd (decide_eq_true rfl) c
      | go pu wa ro =>
        obtain ⟨a, rfl, ha⟩ := hv
        obtain ⟨⟨o1, o2⟩, o3, o4, o5⟩ := he.ok _ _ _ rfl
        have h1 := g1.fh _ _ ha
        refine ⟨_, rfl, a, _, rfl, .inr (SqT.of h1), rfl, _, rfl, ifT rfl ?_⟩
        refine ⟨_, rfl, a, _, _, _, rfl, rfl, SqT.of h1, atI_nat (j := 0) rfl, _, _, rfl, rfl, _, rfl, ifT (decide_eq_true o1) ⟨_, rfl, _, _, rfl, rfl, _, rfl, ifT (decide_eq_true o2) ?_⟩⟩
        refine ⟨_, rfl, a, _, _, _, rfl, rfl, SqT.of h1, atI_nat (j := 1) rfl, _, rfl, two_le, fun l nl => ?_⟩
        have g2 := g1.own (o := .lst [.int (-1), .int 1]) nl
        have h2 := g2.fh _ _ ha
        refine ⟨l, _, rfl, .inl (SqL.of upd_same), rfl, rfl, _, rfl, ifT ?_ ?_⟩
        · rcases o3 with rfl | rfl <;> rfl
        · refine ⟨_, rfl, a, _, _, _, rfl, rfl, SqT.of h2, atI_nat (j := 2) rfl, _, _, rfl, rfl, _, rfl, ifT (decide_eq_true o4) ⟨_, rfl, _, _, rfl, rfl, ?_⟩⟩
          show Q (.bl (decide (ro < (R : Int)))) _
          rw [decide_eq_true o5]
          exact q _ g2
/-- all bools of a list of trues -/
theorem all_rep (n : Nat) : (List.replicate n true).all id = true := by simp
theorem map_rep (n : Nat) : (List.replicate n true).map V.bl = List.replicate n (V.bl true) := by simp
theorem rep_snoc (n : Nat) : List.replicate n (V.bl true) ++ [V.bl true] = List.replicate (n + 1) (V.bl true) := by
  rw [← List.replicate_succ']
def sp_is_machine : Sp := fun vs H Q _ => ∃ (F : Hp) (v : V) (M : Mach) (R S : Nat), vs = [v] ∧ Same F H ∧ Is F v M ∧ MOk M R S ∧ ∀ H', Gr mu0 F H F H' → Q (.bl true) H'
theorem ok_is_machine (t : Tx K mg) : FnOk P w K mg base CX0 2 t.a_is_machine t.fd_is_machine ["machine"] sp_is_machine := by
  refine t.F_is_machine.ok sc_is_machine (fun vs H Q E h => ?_) (fun cdv A outer s H vs Q E hr h => ?_)
  · obtain ⟨F, v, M, R, S, rfl, _⟩ := h
    rfl
  · obtain ⟨F, v, M, R, S, rfl, sF, hv, hM, q⟩ := h
    refine ⟨_, (pss_cons (ps_set (i := 1) sc_is_machine.nd rfl (by first | exact Or.inl rfl | exact Or.inr rfl) (pe_callB (id := "len") call_lenQ (by rfl) t.n_len (by decide +kernel) (pa_cons (pv 0) pa_nil)))
      (pss_cons (ps_if (pt_not (pt_chain op_le op_le pe_int (pv 1) (pe_glob (v := .int 4) (by rfl) t.m_MOST_ROWS ⟨_, rfl⟩))) (pss_one (ps_ret pe_bl)) pss_nil)
      (pss_cons (ps_set (i := 2) sc_is_machine.nd rfl (by first | exact Or.inl rfl | exact Or.inr rfl) (pe_callB (id := "len") call_lenQ (by rfl) t.n_len (by decide +kernel) (pa_cons (pe_ix ix_list (pv 0) pe_int (fun _ _ => rfl)) pa_nil)))
      (pss_cons (ps_if (PW.pt (pw_or (pt_not (pt_chain op_le op_le pe_int (pv 2) (pe_glob (v := .int 4) (by rfl) t.m_MOST_SIGNS ⟨_, rfl⟩))) (pw_or1 (pt_not (pt_val (pe_callB (id := "all") (cr_all rfl) (by rfl) t.n_all (by decide +kernel) (pa_cons (pe_lc (own := [("row", 3)]) (g := gName 3) (tt := tYes) rfl sc_is_machine.nd (pi_list (pv 0)) (blkOk_by (N := N_is_machine) (sc := defScope s_is_machine) (by decide +kernel)) (fun _ _ _ _ _ => (pg_name (i := 3) sc_is_machine.nd rfl (by first | exact Or.inl rfl | exact Or.inr rfl))) (fun _ _ _ _ _ => pts_nil) (fun _ _ _ _ _ => (pe_cmpR op_eq (pe_callB (id := "len") (crK (K := K) (r := rLenQ) rfl call_lenQ) (by rfl) t.n_len (by decide +kernel) (pa_cons (pv 3) pa_nil)) (pv 2) (nomark _)))) pa_nil))))))) (pss_one (ps_ret pe_bl)) pss_nil)
      (pss_one (ps_ret (pe_callB (id := "all") (cr_all rfl) (by rfl) t.n_all (by decide +kernel) (pa_cons (pe_lc (own := [("row", 3)]) (g := gName 3) (tt := tYes) rfl sc_is_machine.nd (pi_list (pv 0)) (blkOk_by (N := N_is_machine) (sc := defScope s_is_machine) (by decide +kernel)) (fun _ _ _ _ _ => (pg_name (i := 3) sc_is_machine.nd rfl (by first | exact Or.inl rfl | exact Or.inr rfl))) (fun _ _ _ _ _ => pts_nil) (fun _ _ _ _ _ => (pe_callB (id := "all") (crK (K := K) (r := rAll) rfl (cr_all rfl)) (by rfl) t.n_all (by decide +kernel) (pa_cons (pe_lc (own := [("entry", 4)]) (g := gName 4) (tt := tYes) rfl sc_is_machine.nd (pi_listK (K := K) rfl (pv 3)) (blkOk_by (N := N_is_machine) (sc := { kind := PySem.ScopeKind.function, names := [(PySem.Str.ofString ".0", PySem.NameKind.local), (PySem.Str.ofString "row", PySem.NameKind.local), (PySem.Str.ofString "all", PySem.NameKind.globalImplicit), (PySem.Str.ofString "rows", PySem.NameKind.cell), (PySem.Str.ofString "signs", PySem.NameKind.cell)], isGenerator := false, isCoroutine := false }) (by decide +kernel)) (fun _ _ _ _ _ => (pg_name (i := 4) sc_is_machine.nd rfl (by first | exact Or.inl rfl | exact Or.inr rfl))) (fun _ _ _ _ _ => pts_nil) (fun _ _ _ _ _ => (pe_call (ok_is_entry t) (hr.mono (by decide)) (by rfl) t.m_is_entry t.F_is_entry.kp t.b_is_entry .nil pass0 (pa_cons (pv 4) (pa_cons (pv 1) (pa_cons (pv 2) pa_nil)))))) pa_nil)))) pa_nil)))))))), ?_⟩
    have g0 : Gr mu0 F H F H := Gr.refl sF
    have r1 := hM.r1
    have r4 := hM.r4
    have s2 := hM.s2
    have s4 := hM.s4
    obtain ⟨a, rs, rfl, ha, hrs⟩ := hv
    have lrs : rs.length = R := hrs.1.trans hM.len
    have h0 := sF _ _ ha
    have l0 : 0 < rs.length := by omega
    have hx0 : rs[0]? = some rs[0] := List.getElem?_eq_getElem l0
    obtain ⟨row0, hM0, hr0⟩ := hrs.get' hx0
    obtain ⟨a0, es0, e0, ha0, hes0⟩ := hr0
    have ls0 : es0.length = S := hes0.1.trans (hM.row _ (List.mem_of_getElem? hM0))
    have hb0 := sF _ _ ha0
    -- rows = len(machine); signs = len(machine[0])
    refine ⟨_, rfl, a, rs, rfl, .inl (SqL.of h0), _, rfl, _, _, rfl, rfl, _, rfl, ifT (decide_eq_true (by omega)) ⟨_, _, rfl, rfl, _, rfl, ?_⟩⟩
    refine ifF (by rw [decide_eq_true (show (rs.length : Int) ≤ 4 by omega)]; rfl) ?_
    refine ⟨_, rfl, a, rs, _, _, rfl, rfl, SqL.of h0, atI_nat (j := 0) hx0, ?_⟩
    rw [e0]
    refine ⟨a0, es0, rfl, .inl (SqL.of hb0), _, rfl, _, _, rfl, rfl, _, rfl, ifT (decide_eq_true (by omega)) ⟨_, _, rfl, rfl, _, rfl, ?_⟩⟩
    refine ifF (by rw [decide_eq_true (show (es0.length : Int) ≤ 4 by omega)]; rfl) ?_
    -- all([len(row) == signs for row in machine])
    refine ⟨_, rfl, a, rfl, ⟨_, SqL.of h0⟩, fun D nD => lc_list (K := K) (a := a) (xs := rs) (fun i G => Gr mu0 F H F G ∧ G D = some (.lst (List.replicate i (V.bl true)))) ⟨g0.own nD, upd_same⟩ (fun i G _ p => SqL.of (p.1.fh _ _ ha)) ?_ ?_⟩
    · rintro i x G hi ⟨gG, hD⟩
      obtain ⟨row, hMi, b, es, rfl, hb, hes⟩ := hrs.get' hi
      have ls : es.length = S := hes.1.trans (hM.row _ (List.mem_of_getElem? hMi))
      have il : i < rs.length := (List.getElem?_eq_some_iff.mp hi).1
      refine ⟨rfl, ?_⟩
      refine yes ⟨_, rfl, b, es, rfl, .inl (SqL.of (gG.fh _ _ hb)), _, rfl, rfl, _, hD, by rw [List.length_replicate]; exact lt_size (by omega), ?_⟩
      have e : (V.bl (decide (V.int (es.length : Int) = V.int (es0.length : Int)))) = V.bl true := by rw [ls, ls0]; simp
      rw [e, rep_snoc]
      exact ⟨gG.set (ne_of_none' sF nD) (.inl nD), upd_same⟩
    · rintro G ⟨gG, hD⟩
      refine ⟨D, List.replicate rs.length true, rfl, SqL.of (by rw [map_rep]; exact hD), _, rfl, ifF (by rw [all_rep]; rfl) ?_⟩
      -- all([all([is_entry(entry, rows, signs) for entry in row]) for row in machine])
      refine ⟨_, rfl, a, rfl, ⟨_, SqL.of (gG.fh _ _ ha)⟩, fun D1 nD1 => lc_list (K := K) (a := a) (xs := rs) (fun i G1 => Gr mu0 F H F G1 ∧ H D1 = none ∧ G1 D1 = some (.lst (List.replicate i (V.bl true)))) ⟨gG.own nD1, gG.th _ nD1, upd_same⟩ (fun i G1 _ p => SqL.of (p.1.fh _ _ ha)) ?_ ?_⟩
      · rintro i x G1 hi ⟨gG1, nH, hD1⟩
        obtain ⟨row, hMi, b, es, rfl, hb, hes⟩ := hrs.get' hi
        have ls : es.length = S := hes.1.trans (hM.row _ (List.mem_of_getElem? hMi))
        have il : i < rs.length := (List.getElem?_eq_some_iff.mp hi).1
        refine ⟨rfl, yes ⟨_, rfl, b, rfl, ⟨_, SqL.of (gG1.fh _ _ hb)⟩, fun D2 nD2 => lc_list (K := K) (a := b) (xs := es) (fun j G2 => Gr mu0 F H F G2 ∧ H D2 = none ∧ D1 ≠ D2 ∧ G2 D1 = some (.lst (List.replicate i (V.bl true))) ∧ G2 D2 = some (.lst (List.replicate j (V.bl true))))
          ⟨gG1.own nD2, gG1.th _ nD2, ne_of_none hD1 nD2, by rw [upd_ne (ne_of_none hD1 nD2)]; exact hD1, upd_same⟩ (fun j G2 _ p => SqL.of (p.1.fh _ _ hb)) ?_ ?_⟩⟩
        · rintro j y G2 hj ⟨gG2, nH2, d12, h1, h2⟩
          obtain ⟨e, hej, hye⟩ := hes.get' hj
          have jl : j < es.length := (List.getElem?_eq_some_iff.mp hj).1
          refine ⟨rfl, yes ⟨_, rfl, _, rfl, _, rfl, F, y, e, R, S, ?_, gG2.fh, hye, hM.ent _ (List.mem_of_getElem? hMi) _ (List.mem_of_getElem? hej), fun G3 g3 => ?_⟩⟩
          · rw [lrs, ls0]
            rfl
          · have gH3 := gG2.trans g3
            refine ⟨_, g3.fr _ _ h2 (fun z => z), by rw [List.length_replicate]; exact lt_size (by omega), ?_⟩
            rw [rep_snoc]
            exact ⟨gH3.set (sF.free nH2) (.inl nH2), nH2, d12, by rw [upd_ne d12]; exact g3.fr _ _ h1 (fun z => z), upd_same⟩
        · rintro G2 ⟨gG2, nH2, d12, h1, h2⟩
          refine ⟨D2, List.replicate es.length true, rfl, SqL.of (by rw [map_rep]; exact h2), ?_⟩
          refine ⟨_, h1, by rw [List.length_replicate]; exact lt_size (by omega), ?_⟩
          rw [all_rep, rep_snoc]
          exact ⟨gG2.set (sF.free nH) (.inl nH), nH, upd_same⟩
      · rintro G1 ⟨gG1, nH, hD1⟩
        refine ⟨D1, List.replicate rs.length true, rfl, SqL.of (by rw [map_rep]; exact hD1), ?_⟩
        rw [all_rep]
        exact q _ gG1
def sp_must_machine : Sp := fun vs H Q _ => ∃ (F : Hp) (v : V) (M : Mach) (R S : Nat), vs = [v] ∧ Same F H ∧ Is F v M ∧ MOk M R S ∧ ∀ H', Gr mu0 F H F H' → Q .non H'
theorem ok_must_machine (t : Tx K mg) : FnOk P w K mg base CX0 3 t.a_must_machine t.fd_must_machine ["machine"] sp_must_machine := by
  refine t.F_must_machine.ok sc_must_machine (fun vs H Q E h => ?_) (fun cdv A outer s H vs Q E hr h => ?_)
  · obtain ⟨F, v, M, R, S, rfl, _⟩ := h
    rfl
  · obtain ⟨F, v, M, R, S, rfl, sF, hv, hM, q⟩ := h
    refine ⟨_, (pss_one (ps_if (pt_not (pt_val (pe_call (ok_is_machine t) (hr.mono (by decide)) (by rfl) t.m_is_machine t.F_is_machine.kp t.b_is_machine .nil pass0 (pa_cons (pv 0) pa_nil)))) (pss_one ps_never) pss_nil)), ?_⟩
    exact ⟨_, rfl, F, _, M, R, S, rfl, sF, hv, hM, fun H' g => ⟨_, rfl, ifF rfl (q _ g)⟩⟩
/-! ### machines, runs drawn -/
theorem at2 {a b : V} {c : Bool} : atI [a, b] (if c then 1 else 0) = some (if c then b else a) := by cases c <;> rfl
def sp_L_entry : Sp := fun vs H Q _ => ∃ (F : Hp) (p : Addr) (R S few b row : Int), vs = [.ref p, .int R, .int S, .int row, .int few] ∧ Same F H ∧ F p = none ∧ PuAt H p b ∧ b ≤ 800000 ∧ 0 < R ∧ R ≤ 4 ∧ 0 < S ∧ S ≤ 4 ∧ 0 ≤ row ∧ row < R ∧ 0 < few ∧ few ≤ 100 ∧
  ∀ (F' H' : Hp) (v : V) (e : Ent), Gr (muP p) F H F' H' → PuAt H' p (b + 10) → Is F' v e → (∀ p w r, e = .go p w r → (0 ≤ p ∧ p < S) ∧ (w = -1 ∨ w = 1) ∧ 0 ≤ r ∧ r < R) → Q v H'
theorem ok_L_entry (t : Tx K mg) : FnOk P w K mg base CX0 3 t.a_L_entry t.fd_L_entry ["_law_purse_here", "_law_rows", "_law_signs", "_law_row", "_law_few"] sp_L_entry := by
  refine t.F_L_entry.ok sc_L_entry (fun vs H Q E h => ?_) (fun cdv A outer s H vs Q E hr h => ?_)
  · obtain ⟨F, p, R, S, few, b, row, rfl, _⟩ := h
    rfl
  · obtain ⟨F, p, R, S, few, b, row, rfl, sF, fp, hp, hb, R0, R4, S0, S4, r0, r1, f0, f1, q⟩ := h
    refine ⟨_, (pss_cons (ps_set (i := 5) sc_L_entry.nd rfl (by first | exact Or.inl rfl | exact Or.inr rfl) (pe_call (ok_L_draw t) (hr.mono (by decide)) (by rfl) t.m_L_draw t.F_L_draw.kp t.b_L_draw .nil pass0 (pa_cons (pv 0) (pa_cons (pv 2) pa_nil))))
      (pss_cons (ps_set (i := 6) sc_L_entry.nd rfl (by first | exact Or.inl rfl | exact Or.inr rfl) (pe_op op_sub (pe_op op_mul pe_int (pe_call (ok_L_draw t) (hr.mono (by decide)) (by rfl) t.m_L_draw t.F_L_draw.kp t.b_L_draw .nil pass0 (pa_cons (pv 0) (pa_cons pe_int pa_nil)))) pe_int))
      (pss_cons (ps_set (i := 7) sc_L_entry.nd rfl (by first | exact Or.inl rfl | exact Or.inr rfl) (pe_ix ix_list (pe_lst (pa_cons (pe_call (ok_L_draw t) (hr.mono (by decide)) (by rfl) t.m_L_draw t.F_L_draw.kp t.b_L_draw .nil pass0 (pa_cons (pv 0) (pa_cons (pv 1) pa_nil))) (pa_cons (pv 3) pa_nil))) (pe_callTy (T := "int") call_int1 (by rfl) t.n_int (by decide +kernel) (pa_cons (pe_cmpR op_eq (pe_call (ok_L_draw t) (hr.mono (by decide)) (by rfl) t.m_L_draw t.F_L_draw.kp t.b_L_draw .nil pass0 (pa_cons (pv 0) (pa_cons pe_int pa_nil))) pe_int (nomark _)) pa_nil)) (fun _ _ => rfl)))
      (pss_one (ps_ret (pe_ix ix_list (pe_lst (pa_cons (pe_tup (pa_cons (pv 5) (pa_cons (pv 6) (pa_cons (pv 7) pa_nil)))) (pa_cons (pe_tup pa_nil) pa_nil))) (pe_callTy (T := "int") call_int1 (by rfl) t.n_int (by decide +kernel) (pa_cons (pe_cmpR op_eq (pe_call (ok_L_draw t) (hr.mono (by decide)) (by rfl) t.m_L_draw t.F_L_draw.kp t.b_L_draw .nil pass0 (pa_cons (pv 0) (pa_cons (pv 4) pa_nil))) pe_int (nomark _)) pa_nil)) (fun _ _ => rfl))))))), ?_⟩
    refine ⟨_, rfl, _, rfl, F, p, S, b, rfl, sF, fp, hp, by omega, S0, by omega, fun d1 H1 d10 d11 g1 hp1 => ?_⟩
    refine ⟨_, rfl, F, p, 2, _, rfl, g1.fh, fp, hp1, by omega, by decide, by decide, fun d2 H2 d20 d21 g2 hp2 => ⟨_, _, rfl, rfl, .inl ⟨by decide, by decide⟩, _, _, rfl, rfl, ?_⟩⟩
    refine ⟨_, rfl, _, rfl, F, p, R, _, rfl, g2.fh, fp, hp2, by omega, R0, by omega, fun d3 H3 d30 d31 g3 hp3 => ⟨_, rfl, two_le, fun l nl => ?_⟩⟩
    have g4 := ((g1.trans g2).trans g3).own (o := .lst [.int d3, .int row]) nl
    have hl : (upd H3 l (.lst [.int d3, .int row])) l = some (.lst [.int d3, .int row]) := upd_same
    have hp4 := hp3.ln (o := .lst [.int d3, .int row]) nl
    have pl := hp3.ne nl
    generalize upd H3 l (.lst [.int d3, .int row]) = H4 at g4 hl hp4
    refine ⟨_, rfl, F, p, 3, _, rfl, g4.fh, fp, hp4, by omega, by decide, by decide, fun d4 H5 d40 d41 g5 hp5 => ⟨rfl, .inr ⟨_, rfl, ?_⟩⟩⟩
    have hl5 := g5.fr _ _ hl (Ne.symm pl)
    refine ⟨l, _, _, _, rfl, rfl, SqL.of hl5, at2, ?_⟩
    have et : ∃ r : Int, (if decide (V.int d4 = V.int 1) = true then V.int row else V.int d3) = V.int r ∧ 0 ≤ r ∧ r < R := by
      split
      · exact ⟨_, rfl, r0, r1⟩
      · exact ⟨_, rfl, d30, d31⟩
    obtain ⟨r, er, r0', r1'⟩ := et
    rw [er]
    have g6 := g4.trans g5
    refine ⟨_, rfl, _, rfl, _, rfl, three_le, fun q0 n0 => ⟨nil_le, fun q1 n1 => ⟨two_le, fun l2 nl2 => ?_⟩⟩⟩
    have g7 := (g6.new (o := .tup [.int d1, .int (2 * d2 - 1), .int r]) n0).new (o := .tup []) n1
    have hp7 := (hp5.ln (o := .tup [.int d1, .int (2 * d2 - 1), .int r]) n0).ln (o := .tup []) n1
    have i0 : Is (upd (upd F q0 (.tup [.int d1, .int (2 * d2 - 1), .int r])) q1 (.tup [])) (.ref q0) (Ent.go d1 (2 * d2 - 1) r) := ⟨q0, rfl, by rw [upd_ne (ne_of_none upd_same n1)]; exact upd_same⟩
    have i1 : Is (upd (upd F q0 (.tup [.int d1, .int (2 * d2 - 1), .int r])) q1 (.tup [])) (.ref q1) Ent.emp := ⟨q1, rfl, upd_same⟩
    have fp7 := hp.f fp g7
    generalize upd (upd F q0 (.tup [.int d1, .int (2 * d2 - 1), .int r])) q1 (.tup []) = F7 at g7 i0 i1 fp7
    generalize upd (upd H5 q0 (.tup [.int d1, .int (2 * d2 - 1), .int r])) q1 (.tup []) = H7 at g7 hp7 nl2
    have g8 := g7.own (o := .lst [.ref q0, .ref q1]) nl2
    have hl8 : (upd H7 l2 (.lst [.ref q0, .ref q1])) l2 = some (.lst [.ref q0, .ref q1]) := upd_same
    have hp8 := hp7.ln (o := .lst [.ref q0, .ref q1]) nl2
    have pl2 := hp7.ne nl2
    generalize upd H7 l2 (.lst [.ref q0, .ref q1]) = H8 at g8 hl8 hp8
    refine ⟨_, rfl, _, rfl, F7, p, few, _, rfl, g8.fh, fp7, hp8, by omega, f0, by omega, fun d5 H9 d50 d51 g9 hp9 => ⟨rfl, .inr ⟨_, rfl, ?_⟩⟩⟩
    refine ⟨l2, _, _, _, rfl, rfl, SqL.of (g9.fr _ _ hl8 (Ne.symm pl2)), at2, ?_⟩
    by_cases c : decide (V.int d5 = V.int 1) = true
    · rw [if_pos c]
      exact q F7 H9 _ Ent.emp (g8.trans g9) (hp9.le (by omega)) i1 (fun p w r z => nomatch z)
    · rw [if_neg c]
      refine q F7 H9 _ _ (g8.trans g9) (hp9.le (by omega)) i0 fun p w r' z => ?_
      cases z
      exact ⟨⟨d10, d11⟩, by omega, r0', r1'⟩
theorem Ow.frz' {H F H1 : Hp} {q r : Addr} {o u : HO} (w : Ow H F H1 q o) (e : q ≠ r) : Ow H (upd F r u) H1 q o := ⟨w.n, by rw [upd_ne e]; exact w.f, w.h⟩
theorem Ow.neq {H F H1 : Hp} {q r : Addr} {o : HO} (w : Ow H F H1 q o) {u : HO} (h : H r = some u) : q ≠ r := fun e => by rw [← e, w.n] at h; cases h
def sp_L_machine : Sp := fun vs H Q _ => ∃ (F : Hp) (p : Addr) (b : Int), vs = [.ref p] ∧ Same F H ∧ F p = none ∧ PuAt H p b ∧ b ≤ 700000 ∧
  ∀ (F' H' : Hp) (v : V) (M : Mach) (R S : Nat), Gr (muP p) F H F' H' → PuAt H' p (b + 1000) → MOk M R S → Is F' v M → Q v H'
theorem ok_L_machine (t : Tx K mg) : FnOk P w K mg base CX0 4 t.a_L_machine t.fd_L_machine ["_law_purse_here"] sp_L_machine := by
  refine t.F_L_machine.ok sc_L_machine (fun vs H Q E h => ?_) (fun cdv A outer s H vs Q E hr h => ?_)
  · obtain ⟨F, p, b, rfl, _⟩ := h
    rfl
  · obtain ⟨F, p, b, rfl, sF, fp, hp, hb, q⟩ := h
    refine ⟨_, (pss_cons (ps_set (i := 1) sc_L_machine.nd rfl (by first | exact Or.inl rfl | exact Or.inr rfl) (pe_op op_add pe_int (pe_call (ok_L_draw t) (hr.mono (by decide)) (by rfl) t.m_L_draw t.F_L_draw.kp t.b_L_draw .nil pass0 (pa_cons (pv 0) (pa_cons pe_int pa_nil)))))
      (pss_cons (ps_set (i := 2) sc_L_machine.nd rfl (by first | exact Or.inl rfl | exact Or.inr rfl) (pe_op op_add pe_int (pe_call (ok_L_draw t) (hr.mono (by decide)) (by rfl) t.m_L_draw t.F_L_draw.kp t.b_L_draw .nil pass0 (pa_cons (pv 0) (pa_cons pe_int pa_nil)))))
      (pss_cons (ps_set (i := 3) sc_L_machine.nd rfl (by first | exact Or.inl rfl | exact Or.inr rfl) (pe_ix ix_list (pe_lst (pa_cons pe_int (pa_cons pe_int (pa_cons pe_int (pa_cons pe_int pa_nil))))) (pe_call (ok_L_draw t) (hr.mono (by decide)) (by rfl) t.m_L_draw t.F_L_draw.kp t.b_L_draw .nil pass0 (pa_cons (pv 0) (pa_cons pe_int pa_nil))) (fun _ _ => rfl)))
      (pss_one (ps_ret (pe_lc (own := [("_law_row", 5)]) (g := gName 5) (tt := tYes) rfl sc_L_machine.nd (pi_range1 (by rfl) t.n_range (pa_cons (pv 1) pa_nil)) (blkOk_by (N := N_L_machine) (sc := defScope s_L_machine) (by decide +kernel)) (fun _ _ _ _ _ => (pg_name (i := 5) sc_L_machine.nd rfl (by first | exact Or.inl rfl | exact Or.inr rfl))) (fun _ _ _ _ _ => pts_nil) (fun _ _ _ _ _ => (pe_lc (own := [("_law_sign", 4)]) (g := gName 4) (tt := tYes) rfl sc_L_machine.nd (pi_range1 (by rfl) t.n_range (pa_cons (pv 2) pa_nil)) (blkOk_by (N := N_L_machine) (sc := { kind := PySem.ScopeKind.function, names := [(PySem.Str.ofString ".0", PySem.NameKind.local), (PySem.Str.ofString "_law_row", PySem.NameKind.cell), (PySem.Str.ofString "range", PySem.NameKind.globalImplicit), (PySem.Str.ofString "_law_few", PySem.NameKind.cell), (PySem.Str.ofString "_law_purse_here", PySem.NameKind.cell), (PySem.Str.ofString "_law_rows", PySem.NameKind.cell), (PySem.Str.ofString "_law_signs", PySem.NameKind.cell)], isGenerator := false, isCoroutine := false }) (by decide +kernel)) (fun _ _ _ _ _ => (pg_name (i := 4) sc_L_machine.nd rfl (by first | exact Or.inl rfl | exact Or.inr rfl))) (fun _ _ _ _ _ => pts_nil) (fun _ _ _ _ _ => (pe_call (ok_L_entry t) (hr.mono (by decide)) (by rfl) t.m_L_entry t.F_L_entry.kp t.b_L_entry .nil pass0 (pa_cons (pv 0) (pa_cons (pv 1) (pa_cons (pv 2) (pa_cons (pv 5) (pa_cons (pv 3) pa_nil))))))))))))))), ?_⟩
    obtain ⟨po, hpo⟩ := hp.ex
    refine ⟨_, rfl, F, p, 4, b, rfl, sF, fp, hp, by omega, by decide, by decide, fun d1 H1 d10 d11 g1 hp1 => ⟨_, _, rfl, rfl, ?_⟩⟩
    refine ⟨_, rfl, F, p, 3, _, rfl, g1.fh, fp, hp1, by omega, by decide, by decide, fun d2 H2 d20 d21 g2 hp2 => ⟨_, _, rfl, rfl, ?_⟩⟩
    refine ⟨by show 4 ≤ sizeLine; decide, fun l nl => ?_⟩
    have g3 := (g1.trans g2).own (o := .lst [.int 4, .int 9, .int 20, .int 60]) nl
    have hl : (upd H2 l (.lst [.int 4, .int 9, .int 20, .int 60])) l = some (.lst [.int 4, .int 9, .int 20, .int 60]) := upd_same
    have hp3 := hp2.ln (o := .lst [.int 4, .int 9, .int 20, .int 60]) nl
    have pl := hp2.ne nl
    generalize upd H2 l (.lst [.int 4, .int 9, .int 20, .int 60]) = H3 at g3 hl hp3
    refine ⟨_, rfl, F, p, 4, _, rfl, g3.fh, fp, hp3, by omega, by decide, by decide, fun d3 H4 d30 d31 g4 hp4 => ?_⟩
    have ef : ∃ f : Int, atI [V.int 4, V.int 9, V.int 20, V.int 60] d3 = some (.int f) ∧ 0 < f ∧ f ≤ 100 := by
      rcases (by omega : d3 = 0 ∨ d3 = 1 ∨ d3 = 2 ∨ d3 = 3) with rfl | rfl | rfl | rfl <;> exact ⟨_, rfl, by decide, by decide⟩
    obtain ⟨few, ef, f0, f1⟩ := ef
    refine ⟨l, _, _, _, rfl, rfl, SqL.of (g4.fr _ _ hl (Ne.symm pl)), ef, ?_⟩
    have g5 := g3.trans g4
    have eR : ((1 + d1).toNat : Int) = 1 + d1 := Int.toNat_of_nonneg (by omega)
    have eS : ((2 + d2).toNat : Int) = 2 + d2 := Int.toNat_of_nonneg (by omega)
    generalize hR : (1 + d1).toNat = R at eR
    generalize hS : (2 + d2).toNat = S at eS
    dsimp only
    rw [← eR, ← eS]
    refine ⟨_, rfl, (R : Int), rfl, by omega, by omega, fun D nD => ?_⟩
    have pD := hp4.ne nD
    refine lc_range (lo := 0) (n := ((R : Int)).toNat) (fun i G => ∃ (F1 : Hp) (rs : List V) (M : Mach) (b1 : Int), Gr (muP p) F H F1 G ∧ PuAt G p b1 ∧ b1 ≤ b + 8 + 40 * i ∧ Ow H F1 G D (.lst rs) ∧ IsAll F1 rs M ∧ M.length = i ∧ ∀ row ∈ M, row.length = S ∧ ∀ e ∈ row, EOk R S e)
      ⟨F, [], [], _, g5.own nD, hp4.ln nD, by omega, Ow.mk1 g5 nD, All2.nil, rfl, fun row z => nomatch z⟩ ?_ ?_
    · rintro i G hi ⟨F1, rs, M, b1, g, hpG, hb1, w, al, lM, hM⟩
      have iR : i < R := by omega
      refine ⟨rfl, yes ⟨_, rfl, (S : Int), rfl, by omega, by omega, fun r nr => ?_⟩⟩
      have pr := hpG.ne nr
      have Dr : D ≠ r := w.ne nr
      refine lc_range (lo := 0) (n := ((S : Int)).toNat) (fun j G => ∃ (F2 : Hp) (es : List V) (row : List Ent) (b2 : Int), Gr (muP p) F H F2 G ∧ PuAt G p b2 ∧ b2 ≤ b1 + 10 * j ∧ Ow H F2 G D (.lst rs) ∧ Ow H F2 G r (.lst es) ∧ IsAll F2 rs M ∧ IsAll F2 es row ∧ row.length = j ∧ ∀ e ∈ row, EOk R S e)
        ⟨F1, [], [], b1, g.own nr, hpG.ln nr, by omega, w.own nr, Ow.mk1 g nr, al, All2.nil, rfl, fun e z => nomatch z⟩ ?_ ?_
      · rintro j G hj ⟨F2, es, row, b2, g, hpG, hb2, w, wr, al, ae, lr, hrow⟩
        have jS : j < S := by omega
        refine ⟨rfl, yes ⟨_, rfl, _, rfl, _, rfl, _, rfl, _, rfl, F2, p, (R : Int), (S : Int), few, b2, (0 + i : Int), rfl, g.fh, hp.f fp g, hpG, by omega, by omega, by omega, by omega, by omega, by omega, by omega, f0, f1, fun F3 G3 v e g3 hp3 ie eo => ?_⟩⟩
        have w3 := w.call g3 (Ne.symm pD)
        have wr3 := wr.call g3 (Ne.symm pr)
        refine ⟨es, wr3.h, by rw [ae.1, lr]; exact lt_size (by omega), F3, es ++ [v], row ++ [e], _, (g.trans g3).set wr3.f (.inl wr3.n), hp3.off pr, by omega, w3.other Dr, wr3.set, al.up g3.ff, (ae.up g3.ff).app (All2.one ie), by rw [List.length_append, lr]; rfl, fun e' z => ?_⟩
        rcases List.mem_append.mp z with z | z
        · exact hrow e' z
        · rw [List.mem_singleton.mp z]; exact ⟨eo⟩
      · rintro G ⟨F2, es, row, b2, g, hpG, hb2, w, wr, al, ae, lr, hrow⟩
        have lr : row.length = S := by rw [lr]; exact Int.toNat_natCast S
        have g2 := g.frz wr.h wr.n wr.f
        have s2 : Same F2 (upd F2 r (.lst es)) := sm_new (Same.refl F2) wr.f
        have w2 := w.frz' (u := .lst es) Dr
        refine ⟨rs, w2.h, by rw [al.1, lM]; exact lt_size (by omega), upd F2 r (.lst es), rs ++ [.ref r], M ++ [row], b2, g2.set w2.f (.inl w2.n), hpG.off pD, by omega, w2.set, (al.up s2).app (All2.one ⟨r, es, rfl, upd_same, ae.up s2⟩), by rw [List.length_append, lM]; rfl, fun row' z => ?_⟩
        rcases List.mem_append.mp z with z | z
        · exact hM row' z
        · rw [List.mem_singleton.mp z]; exact ⟨lr, hrow⟩
    · rintro G ⟨F1, rs, M, b1, g, hpG, hb1, w, al, lM, hM⟩
      have lM : M.length = R := by rw [lM]; exact Int.toNat_natCast R
      have hb1 : b1 ≤ b + 8 + 40 * R := by rw [show ((R : Int).toNat : Int) = R from by rw [Int.toNat_natCast]] at hb1; exact hb1
      refine q (upd F1 D (.lst rs)) G _ M R S (g.frz w.h w.n w.f) (hpG.le (by omega)) ⟨by omega, by omega, by omega, by omega, lM, fun r z => (hM r z).1, fun r z => (hM r z).2⟩ ⟨D, rs, rfl, upd_same, al.up (sm_new (Same.refl F1) w.f)⟩
abbrev Rs := T3 (List PI) Int (List PI)
def OkS (S : Nat) (l : List PI) : Prop := ∀ q ∈ l, (0 ≤ q.a ∧ q.a < S) ∧ 1 ≤ q.b
theorem OkS.nil {S : Nat} : OkS S [] := fun q z => nomatch z
theorem OkS.rev {S : Nat} {l : List PI} (h : OkS S l) : OkS S l.reverse := fun q z => h q (List.mem_reverse.mp z)
theorem All2.rev {α β : Type} {r : α → β → Prop} : ∀ {xs : List α} {ys : List β}, All2 r xs ys → All2 r xs.reverse ys.reverse
  | [], [], _ => All2.nil
  | [], y :: ys, h => by have := h.1; simp at this
  | x :: xs, [], h => by have := h.1; simp at this
  | x :: xs, y :: ys, h => by
    rw [List.reverse_cons, List.reverse_cons]
    exact (All2.rev (xs := xs) (ys := ys) ⟨by have := h.1; simpa using this, fun i a b p q => h.2 (i + 1) a b (by simpa using p) (by simpa using q)⟩).app (All2.one (h.2 0 x y rfl rfl))
def OkR (S : Nat) (x : Rs) : Prop := (OkS S x.a ∧ x.a.length ≤ 900) ∧ (0 ≤ x.b ∧ x.b < S) ∧ OkS S x.c ∧ x.c.length ≤ 900
/-! ### words -/
/-- a text that may stand in a datum -/
structure TStr where
  x : Str
  ok : PyData.strOk x = true
  deriving DecidableEq
instance : Dat TStr where
  rep := fun _ v d => v = .str d.x
  mono := fun _ h => h
  py := fun d => .str d.x
  dp := fun h => h ▸ .str _
  can := fun d => d.ok
  dep := 0
  depth := fun _ => Nat.le_refl _
  eqv := fun a b => by
    obtain ⟨a, _⟩ := a; obtain ⟨b, _⟩ := b
    simp [PyData.eqv]
/-! ### an entry -/
def entAt (M : Mach) (r s : Int) : Ent := (((M[r.toNat]?).getD [])[s.toNat]?).getD .emp
theorem ent_of {M : Mach} {R S : Nat} (h : MOk M R S) {r s : Int} (r0 : 0 ≤ r) (r1 : r < R) (s0 : 0 ≤ s) (s1 : s < S) : ∃ row, M[r.toNat]? = some row ∧ row[s.toNat]? = some (entAt M r s) ∧ EOk R S (entAt M r s) := by
  have hr : r.toNat < M.length := by rw [h.len]; omega
  have e1 : M[r.toNat]? = some M[r.toNat] := List.getElem?_eq_getElem hr
  have hs : s.toNat < (M[r.toNat]).length := by rw [h.row _ (List.getElem_mem hr)]; omega
  have e2 : (M[r.toNat])[s.toNat]? = some (M[r.toNat])[s.toNat] := List.getElem?_eq_getElem hs
  have e3 : entAt M r s = (M[r.toNat])[s.toNat] := by
    unfold entAt
    rw [e1]
    show ((M[r.toNat])[s.toNat]?).getD Ent.emp = _
    rw [e2]; rfl
  exact ⟨_, e1, by rw [e3]; exact e2, by rw [e3]; exact h.ent _ (List.getElem_mem hr) _ (List.getElem_mem hs)⟩
def tEnd : TStr := ⟨"end", by decide +kernel⟩
/-! ### out of a block -/
def tOut : TStr := ⟨"out", by decide +kernel⟩
def tStay : TStr := ⟨"stay", by decide +kernel⟩
/-! ### blocks, gone through (plain) -/
structure Bs where
  s : List Int
  p : Int
  r : Int
  deriving DecidableEq
inductive Bn where
  | nxt (b : Bs)
  | lv (w : TStr) (s : List Int) (r x d : Int)
def sgn (b : Bs) : Int := (b.s[b.p.toNat]?).getD 0
def bn (M : Mach) (b : Bs) : Bn := match entAt M b.r (sgn b) with
  | .emp => .lv tEnd b.s b.r b.p 0
  | .go pu wa to => if 0 ≤ b.p + wa ∧ b.p + wa < (b.s.length : Int) then .nxt ⟨b.s.set b.p.toNat pu, b.p + wa, to⟩ else .lv tOut (b.s.set b.p.toNat pu) to wa 1
theorem bn_emp {M : Mach} {b : Bs} (e : entAt M b.r (sgn b) = .emp) : bn M b = .lv tEnd b.s b.r b.p 0 := by
  unfold bn; rw [e]
theorem bn_go {M : Mach} {b : Bs} {pu wa to : Int} (e : entAt M b.r (sgn b) = .go pu wa to) (h : 0 ≤ b.p + wa ∧ b.p + wa < (b.s.length : Int)) : bn M b = .nxt ⟨b.s.set b.p.toNat pu, b.p + wa, to⟩ := by
  unfold bn; rw [e]; exact if_pos h
theorem bn_out {M : Mach} {b : Bs} {pu wa to : Int} (e : entAt M b.r (sgn b) = .go pu wa to) (h : ¬ (0 ≤ b.p + wa ∧ b.p + wa < (b.s.length : Int))) : bn M b = .lv tOut (b.s.set b.p.toNat pu) to wa 1 := by
  unfold bn; rw [e]; exact if_neg h
def tj (M : Mach) : Nat → Bs → Option Bs
  | 0, b => some b
  | n + 1, b => match bn M b with
    | .nxt c => tj M n c
    | .lv .. => none
inductive ThR where
  | stay
  | fin (w : TStr) (s : List Int) (r x n : Int)
  deriving DecidableEq
def bgo (M : Mach) : Nat → Bs → Int → ThR
  | 0, _, _ => .stay
  | n + 1, b, k => match bn M b with
    | .nxt c => bgo M n c (k + 1)
    | .lv w s r x d => .fin w s r x (k + d)
section
variable {M : Mach} {b c : Bs}
theorem tj_nxt {n : Nat} (e : bn M b = .nxt c) : tj M (n + 1) b = tj M n c := by
  show (match bn M b with | .nxt c => tj M n c | .lv .. => none) = _
  rw [e]
theorem tj_lv {n : Nat} {w s r x d} (e : bn M b = .lv w s r x d) : tj M (n + 1) b = none := by
  show (match bn M b with | .nxt c => tj M n c | .lv .. => none) = _
  rw [e]
theorem bgo_nxt {n : Nat} {k : Int} (e : bn M b = .nxt c) : bgo M (n + 1) b k = bgo M n c (k + 1) := by
  show (match bn M b with | .nxt c => bgo M n c (k + 1) | .lv w s r x d => .fin w s r x (k + d)) = _
  rw [e]
theorem bgo_lv {n : Nat} {k : Int} {w s r x d} (e : bn M b = .lv w s r x d) : bgo M (n + 1) b k = .fin w s r x (k + d) := by
  show (match bn M b with | .nxt c => bgo M n c (k + 1) | .lv w s r x d => .fin w s r x (k + d)) = _
  rw [e]
theorem tj_add (M : Mach) : ∀ (m n : Nat) (b : Bs), tj M (m + n) b = (tj M m b).bind (tj M n)
  | 0, n, b => by rw [Nat.zero_add]; rfl
  | m + 1, n, b => by
    rw [show m + 1 + n = (m + n) + 1 by omega]
    cases e : bn M b with
    | nxt c => rw [tj_nxt e, tj_nxt e]; exact tj_add M m n c
    | lv w s r x d => rw [tj_lv e, tj_lv e]; rfl
theorem tj_at {m n : Nat} {c : Bs} (h : tj M m b = some c) : tj M (m + n) b = tj M n c := by
  rw [tj_add, h]; rfl
theorem tj_le {m n : Nat} (l : m ≤ n) (h : tj M n b ≠ none) : tj M m b ≠ none := fun z => by
  obtain ⟨k, rfl⟩ := Nat.le.dest l
  rw [tj_add, z] at h
  exact h rfl
/-- it leaves behind i steps, from c -/
theorem bgo_of : ∀ (i n : Nat) (b : Bs) (k : Int) (c : Bs) (w : TStr) (s : List Int) (r x d : Int), tj M i b = some c → bn M c = .lv w s r x d → i < n → bgo M n b k = .fin w s r x (k + i + d)
  | 0, n + 1, b, k, c, w, s, r, x, d, h, e, _ => by
    cases h
    rw [bgo_lv e]; congr 1; omega
  | i + 1, n + 1, b, k, c, w, s, r, x, d, h, e, l => by
    cases eb : bn M b with
    | nxt b' =>
      rw [tj_nxt eb] at h
      rw [bgo_nxt eb, bgo_of i n b' (k + 1) c w s r x d h e (by omega)]
      congr 1; omega
    | lv w s r x d => rw [tj_lv eb] at h; cases h
theorem bgo_fin : ∀ (n : Nat) (b : Bs) (k : Int) (w : TStr) (s : List Int) (r x m : Int), bgo M n b k = .fin w s r x m → ∃ (i : Nat) (c : Bs) (d : Int), i < n ∧ tj M i b = some c ∧ bn M c = .lv w s r x d ∧ m = k + i + d
  | 0, b, k, w, s, r, x, m, h => by cases h
  | n + 1, b, k, w, s, r, x, m, h => by
    cases eb : bn M b with
    | nxt b' =>
      rw [bgo_nxt eb] at h
      obtain ⟨i, c, d, l, h1, h2, h3⟩ := bgo_fin n b' (k + 1) w s r x m h
      exact ⟨i + 1, c, d, by omega, by rw [tj_nxt eb]; exact h1, h2, by rw [h3]; omega⟩
    | lv w' s' r' x' d' =>
      rw [bgo_lv eb] at h
      cases h
      exact ⟨0, b, d', by omega, rfl, eb, by omega⟩
theorem bgo_stay : ∀ (n : Nat) (b : Bs) (k : Int), bgo M n b k = .stay → tj M n b ≠ none
  | 0, b, k, _ => fun z => nomatch z
  | n + 1, b, k, h => by
    cases eb : bn M b with
    | nxt b' =>
      rw [bgo_nxt eb] at h
      rw [tj_nxt eb]
      exact bgo_stay n b' _ h
    | lv w' s' r' x' d' => rw [bgo_lv eb] at h; cases h
/-- it never leaves -/
def NV (M : Mach) (b : Bs) : Prop := ∀ n, tj M n b ≠ none
theorem NV.fin {w s r x m} (h : NV M b) (n : Nat) (k : Int) : bgo M n b k ≠ .fin w s r x m := fun z => by
  obtain ⟨i, c, d, _, h1, h2, _⟩ := bgo_fin n b k w s r x m z
  refine h (i + 1) ?_
  rw [tj_at h1, tj_lv h2]
theorem NV.stay (h : NV M b) (n : Nat) (k : Int) : bgo M n b k = .stay := by
  cases e : bgo M n b k with
  | stay => rfl
  | fin w s r x m => exact absurd e (h.fin n k)
theorem NV.of {i : Nat} (h : tj M i b = some c) (z : NV M c) : NV M b := fun n => by
  refine tj_le (n := i + n) (by omega) ?_
  rw [tj_at h]; exact z n
theorem NV.cyc {d : Nat} (h : tj M d c = some c) (p : 0 < d) : NV M c := fun n => by
  have z : ∀ q, tj M (q * d) c = some c := fun q => by
    induction q with
    | zero => rw [Nat.zero_mul]; rfl
    | succ q ih => rw [Nat.succ_mul, tj_at ih, h]
  refine tj_le (n := n * d) (Nat.le_mul_of_pos_right n p) ?_
  rw [z]; exact fun e => nomatch e
theorem NV.two {i j : Nat} (l : i < j) (h : tj M i b = some c) (h' : tj M j b = some c) : NV M b := by
  refine NV.of h (NV.cyc (d := j - i) ?_ (by omega))
  rw [← tj_at (n := j - i) h, show i + (j - i) = j by omega]; exact h'
end
/-! ### how many there are -/
theorem pig : ∀ (n : Nat) (f : Nat → Nat), (∀ i, i ≤ n → f i < n) → ∃ i j, i < j ∧ j ≤ n ∧ f i = f j
  | 0, f, h => absurd (h 0 (Nat.le_refl 0)) (by omega)
  | n + 1, f, h => by
    by_cases e : ∃ i, i ≤ n ∧ f i = f (n + 1)
    · obtain ⟨i, l, e⟩ := e
      exact ⟨i, n + 1, by omega, Nat.le_refl _, e⟩
    · have e : ∀ i, i ≤ n → f i ≠ f (n + 1) := fun i l z => e ⟨i, l, z⟩
      have hl := h (n + 1) (Nat.le_refl _)
      obtain ⟨i, j, l, lj, q⟩ := pig n (fun i => if f i = n then f (n + 1) else f i) fun i l => by
        have h1 := h i (by omega)
        have h2 := e i l
        show (if f i = n then f (n + 1) else f i) < n
        split
        · omega
        · omega
      refine ⟨i, j, l, by omega, ?_⟩
      have ei := e i (by omega)
      have ej := e j lj
      have q : (if f i = n then f (n + 1) else f i) = (if f j = n then f (n + 1) else f j) := q
      split at q
      · split at q
        · omega
        · exact absurd q.symm ej
      · split at q
        · exact absurd q ei
        · exact q
def enc (S : Nat) : List Int → Nat
  | [] => 0
  | x :: l => x.toNat + S * enc S l
def SOk (S : Nat) (l : List Int) : Prop := ∀ x ∈ l, 0 ≤ x ∧ x < (S : Int)
theorem SOk.tail {S : Nat} {x : Int} {l : List Int} (h : SOk S (x :: l)) : SOk S l := fun y z => h y (List.mem_cons_of_mem _ z)
theorem SOk.app {S : Nat} {l m : List Int} (h : SOk S l) (k : SOk S m) : SOk S (l ++ m) := fun y z => (List.mem_append.mp z).elim (h y) (k y)
theorem SOk.set {S : Nat} {l : List Int} (h : SOk S l) {i : Nat} {v : Int} (k : 0 ≤ v ∧ v < (S : Int)) : SOk S (l.set i v) := fun y z => by
  rcases List.mem_or_eq_of_mem_set z with z | z
  · exact h y z
  · rw [z]; exact k
theorem SOk.rev {S : Nat} {l : List Int} (h : SOk S l) : SOk S l.reverse := fun y z => h y (List.mem_reverse.mp z)
theorem enc_lt {S : Nat} : ∀ {l : List Int}, SOk S l → enc S l < S ^ l.length
  | [], _ => by show 0 < 1; omega
  | x :: l, h => by
    have h1 := enc_lt h.tail
    have hx := h x (List.mem_cons_self ..)
    show x.toNat + S * enc S l < S ^ (l.length + 1)
    rw [Nat.pow_succ, Nat.mul_comm (S ^ l.length) S]
    have : S * (enc S l + 1) ≤ S * S ^ l.length := Nat.mul_le_mul_left S h1
    rw [Nat.mul_add, Nat.mul_one] at this
    omega
theorem div_eq2 {S x y a b : Nat} (hx : x < S) (hy : y < S) (e : x + S * a = y + S * b) : x = y ∧ a = b := by
  have p : 0 < S := by omega
  have e1 : (x + S * a) % S = x := by rw [Nat.add_mul_mod_self_left, Nat.mod_eq_of_lt hx]
  have e2 : (y + S * b) % S = y := by rw [Nat.add_mul_mod_self_left, Nat.mod_eq_of_lt hy]
  have exy : x = y := by rw [← e1, ← e2, e]
  subst exy
  refine ⟨rfl, Nat.eq_of_mul_eq_mul_left p (by omega)⟩
theorem enc_inj {S : Nat} : ∀ {l m : List Int}, SOk S l → SOk S m → l.length = m.length → enc S l = enc S m → l = m
  | [], [], _, _, _, _ => rfl
  | [], _ :: _, _, _, h, _ => by simp at h
  | _ :: _, [], _, _, h, _ => by simp at h
  | x :: l, y :: m, h, k, hl, e => by
    have hx := h x (List.mem_cons_self ..)
    have hy := k y (List.mem_cons_self ..)
    obtain ⟨e1, e2⟩ := div_eq2 (S := S) (x := x.toNat) (y := y.toNat) (by omega) (by omega) e
    rw [enc_inj h.tail k.tail (by simpa using hl) e2, show x = y by omega]
structure BOk (R S L : Nat) (b : Bs) : Prop where
  len : b.s.length = L
  s : SOk S b.s
  p0 : 0 ≤ b.p
  p1 : b.p < L
  r0 : 0 ≤ b.r
  r1 : b.r < R
section
variable {M : Mach} {R S L : Nat} {b c : Bs}
theorem BOk.sgn (h : BOk R S L b) : b.s[b.p.toNat]? = some (sgn b) ∧ 0 ≤ sgn b ∧ sgn b < S := by
  have l : b.p.toNat < b.s.length := by have := h.len; have := h.p0; have := h.p1; omega
  have e : b.s[b.p.toNat]? = some b.s[b.p.toNat] := List.getElem?_eq_getElem l
  have e2 : E.sgn b = b.s[b.p.toNat] := by unfold E.sgn; rw [e]; rfl
  rw [e2]
  exact ⟨e, h.s _ (List.getElem_mem l)⟩
theorem BOk.ent (h : BOk R S L b) (hM : MOk M R S) : EOk R S (entAt M b.r (E.sgn b)) := (ent_of hM h.r0 h.r1 h.sgn.2.1 h.sgn.2.2).choose_spec.2.2
theorem bn_ok (h : BOk R S L b) (hM : MOk M R S) (e : bn M b = .nxt c) : BOk R S L c := by
  have eo := h.ent hM
  cases ee : entAt M b.r (E.sgn b) with
  | emp => rw [bn_emp ee] at e; cases e
  | go pu wa to =>
    rw [ee] at eo
    obtain ⟨o1, o2, o3⟩ := eo.ok _ _ _ rfl
    by_cases z : 0 ≤ b.p + wa ∧ b.p + wa < (b.s.length : Int)
    · rw [bn_go ee z] at e
      cases e
      exact ⟨by rw [List.length_set]; exact h.len, h.s.set o1, z.1, by rw [← h.len]; exact z.2, o3.1, o3.2⟩
    · rw [bn_out ee z] at e; cases e
theorem tj_ok (hM : MOk M R S) : ∀ (n : Nat) (b c : Bs), BOk R S L b → tj M n b = some c → BOk R S L c
  | 0, b, c, h, e => by cases e; exact h
  | n + 1, b, c, h, e => by
    cases eb : bn M b with
    | nxt b' => rw [tj_nxt eb] at e; exact tj_ok hM n b' c (bn_ok h hM eb) e
    | lv w s r x d => rw [tj_lv eb] at e; cases e
def code (R S L : Nat) (b : Bs) : Nat := b.r.toNat + R * (b.p.toNat + L * enc S b.s)
theorem code_lt (h : BOk R S L b) : code R S L b < R * L * S ^ L := by
  have h1 := enc_lt h.s
  rw [h.len] at h1
  have hp : b.p.toNat < L := by have := h.p0; have := h.p1; omega
  have hr : b.r.toNat < R := by have := h.r0; have := h.r1; omega
  have a1 : L * (enc S b.s + 1) ≤ L * S ^ L := Nat.mul_le_mul_left L h1
  rw [Nat.mul_add, Nat.mul_one] at a1
  have a2 : b.p.toNat + L * enc S b.s + 1 ≤ L * S ^ L := by omega
  have a3 : R * (b.p.toNat + L * enc S b.s + 1) ≤ R * (L * S ^ L) := Nat.mul_le_mul_left R a2
  rw [Nat.mul_add, Nat.mul_one, ← Nat.mul_assoc] at a3
  show b.r.toNat + R * (b.p.toNat + L * enc S b.s) < _
  omega
theorem code_inj (h : BOk R S L b) (k : BOk R S L c) (e : code R S L b = code R S L c) : b = c := by
  have h1 := h.p0; have h2 := h.p1; have h3 := h.r0; have h4 := h.r1
  have k1 := k.p0; have k2 := k.p1; have k3 := k.r0; have k4 := k.r1
  obtain ⟨e1, e2⟩ := div_eq2 (S := R) (by omega) (by omega) e
  obtain ⟨e3, e4⟩ := div_eq2 (S := L) (by omega) (by omega) e2
  have e5 := enc_inj h.s k.s (h.len.trans k.len.symm) e4
  obtain ⟨s, p, r⟩ := b
  obtain ⟨s', p', r'⟩ := c
  simp only at *
  rw [e5, show p = p' by omega, show r = r' by omega]
/-- what has gone on for so long never leaves -/
theorem nv_of (hM : MOk M R S) (h : BOk R S L b) {N : Nat} (l : R * L * S ^ L ≤ N) (e : tj M N b ≠ none) : NV M b := by
  have a : ∀ i, i ≤ R * L * S ^ L → ∃ c, tj M i b = some c := fun i li => by
    cases z : tj M i b with
    | none => exact absurd z (tj_le (n := N) (by omega) e)
    | some c => exact ⟨c, rfl⟩
  obtain ⟨i, j, ij, jn, q⟩ := pig (R * L * S ^ L) (fun i => code R S L ((tj M i b).getD b)) fun i li => by
    obtain ⟨c, ec⟩ := a i li
    show code R S L ((tj M i b).getD b) < _
    rw [ec]
    exact code_lt (tj_ok hM i b c h ec)
  obtain ⟨c, ec⟩ := a i (by omega)
  obtain ⟨c', ec'⟩ := a j jn
  have q : code R S L ((tj M i b).getD b) = code R S L ((tj M j b).getD b) := q
  rw [ec, ec'] at q
  have e := code_inj (tj_ok hM i b c h ec) (tj_ok hM j b c' h ec') q
  rw [← e] at ec'
  exact NV.two ij ec ec'
end
/-! ### a block is gone through -/
def st0 (s : List Int) (row : Int) (far : Bool) : Bs := ⟨s, if far then (s.length : Int) - 1 else 0, row⟩
def mostB (R S L : Nat) : Nat := R * L * S ^ L
def thr (M : Mach) (R S : Nat) (s : List Int) (row : Int) (far : Bool) : ThR := bgo M (mostB R S s.length + 1) (st0 s row far) 0
section
variable {M : Mach} {R S L : Nat} {s : List Int} {row : Int} {far : Bool}
theorem st0_ok (h : SOk S s) (l : 1 ≤ s.length) (r0 : 0 ≤ row) (r1 : row < R) : BOk R S s.length (st0 s row far) := by
  refine ⟨rfl, h, ?_, ?_, r0, r1⟩
  · show 0 ≤ (if far then (s.length : Int) - 1 else 0); split <;> omega
  · show (if far then (s.length : Int) - 1 else 0) < s.length; split <;> omega
theorem thr_stay (hM : MOk M R S) (h : SOk S s) (l : 1 ≤ s.length) (r0 : 0 ≤ row) (r1 : row < R) (e : thr M R S s row far = .stay) : NV M (st0 s row far) :=
  nv_of hM (st0_ok h l r0 r1) (Nat.le_succ _) (bgo_stay _ _ _ e)
theorem thr_nv (e : NV M (st0 s row far)) : thr M R S s row far = .stay := e.stay _ _
theorem thr_fin {w s' r x m} (e : thr M R S s row far = .fin w s' r x m) : ∃ (i : Nat) (c : Bs) (d : Int), tj M i (st0 s row far) = some c ∧ bn M c = .lv w s' r x d ∧ m = i + d := by
  obtain ⟨i, c, d, _, h1, h2, h3⟩ := bgo_fin _ _ _ _ _ _ _ _ e
  exact ⟨i, c, d, h1, h2, by omega⟩
theorem thr_of (hM : MOk M R S) (h : SOk S s) (l : 1 ≤ s.length) (r0 : 0 ≤ row) (r1 : row < R) {i : Nat} {c : Bs} {w s' r x d} (e : tj M i (st0 s row far) = some c) (e' : bn M c = .lv w s' r x d) : thr M R S s row far = .fin w s' r x (i + d) := by
  by_cases z : i < mostB R S s.length + 1
  · have := bgo_of (M := M) i _ (st0 s row far) 0 c w s' r x d e e' z
    rw [Int.zero_add] at this
    exact this
  · exfalso
    have nv := nv_of (N := i) hM (st0_ok (far := far) h l r0 r1) (by unfold mostB at z; omega) (by rw [e]; exact fun z => nomatch z)
    exact nv (i + 1) (by rw [tj_at e, tj_lv e'])
end
/-! ### what is told of a block, as a datum -/
theorem all_ints {H : Hp} : ∀ s : List Int, IsAll H (s.map V.int) s := fun s => ⟨by rw [List.length_map], fun i x y h k => by
  rw [List.getElem?_map, k] at h
  cases h; rfl⟩
def ThR.py : ThR → PyData
  | .stay => .tuple [.str tStay.x]
  | .fin w s r x n => .tuple [.str w.x, .tuple (s.map .int), .int r, .int x, .int n]
def ThR.rep (H : Hp) (v : V) : ThR → Prop
  | .stay => ∃ p, v = .ref p ∧ H p = some (.tup [.str tStay.x])
  | .fin w s r x n => ∃ p q, v = .ref p ∧ H p = some (.tup [.str w.x, .ref q, .int r, .int x, .int n]) ∧ H q = some (.tup (s.map V.int))
theorem can_ints (s : List Int) : PyData.canLayAll0 (s.map .int) = true := can_all (α := Int) s
theorem depth_ints (s : List Int) : PyData.depthAll (s.map .int) ≤ 0 := depth_all (α := Int) s
theorem eqv_ints (a b : List Int) : PyData.eqvAll (a.map .int) (b.map .int) = true ↔ a = b := eqv_all (α := Int) a b
instance : Dat ThR where
  rep := ThR.rep
  mono := fun {H H' v d} s h => by
    cases d with
    | stay => obtain ⟨p, e, h⟩ := h; exact ⟨p, e, s _ _ h⟩
    | fin w l r x n => obtain ⟨p, q, e, h, k⟩ := h; exact ⟨p, q, e, s _ _ h, s _ _ k⟩
  py := ThR.py
  dp := fun {K H v d} h => by
    cases d with
    | stay => obtain ⟨p, rfl, h⟩ := h; exact .tup (SqT.of h) (.cons (.str _) .nil)
    | fin w l r x n =>
      obtain ⟨p, q, rfl, h, k⟩ := h
      exact .tup (SqT.of h) (.cons (.str _) (.cons (.tup (SqT.of k) (dp_all (α := Int) (all_ints l))) (.cons (.int _) (.cons (.int _) (.cons (.int _) .nil)))))
  can := fun d => by
    cases d with
    | stay => decide +kernel
    | fin w l r x n =>
      show (PyData.canLay0 (.str w.x) && (PyData.canLayAll0 (l.map .int) && (true && (true && (true && true))))) = true
      rw [show PyData.canLay0 (.str w.x) = true from w.ok, can_ints]
      rfl
  dep := 2
  depth := fun d => by
    cases d with
    | stay => decide +kernel
    | fin w l r x n =>
      have h := depth_ints l
      show max 0 (max (PyData.depthAll (l.map .int) + 1) (max 0 (max 0 (max 0 0)))) + 1 ≤ 2
      omega
  eqv := fun a b => by
    cases a with
    | stay =>
      cases b with
      | stay => simp [ThR.py, PyData.eqv, PyData.eqvAll]
      | fin w l r x n => simp [ThR.py, PyData.eqv, PyData.eqvAll]
    | fin w l r x n =>
      cases b with
      | stay => simp [ThR.py, PyData.eqv, PyData.eqvAll]
      | fin w' l' r' x' n' =>
        obtain ⟨wx, wo⟩ := w
        obtain ⟨wx', wo'⟩ := w'
        simp only [ThR.py, PyData.eqv, PyData.eqvAll, Bool.and_eq_true, eqv_ints, decide_eq_true_eq, beq_iff_eq, ThR.fin.injEq, TStr.mk.injEq, and_true]
theorem units65 {k : Nat} {A : Around} (r : Room k A) : A.units + 65 < cLine := by have := r.un; omega
/-! ### most_setups, through -/
theorem ixN_of {n : Nat} {i : Int} (h0 : 0 ≤ i) (h1 : i < n) : ixN n i = some i.toNat := by
  unfold ixN
  rw [if_pos h0, if_pos h1]
theorem int_eq2 {a b : Int} : decide (V.int a = V.int b) = decide (a = b) := by
  by_cases h : a = b
  · subst h; rw [decide_eq_true rfl, decide_eq_true rfl]
  · rw [decide_eq_false h, decide_eq_false fun e => h (V.int.inj e)]
theorem most_le {R S L : Nat} (hR : R ≤ 4) (hS : S ≤ 4) (hL : L ≤ 8) {i : Nat} (hi : i ≤ L) : R * L * S ^ i ≤ 2097152 := by
  have a : S ^ i ≤ 4 ^ 8 := Nat.le_trans (Nat.pow_le_pow_left hS i) (Nat.pow_le_pow_right (by decide) (by omega))
  have b : R * L ≤ 4 * 8 := Nat.mul_le_mul hR hL
  exact Nat.le_trans (Nat.mul_le_mul b a) (by decide)
def sp_most_setups : Sp := fun vs H Q _ => ∃ (F : Hp) (m : V) (b : Addr) (M : Mach) (R S : Nat) (s : List Int), vs = [m, .ref b] ∧ Same F H ∧ Is F m M ∧ MOk M R S ∧ F b = some (.tup (s.map V.int)) ∧ s.length ≤ 8 ∧ Q (.int (mostB R S s.length : Nat)) H
theorem ok_most_setups (t : Tx K mg) : FnOk P w K mg base CX0 1 t.a_most_setups t.fd_most_setups ["machine", "block"] sp_most_setups := by
  refine t.F_most_setups.ok sc_most_setups (fun vs H Q E h => ?_) (fun cdv A outer s H vs Q E hr h => ?_)
  · obtain ⟨F, m, b, M, R, S, ss, rfl, _⟩ := h
    rfl
  · obtain ⟨F, m, b, M, R, S, ss, rfl, sF, hm, hM, hb, l8, q⟩ := h
    refine ⟨_, (pss_cons (ps_set (i := 2) sc_most_setups.nd rfl (by first | exact Or.inl rfl | exact Or.inr rfl) (pe_op op_mul (pe_callB (id := "len") call_lenQ (by rfl) t.n_len (by decide +kernel) (pa_cons (pv 0) pa_nil)) (pe_callB (id := "len") call_lenQ (by rfl) t.n_len (by decide +kernel) (pa_cons (pv 1) pa_nil))))
      (pss_cons (ps_for PassesOwn.never rfl (pi_tup (pv 1)) (pg_name (i := 3) sc_most_setups.nd rfl (by first | exact Or.inl rfl | exact Or.inr rfl)) (pss_one (ps_set (i := 2) sc_most_setups.nd rfl (by first | exact Or.inl rfl | exact Or.inr rfl) (pe_op op_mul (pv 2) (pe_callB (id := "len") call_lenQ (by rfl) t.n_len (by decide +kernel) (pa_cons (pe_ix ix_list (pv 0) pe_int (fun _ _ => rfl)) pa_nil))))))
      (pss_one (ps_ret (pv 2))))), ?_⟩
    obtain ⟨am, rs, rfl, ha, hrs⟩ := hm
    have lrs : rs.length = R := hrs.1.trans hM.len
    have r1 := hM.r1; have r4 := hM.r4; have s2 := hM.s2; have s4 := hM.s4
    have hx0 : rs[0]? = some rs[0] := List.getElem?_eq_getElem (by omega)
    obtain ⟨row0, hM0, a0, es0, e0, ha0, hes0⟩ := hrs.get' hx0
    have ls0 : es0.length = S := hes0.1.trans (hM.row _ (List.mem_of_getElem? hM0))
    have lb : (ss.map V.int).length = ss.length := List.length_map ..
    refine ⟨_, rfl, am, rs, rfl, .inl (SqL.of (sF _ _ ha)), _, rfl, b, _, rfl, .inr (SqT.of (sF _ _ hb)), _, _, rfl, rfl, .inl ⟨by omega, by omega⟩, ?_⟩
    refine ⟨_, rfl, b, rfl, ⟨_, SqT.of (sF _ _ hb)⟩, for_tup (K := K) (a := b) (xs := ss.map V.int) (fun i σ G => ∃ v3 : Option V, σ = [some (.ref am), some (.ref b), some (.int (R * ss.length * S ^ i : Nat)), v3] ∧ G = H)
      ⟨none, by rw [lrs, lb, Nat.pow_zero, Nat.mul_one, Int.natCast_mul]; rfl, rfl⟩ (fun i σ G _ ⟨_, _, e⟩ => by rw [e]; exact SqT.of (sF _ _ hb)) ?_ ?_⟩
    · rintro i x σ G hi ⟨v3, rfl, rfl⟩
      have il : i < ss.length := by have := (List.getElem?_eq_some_iff.mp hi).1; omega
      have bd := most_le r4 s4 l8 (Nat.le_of_lt il)
      refine ⟨_, rfl, _, rfl, am, rs, _, _, rfl, rfl, SqL.of (sF _ _ ha), atI_nat (j := 0) hx0, ?_⟩
      rw [e0]
      refine ⟨a0, es0, rfl, .inl (SqL.of (sF _ _ ha0)), _, _, rfl, rfl, .inl ⟨by omega, by omega⟩, some x, ?_, rfl⟩
      rw [ls0, Nat.pow_succ, ← Nat.mul_assoc]
      rfl
    · rintro σ G ⟨v3, rfl, rfl⟩
      rw [lb]
      exact ⟨_, rfl, q⟩
def sp_through : Sp := fun vs H Q _ => ∃ (F : Hp) (m : V) (b : Addr) (M : Mach) (R S : Nat) (s : List Int) (row side : Int), vs = [m, .ref b, .int row, .int side] ∧ Same F H ∧ Is F m M ∧ MOk M R S ∧ F b = some (.tup (s.map V.int)) ∧ SOk S s ∧ 1 ≤ s.length ∧ s.length ≤ 8 ∧ 0 ≤ row ∧ row < R ∧
  ∀ (F' H' : Hp) (v : V), Gr mu0 F H F' H' → Is F' v (thr M R S s row (decide (side = 1))) → Q v H'
theorem ok_through (t : Tx K mg) : FnOk P w K mg base CX0 4 t.a_through t.fd_through ["machine", "block", "row", "side"] sp_through := by
  refine t.F_through.ok sc_through (fun vs H Q E h => ?_) (fun cdv A outer s H vs Q E hr h => ?_)
  · obtain ⟨F, m, b, M, R, S, ss, row, side, rfl, _⟩ := h
    rfl
  · obtain ⟨F, m, b, M, R, S, ss, row, side, rfl, sF, hm, hM, hb, hs, l1, l8, r0, r1, q⟩ := h
    refine ⟨_, (pss_cons (ps_expr (pe_call (ok_must_machine t) (hr.mono (by decide)) (by rfl) t.m_must_machine t.F_must_machine.kp t.b_must_machine .nil pass0 (pa_cons (pv 0) pa_nil)))
      (pss_cons (ps_set (i := 4) sc_through.nd rfl (by first | exact Or.inl rfl | exact Or.inr rfl) (pe_callTy (T := "list") call_listQ (by rfl) t.n_list (by decide +kernel) (pa_cons (pv 1) pa_nil)))
      (pss_cons (ps_set (i := 5) sc_through.nd rfl (by first | exact Or.inl rfl | exact Or.inr rfl) pe_int)
      (pss_cons (ps_if (pt_cmpR op_eq (pv 3) pe_int (nomark _)) (pss_one (ps_set (i := 5) sc_through.nd rfl (by first | exact Or.inl rfl | exact Or.inr rfl) (pe_op op_sub (pe_callB (id := "len") call_lenQ (by rfl) t.n_len (by decide +kernel) (pa_cons (pv 4) pa_nil)) pe_int))) pss_nil)
      (pss_cons (ps_for PassesOwn.never rfl (pi_range1 (by rfl) t.n_range (pa_cons (pe_op op_add (pe_call (ok_most_setups t) (hr.mono (by decide)) (by rfl) t.m_most_setups t.F_most_setups.kp t.b_most_setups .nil pass0 (pa_cons (pv 0) (pa_cons (pv 1) pa_nil))) pe_int) pa_nil)) (pg_name (i := 6) sc_through.nd rfl (by first | exact Or.inl rfl | exact Or.inr rfl)) (pss_cons (ps_set (i := 7) sc_through.nd rfl (by first | exact Or.inl rfl | exact Or.inr rfl) (pe_ix ix_list (pe_ix ix_list (pv 0) (pv 2) (fun _ _ => rfl)) (pe_ix ix_list (pv 4) (pv 5) (fun _ _ => rfl)) (fun _ _ => rfl)))
      (pss_cons (ps_if (pt_cmpR (op_eqD hr.units) (pv 7) (pe_tup pa_nil) (nomark _)) (pss_one (ps_ret (pe_tup (pa_cons pe_str (pa_cons (pe_callTy (T := "tuple") call_tupQ (by rfl) t.n_tuple (by decide +kernel) (pa_cons (pv 4) pa_nil)) (pa_cons (pv 2) (pa_cons (pv 5) (pa_cons (pv 6) pa_nil)))))))) pss_nil)
      (pss_cons (ps_asg (pe_ix ix_tup (pv 7) pe_int (fun _ _ => rfl)) (pg_sub (pv 4) (pv 5) set_list))
      (pss_cons (ps_aug (i := 5) sc_through.nd rfl (by first | exact Or.inl rfl | exact Or.inr rfl) (pe_ix ix_tup (pv 7) pe_int (fun _ _ => rfl)) ip_add)
      (pss_cons (ps_set (i := 2) sc_through.nd rfl (by first | exact Or.inl rfl | exact Or.inr rfl) (pe_ix ix_tup (pv 7) pe_int (fun _ _ => rfl)))
      (pss_one (ps_if (pt_not (pt_chain op_le op_lt pe_int (pv 5) (pe_callB (id := "len") call_lenQ (by rfl) t.n_len (by decide +kernel) (pa_cons (pv 4) pa_nil)))) (pss_one (ps_ret (pe_tup (pa_cons pe_str (pa_cons (pe_callTy (T := "tuple") call_tupQ (by rfl) t.n_tuple (by decide +kernel) (pa_cons (pv 4) pa_nil)) (pa_cons (pv 2) (pa_cons (pe_ix ix_tup (pv 7) pe_int (fun _ _ => rfl)) (pa_cons (pe_op op_add (pv 6) pe_int) pa_nil)))))))) pss_nil))))))))
      (pss_one (ps_ret (pe_tup (pa_cons pe_str pa_nil))))))))), ?_⟩
    refine ⟨_, rfl, F, m, M, R, S, rfl, sF, hm, hM, fun H1 g1 => ?_⟩
    refine ⟨_, rfl, b, _, rfl, .inr (SqT.of (g1.fh _ _ hb)), fun l nl => ?_⟩
    have g2 := g1.own (o := .lst (ss.map V.int)) nl
    have w2 : Ow H F (upd H1 l (.lst (ss.map V.int))) l (.lst (ss.map V.int)) := Ow.mk1 g1 nl
    generalize upd H1 l (.lst (ss.map V.int)) = H2 at g2 w2 ⊢
    refine ⟨_, rfl, rfl, _, rfl, ?_⟩
    rw [int_eq2]
    have lb : (ss.map V.int).length = ss.length := List.length_map ..
    have mb := most_le (S := S) hM.r4 hM.s4 l8 (Nat.le_refl _)
    refine ite2 (fun c => ?A) (fun c => ?B)
    case' A =>
      refine ⟨_, rfl, l, _, rfl, .inl (SqL.of w2.h), _, _, rfl, rfl, ?_⟩
      have ep : (st0 ss row (decide (side = 1))).p = ((ss.map V.int).length : Int) - 1 := by rw [lb]; unfold st0; rw [if_pos c]
    case' B =>
      have ep : (st0 ss row (decide (side = 1))).p = 0 := by unfold st0; rw [if_neg c]
    all_goals
      refine ⟨_, rfl, _, rfl, F, m, b, M, R, S, ss, rfl, g2.fh, hm, hM, hb, l8, _, _, rfl, rfl, ((mostB R S ss.length : Nat) : Int) + 1, rfl, by omega, by unfold mostB; omega, ?_⟩
      refine for_range (lo := 0) (n := (((mostB R S ss.length : Nat) : Int) + 1).toNat) (fun i σ G => ∃ (c : Bs) (v6 v7 : Option V), σ = [some m, some (.ref b), some (.int c.r), some (.int side), some (.ref l), some (.int c.p), v6, v7] ∧ Gr mu0 F H F G ∧ Ow H F G l (.lst (c.s.map V.int)) ∧ BOk R S ss.length c ∧ thr M R S ss row (decide (side = 1)) = bgo M (mostB R S ss.length + 1 - i) c i)
        ⟨st0 ss row (decide (side = 1)), none, none, by rw [ep]; rfl, g2, w2, st0_ok hs l1 r0 r1, rfl⟩ ?_ ?_
      · rintro i σ G hi ⟨c, v6, v7, rfl, g, w, ok, et⟩
        have en : mostB R S ss.length + 1 - i = (mostB R S ss.length - i) + 1 := by omega
        rw [en] at et
        have lc := ok.len
        have c0 := ok.p0
        have c1 := ok.p1
        obtain ⟨rw', hrw, he, eo⟩ := ent_of hM ok.r0 ok.r1 ok.sgn.2.1 ok.sgn.2.2
        obtain ⟨am, rs, rfl, ha, hrs⟩ := id hm
        obtain ⟨y, hy, bm, es', rfl, hbm, hes⟩ := hrs.get hrw
        obtain ⟨z, hz, hze⟩ := hes.get he
        have hsg : (c.s.map V.int)[c.p.toNat]? = some (.int (sgn c)) := by rw [List.getElem?_map, ok.sgn.1]; rfl
        refine ⟨_, rfl, _, rfl, am, rs, _, _, rfl, rfl, SqL.of (g.fh _ _ ha), at_of (Int.toNat_of_nonneg ok.r0).symm hy, ?_⟩
        refine ⟨_, rfl, _, rfl, l, _, _, _, rfl, rfl, SqL.of w.h, at_of (Int.toNat_of_nonneg c0).symm hsg, bm, es', _, _, rfl, rfl, SqL.of (g.fh _ _ hbm), at_of (Int.toNat_of_nonneg ok.sgn.2.1).symm hz, ?_⟩
        refine ⟨_, rfl, nil_le, fun e1 ne1 => ?_⟩
        have gg := g.own (o := .tup []) ne1
        have ww := w.own (u := .tup []) ne1
        refine eq_dat (a := entAt M c.r (sgn c)) (b := Ent.emp) (hze.up gg.fh) ⟨e1, rfl, upd_same⟩ ⟨_, rfl, ?_⟩
        generalize upd G e1 (.tup []) = G1 at gg ww ⊢
        -- what is told when it leaves
        have fin : ∀ (s' : List Int) (tg : TStr) (r x n : Int) (G2 : Hp), Gr mu0 F H F G2 → thr M R S ss row (decide (side = 1)) = .fin tg s' r x n → ∀ p, G2 p = none → ∀ u, upd G2 p (.tup (s'.map V.int)) u = none → Q (.ref u) (upd (upd G2 p (.tup (s'.map V.int))) u (.tup [.str tg.x, .ref p, .int r, .int x, .int n])) := by
          intro s' tg r x n G2 k e p np u nu
          have k1 := k.new (o := .tup (s'.map V.int)) np
          have n2 : (upd F p (.tup (s'.map V.int))) u = none := k1.fh.free nu
          refine q _ _ (.ref u) (k1.new (o := .tup [.str tg.x, .ref p, .int r, .int x, .int n]) nu) ?_
          rw [e]
          exact ⟨u, p, rfl, upd_same, ln n2 upd_same⟩
        cases ee : entAt M c.r (sgn c) with
        | emp =>
          refine ifT (decide_eq_true rfl) ⟨_, rfl, l, _, rfl, .inl ⟨SqL.of ww.h, fun p np => ⟨_, rfl, _, rfl, _, rfl, five_le, fun u nu => ?_⟩⟩⟩
          refine fin c.s tEnd c.r c.p _ G1 gg ?_ p np u nu
          rw [et, bgo_lv (bn_emp ee)]
          congr 1; omega
        | go pu wa to =>
          rw [ee] at hze eo
          obtain ⟨o1, o2, o3⟩ := eo.ok _ _ _ rfl
          obtain ⟨ae, rfl, hae⟩ := hze
          have hae1 := gg.fh _ _ hae
          refine ifF (decide_eq_false (by intro z; cases z)) ?_
          refine ⟨_, rfl, ae, _, _, _, rfl, rfl, SqT.of hae1, atI_nat (j := 0) rfl, _, rfl, _, rfl, l, _, _, c.p.toNat, rfl, rfl, ww.h, ixN_of c0 (by rw [List.length_map]; omega), ?_⟩
          have g3 := gg.set (o := .lst ((c.s.map V.int).set c.p.toNat (.int pu))) ww.f (.inl ww.n)
          have w3 := ww.set (u := .lst ((c.s.map V.int).set c.p.toNat (.int pu)))
          rw [← List.map_set] at g3 w3 ⊢
          generalize upd G1 l (.lst ((c.s.set c.p.toNat pu).map V.int)) = G3 at g3 w3 ⊢
          have hae3 := g3.fh _ _ hae
          refine ⟨_, rfl, _, rfl, ae, _, _, _, rfl, rfl, SqT.of hae3, atI_nat (j := 1) rfl, _, _, rfl, rfl, ?_⟩
          refine ⟨_, rfl, ae, _, _, _, rfl, rfl, SqT.of hae3, atI_nat (j := 2) rfl, ?_⟩
          have ll : ((c.s.set c.p.toNat pu).map V.int).length = c.s.length := by rw [List.length_map, List.length_set]
          refine ⟨_, rfl, _, _, rfl, rfl, _, rfl, ?_⟩
          by_cases z : 0 ≤ c.p + wa ∧ c.p + wa < (c.s.length : Int)
          · refine ifT (decide_eq_true z.1) ⟨_, rfl, l, _, rfl, .inl (SqL.of w3.h), _, _, rfl, rfl, _, rfl, ?_⟩
            refine ifF (by rw [ll, decide_eq_true z.2]; rfl) ?_
            refine ⟨⟨c.s.set c.p.toNat pu, c.p + wa, to⟩, _, _, rfl, g3, w3, bn_ok ok hM (bn_go ee z), ?_⟩
            rw [et, bgo_nxt (bn_go ee z), show mostB R S ss.length + 1 - (i + 1) = mostB R S ss.length - i by omega]
            congr 1
          · by_cases k : 0 ≤ c.p + wa
            · refine ifT (decide_eq_true k) ⟨_, rfl, l, _, rfl, .inl (SqL.of w3.h), _, _, rfl, rfl, _, rfl, ?_⟩
              refine ifT (by rw [ll, decide_eq_false (fun y => z ⟨k, y⟩)]; rfl) ?_
              refine ⟨_, rfl, l, _, rfl, .inl ⟨SqL.of w3.h, fun p np => ⟨_, rfl, _, rfl, ae, _, _, _, rfl, rfl, SqT.of (ln np hae3), atI_nat (j := 1) rfl, _, rfl, _, _, rfl, rfl, five_le, fun u nu => ?_⟩⟩⟩
              refine fin (c.s.set c.p.toNat pu) tOut to wa _ G3 g3 ?_ p np u nu
              rw [et, bgo_lv (bn_out ee z)]
              congr 1; omega
            · refine ifF (decide_eq_false k) ⟨_, rfl, ?_⟩
              refine ifT rfl ?_
              refine ⟨_, rfl, l, _, rfl, .inl ⟨SqL.of w3.h, fun p np => ⟨_, rfl, _, rfl, ae, _, _, _, rfl, rfl, SqT.of (ln np hae3), atI_nat (j := 1) rfl, _, rfl, _, _, rfl, rfl, five_le, fun u nu => ?_⟩⟩⟩
              refine fin (c.s.set c.p.toNat pu) tOut to wa _ G3 g3 ?_ p np u nu
              rw [et, bgo_lv (bn_out ee z)]
              congr 1; omega
      · rintro σ G ⟨c, v6, v7, rfl, g, w, ok, et⟩
        refine ⟨one_le, fun u nu => ?_⟩
        refine q _ _ (.ref u) (g.new (o := .tup [.str tStay.x]) nu) ?_
        rw [et, show mostB R S ss.length + 1 - (((mostB R S ss.length : Nat) : Int) + 1).toNat = 0 by omega]
        exact ⟨u, rfl, upd_same⟩
/-! ### the law's own way through a block -/
abbrev Mk3 := T3 Int Int (Tup Int)
def bsOf (x : Mk3) : Bs := ⟨x.c.l, x.b, x.a⟩
def mkOf (c : Bs) : Mk3 := ⟨c.r, c.p, ⟨c.s⟩⟩
theorem is_mk {F : Hp} {p y : Addr} {c : Bs} (h : F y = some (.tup [.int c.r, .int c.p, .ref p])) (k : F p = some (.tup (c.s.map V.int))) : Is F (.ref y) (mkOf c) :=
  ⟨y, _, _, _, rfl, h, rfl, rfl, p, _, rfl, k, all_ints _⟩
def sp_L_through (P : Program) (w : World) : Sp := fun vs H Q _ => ∃ (F : Hp) (m : V) (b : Addr) (M : Mach) (R S : Nat) (s : List Int) (row side : Int), vs = [m, .ref b, .int row, .int side] ∧ Same F H ∧ Is F m M ∧ MOk M R S ∧ F b = some (.tup (s.map V.int)) ∧ SOk S s ∧ 1 ≤ s.length ∧ s.length ≤ 4 ∧ 0 ≤ row ∧ row < R ∧
  ∀ (F' H' : Hp) (v : V), Gr mu0 F H F' H' → Is F' v (thr M R S s row (decide (side = 1))) → Q v H'
theorem ok_L_through (t : Tx K mg) : FnOk P w K mg base CX0 1 t.a_L_through t.fd_L_through ["_law_machine_here", "_law_block_here", "_law_row", "_law_side"] (sp_L_through P w) := by
  refine t.F_L_through.ok sc_L_through (fun vs H Q E h => ?_) (fun cdv A outer s H vs Q E hr h => ?_)
  · obtain ⟨F, m, b, M, R, S, ss, row, side, rfl, _⟩ := h
    rfl
  · obtain ⟨F, m, b, M, R, S, ss, row, side, rfl, sF, hm, hM, hb, hs, l1, l4, r0, r1, q⟩ := h
    refine ⟨_, (pss_cons (ps_set (i := 4) sc_L_through.nd rfl (by first | exact Or.inl rfl | exact Or.inr rfl) (pe_callTy (T := "list") call_listQ (by rfl) t.n_list (by decide +kernel) (pa_cons (pv 1) pa_nil)))
      (pss_cons (ps_set (i := 5) sc_L_through.nd rfl (by first | exact Or.inl rfl | exact Or.inr rfl) (pe_ix ix_list (pe_lst (pa_cons pe_int (pa_cons (pe_op op_sub (pe_callB (id := "len") call_lenQ (by rfl) t.n_len (by decide +kernel) (pa_cons (pv 4) pa_nil)) pe_int) pa_nil))) (pe_callTy (T := "int") call_int1 (by rfl) t.n_int (by decide +kernel) (pa_cons (pe_cmpR op_eq (pv 3) pe_int (nomark _)) pa_nil)) (fun _ _ => rfl)))
      (pss_cons (ps_set (i := 6) sc_L_through.nd rfl (by first | exact Or.inl rfl | exact Or.inr rfl) pe_nnew)
      (pss_cons (ps_for PassesOwn.never rfl (pi_range1 (by rfl) t.n_range (pa_cons pe_int pa_nil)) (pg_name (i := 7) sc_L_through.nd rfl (by first | exact Or.inl rfl | exact Or.inr rfl)) (pss_cons (ps_if (pt_cmp (pc_nin (units9 hr) (pe_tup (pa_cons (pv 2) (pa_cons (pv 5) (pa_cons (pe_callTy (T := "tuple") call_tupQ (by rfl) t.n_tuple (by decide +kernel) (pa_cons (pv 4) pa_nil)) pa_nil)))) (pv 6))) (pss_one (ps_ret (pe_tup (pa_cons pe_str pa_nil)))) pss_nil)
      (pss_cons (ps_nput (units9 hr) (pv 6) (pe_tup (pa_cons (pv 2) (pa_cons (pv 5) (pa_cons (pe_callTy (T := "tuple") call_tupQ (by rfl) t.n_tuple (by decide +kernel) (pa_cons (pv 4) pa_nil)) pa_nil)))) pe_bl rfl)
      (pss_cons (ps_set (i := 8) sc_L_through.nd rfl (by first | exact Or.inl rfl | exact Or.inr rfl) (pe_ix ix_list (pe_ix ix_list (pv 0) (pv 2) (fun _ _ => rfl)) (pe_ix ix_list (pv 4) (pv 5) (fun _ _ => rfl)) (fun _ _ => rfl)))
      (pss_cons (ps_if (pt_cmpR (op_eqD hr.units) (pv 8) (pe_tup pa_nil) (nomark _)) (pss_one (ps_ret (pe_tup (pa_cons pe_str (pa_cons (pe_callTy (T := "tuple") call_tupQ (by rfl) t.n_tuple (by decide +kernel) (pa_cons (pv 4) pa_nil)) (pa_cons (pv 2) (pa_cons (pv 5) (pa_cons (pv 7) pa_nil)))))))) pss_nil)
      (pss_cons (ps_asg (pe_ix ix_tup (pv 8) pe_int (fun _ _ => rfl)) (pg_sub (pv 4) (pv 5) set_list))
      (pss_cons (ps_set (i := 5) sc_L_through.nd rfl (by first | exact Or.inl rfl | exact Or.inr rfl) (pe_op op_add (pv 5) (pe_ix ix_tup (pv 8) pe_int (fun _ _ => rfl))))
      (pss_cons (ps_set (i := 2) sc_L_through.nd rfl (by first | exact Or.inl rfl | exact Or.inr rfl) (pe_ix ix_tup (pv 8) pe_int (fun _ _ => rfl)))
      (pss_one (ps_if (PW.pt (pw_or (pt_cmpR op_lt (pv 5) pe_int (nomark _)) (pw_or1 (pt_cmpR op_ge (pv 5) (pe_callB (id := "len") call_lenQ (by rfl) t.n_len (by decide +kernel) (pa_cons (pv 4) pa_nil)) (nomark _))))) (pss_one (ps_ret (pe_tup (pa_cons pe_str (pa_cons (pe_callTy (T := "tuple") call_tupQ (by rfl) t.n_tuple (by decide +kernel) (pa_cons (pv 4) pa_nil)) (pa_cons (pv 2) (pa_cons (pe_ix ix_tup (pv 8) pe_int (fun _ _ => rfl)) (pa_cons (pe_op op_add (pv 7) pe_int) pa_nil)))))))) pss_nil))))))))))
      (pss_one (ps_ret (pe_tup (pa_cons pe_str pa_nil)))))))), ?_⟩
    have g0 : Gr mu0 F H F H := Gr.refl sF
    refine ⟨_, rfl, b, _, rfl, .inr (SqT.of (sF _ _ hb)), fun l nl => ?_⟩
    have g2 := g0.own (o := .lst (ss.map V.int)) nl
    have w2 : Ow H F (upd H l (.lst (ss.map V.int))) l (.lst (ss.map V.int)) := Ow.mk1 g0 nl
    generalize upd H l (.lst (ss.map V.int)) = H2 at g2 w2 ⊢
    refine ⟨_, rfl, l, _, rfl, .inl (SqL.of w2.h), _, _, rfl, rfl, two_le, fun l2 nl2 => ⟨_, rfl, rfl, .inr ⟨_, rfl, l2, _, _, _, rfl, rfl, SqL.of upd_same, at2, ?_⟩⟩⟩
    have lb : (ss.map V.int).length = ss.length := List.length_map ..
    have mb : R * ss.length * S ^ ss.length ≤ 4096 := by
      have a : S ^ ss.length ≤ 4 ^ 4 := Nat.le_trans (Nat.pow_le_pow_left hM.s4 _) (Nat.pow_le_pow_right (by decide) (by omega))
      have b : R * ss.length ≤ 4 * 4 := Nat.mul_le_mul hM.r4 l4
      exact Nat.le_trans (Nat.mul_le_mul b a) (by decide)
    have ep : (if decide (V.int side = V.int 1) = true then V.int (((ss.map V.int).length : Int) - 1) else V.int 0) = V.int (st0 ss row (decide (side = 1))).p := by
      rw [int_eq2, lb]
      unfold st0
      split <;> rfl
    rw [ep]
    have g3 := g2.own (o := .lst [.int 0, .int (((ss.map V.int).length : Int) - 1)]) nl2
    have w3 := w2.own (u := .lst [.int 0, .int (((ss.map V.int).length : Int) - 1)]) nl2
    generalize upd H2 l2 (.lst [.int 0, .int (((ss.map V.int).length : Int) - 1)]) = H3 at g3 w3 ⊢
    refine fun D nD => ?_
    have g4 := g3.own (o := DictD P w D ([] : DL Mk3)) nD
    have w4 := w3.own (u := DictD P w D ([] : DL Mk3)) nD
    have d4 : Ow H F (upd H3 D (DictD P w D ([] : DL Mk3))) D (DictD P w D ([] : DL Mk3)) := Ow.mk1 g3 nD
    have lD : l ≠ D := w3.ne nD
    have ok0 := st0_ok (R := R) (row := row) (far := decide (side = 1)) hs l1 r0 r1
    refine ⟨4100, rfl, by decide, by decide, for_range (lo := 0) (n := 4100) (fun i σ G => ∃ (F1 : Hp) (c : Bs) (L : DL Mk3) (v7 v8 : Option V), σ = [some m, some (.ref b), some (.int c.r), some (.int side), some (.ref l), some (.int c.p), some (.ref D), v7, v8] ∧ Gr mu0 F H F1 G ∧ Ow H F1 G l (.lst (c.s.map V.int)) ∧ Ow H F1 G D (DictD P w D L) ∧ KeysD F1 L ∧ L.length ≤ i ∧ BOk R S ss.length c ∧
        tj M i (st0 ss row (decide (side = 1))) = some c ∧ ∀ x, hasD L x = true → ∃ j, j < i ∧ tj M j (st0 ss row (decide (side = 1))) = some (bsOf x))
      ⟨F, st0 ss row (decide (side = 1)), [], none, none, rfl, g4, w4, d4, fun t z => (nomatch z), Nat.le_refl 0, ok0, rfl, fun x z => (nomatch z)⟩ ?_ ?_⟩
    · rintro i σ G hi ⟨F1, c, L, v7, v8, rfl, g, wl, wd, kd, ll, ok, tk, hsn⟩
      have lc := ok.len
      have c0 := ok.p0
      have c1 := ok.p1
      have fin : ∀ (F2 G2 : Hp) (s' : List Int) (tg : TStr) (r x n : Int), Gr mu0 F H F2 G2 → thr M R S ss row (decide (side = 1)) = .fin tg s' r x n → ∀ p, G2 p = none → ∀ u, upd G2 p (.tup (s'.map V.int)) u = none → Q (.ref u) (upd (upd G2 p (.tup (s'.map V.int))) u (.tup [.str tg.x, .ref p, .int r, .int x, .int n])) := by
        intro F2 G2 s' tg r x n k e p np u nu
        have k1 := k.new (o := .tup (s'.map V.int)) np
        have n2 : (upd F2 p (.tup (s'.map V.int))) u = none := k1.fh.free nu
        refine q _ _ (.ref u) (k1.new (o := .tup [.str tg.x, .ref p, .int r, .int x, .int n]) nu) ?_
        rw [e]
        exact ⟨u, p, rfl, upd_same, ln n2 upd_same⟩
      -- was it there
      refine ⟨_, rfl, _, rfl, _, rfl, l, _, rfl, .inl ⟨SqL.of wl.h, fun p np => ⟨three_le, fun y ny => ⟨_, rfl, D, valN (neL L) (keyD (Dat.py (mkOf c))), rfl, ?_⟩⟩⟩⟩
      have ga := (g.new (o := .tup (c.s.map V.int)) np).new (o := .tup [.int c.r, .int c.p, .ref p]) ny
      have wa := (wl.new (u := .tup (c.s.map V.int)) np).new (u := .tup [.int c.r, .int c.p, .ref p]) ny
      have da := (wd.new (u := .tup (c.s.map V.int)) np).new (u := .tup [.int c.r, .int c.p, .ref p]) ny
      have s1 : Same F1 (upd F1 p (.tup (c.s.map V.int))) := sm_new (Same.refl F1) (g.fh.free np)
      have n2 : (upd F1 p (.tup (c.s.map V.int))) y = none := (g.new (o := .tup (c.s.map V.int)) np).fh.free ny
      have ka := (kd.up s1).up (sm_new (o := .tup [.int c.r, .int c.p, .ref p]) (Same.refl _) n2)
      have ia : Is (upd (upd F1 p (.tup (c.s.map V.int))) y (.tup [.int c.r, .int c.p, .ref p])) (.ref y) (mkOf c) := is_mk upd_same (ln n2 upd_same)
      refine ⟨NGet.d (x := mkOf c) da.h (ka.up ga.fh) (ia.up ga.fh), _, rfl, ?_⟩
      rw [valN_neL]
      generalize upd (upd F1 p (.tup (c.s.map V.int))) y (.tup [.int c.r, .int c.p, .ref p]) = Fa at ga wa da ka ia
      generalize upd (upd G p (.tup (c.s.map V.int))) y (.tup [.int c.r, .int c.p, .ref p]) = Ga at ga wa da ⊢
      by_cases hin : hasD L (mkOf c) = true
      · refine ifT hin ⟨one_le, fun u nu => ?_⟩
        obtain ⟨j, ji, tj'⟩ := hsn _ hin
        refine q _ _ (.ref u) (ga.new (o := .tup [.str tStay.x]) nu) ?_
        rw [thr_nv (NV.two ji tj' tk)]
        exact ⟨u, rfl, upd_same⟩
      · refine ifF (Bool.eq_false_iff.mpr hin) ?_
        -- it is kept
        refine ⟨_, rfl, _, rfl, _, rfl, _, rfl, l, _, rfl, .inl ⟨SqL.of wa.h, fun p' np' => ⟨three_le, fun y' ny' => ?_⟩⟩⟩
        have gb := (ga.new (o := .tup (c.s.map V.int)) np').new (o := .tup [.int c.r, .int c.p, .ref p']) ny'
        have wb := (wa.new (u := .tup (c.s.map V.int)) np').new (u := .tup [.int c.r, .int c.p, .ref p']) ny'
        have db := (da.new (u := .tup (c.s.map V.int)) np').new (u := .tup [.int c.r, .int c.p, .ref p']) ny'
        have s1' : Same Fa (upd Fa p' (.tup (c.s.map V.int))) := sm_new (Same.refl Fa) (ga.fh.free np')
        have n2' : (upd Fa p' (.tup (c.s.map V.int))) y' = none := (ga.new (o := .tup (c.s.map V.int)) np').fh.free ny'
        have kb := (ka.up s1').up (sm_new (o := .tup [.int c.r, .int c.p, .ref p']) (Same.refl _) n2')
        have ib : Is (upd (upd Fa p' (.tup (c.s.map V.int))) y' (.tup [.int c.r, .int c.p, .ref p'])) (.ref y') (mkOf c) := is_mk upd_same (ln n2' upd_same)
        refine ⟨D, _, rfl, NPut.d (x := mkOf c) db.h (kb.up gb.fh) (ib.up gb.fh) (lt_size (by omega)), ?_⟩
        generalize upd (upd Fa p' (.tup (c.s.map V.int))) y' (.tup [.int c.r, .int c.p, .ref p']) = Fb at gb wb db kb ib
        generalize upd (upd Ga p' (.tup (c.s.map V.int))) y' (.tup [.int c.r, .int c.p, .ref p']) = Gb at gb wb db ⊢
        have gc := gb.set (o := DictD P w D (putD L y' (mkOf c) (.bl true))) db.f (.inl db.n)
        have wc := wb.other (u := DictD P w D (putD L y' (mkOf c) (.bl true))) lD
        have dc := db.set (u := DictD P w D (putD L y' (mkOf c) (.bl true)))
        have kc : KeysD Fb (putD L y' (mkOf c) (.bl true)) := kb.put ib
        have lc' := putD_len L y' (mkOf c) (.bl true)
        have hc : ∀ x, hasD (putD L y' (mkOf c) (.bl true)) x = true → ∃ j, j < i + 1 ∧ tj M j (st0 ss row (decide (side = 1))) = some (bsOf x) := fun x z => by
          rw [hasD_put, Bool.or_eq_true] at z
          rcases z with z | z
          · have z := of_decide_eq_true z
            exact ⟨i, by omega, by rw [← z]; exact tk⟩
          · obtain ⟨j, h1, h2⟩ := hsn x z
            exact ⟨j, by omega, h2⟩
        change _ at gc
        generalize putD L y' (mkOf c) (.bl true) = L2 at gc wc dc kc lc' hc ⊢
        generalize upd Gb D (DictD P w D L2) = Gc at gc wc dc ⊢
        -- the entry
        obtain ⟨rw', hrw, he, eo⟩ := ent_of hM ok.r0 ok.r1 ok.sgn.2.1 ok.sgn.2.2
        have hmc := hm.up gc.ff
        obtain ⟨am, rs, rfl, ha, hrs⟩ := id hmc
        obtain ⟨yy, hy, bm, es', rfl, hbm, hes⟩ := hrs.get hrw
        obtain ⟨z, hz, hze⟩ := hes.get he
        have hsg : (c.s.map V.int)[c.p.toNat]? = some (.int (sgn c)) := by rw [List.getElem?_map, ok.sgn.1]; rfl
        refine ⟨_, rfl, _, rfl, am, rs, _, _, rfl, rfl, SqL.of (gc.fh _ _ ha), at_of (Int.toNat_of_nonneg ok.r0).symm hy, ?_⟩
        refine ⟨_, rfl, _, rfl, l, _, _, _, rfl, rfl, SqL.of wc.h, at_of (Int.toNat_of_nonneg c0).symm hsg, bm, es', _, _, rfl, rfl, SqL.of (gc.fh _ _ hbm), at_of (Int.toNat_of_nonneg ok.sgn.2.1).symm hz, ?_⟩
        refine ⟨_, rfl, nil_le, fun e1 ne1 => ?_⟩
        have gg := gc.own (o := .tup []) ne1
        have ww := wc.own (u := .tup []) ne1
        have dd := dc.own (u := .tup []) ne1
        refine eq_dat (a := entAt M c.r (sgn c)) (b := Ent.emp) (hze.up gg.fh) ⟨e1, rfl, upd_same⟩ ⟨_, rfl, ?_⟩
        generalize upd Gc e1 (.tup []) = G1 at gg ww dd ⊢
        cases ee : entAt M c.r (sgn c) with
        | emp =>
          refine ifT (decide_eq_true rfl) ⟨_, rfl, l, _, rfl, .inl ⟨SqL.of ww.h, fun p np => ⟨_, rfl, _, rfl, _, rfl, five_le, fun u nu => ?_⟩⟩⟩
          refine fin Fb G1 c.s tEnd c.r c.p _ gg ?_ p np u nu
          rw [thr_of hM hs l1 r0 r1 tk (bn_emp ee)]
          congr 1; omega
        | go pu wa' to =>
          rw [ee] at hze eo
          obtain ⟨o1, o2, o3⟩ := eo.ok _ _ _ rfl
          obtain ⟨ae, rfl, hae⟩ := hze
          have hae1 := gg.fh _ _ hae
          refine ifF (decide_eq_false (by intro z; cases z)) ?_
          refine ⟨_, rfl, ae, _, _, _, rfl, rfl, SqT.of hae1, atI_nat (j := 0) rfl, _, rfl, _, rfl, l, _, _, c.p.toNat, rfl, rfl, ww.h, ixN_of c0 (by rw [List.length_map]; omega), ?_⟩
          have g5 := gg.set (o := .lst ((c.s.map V.int).set c.p.toNat (.int pu))) ww.f (.inl ww.n)
          have w5 := ww.set (u := .lst ((c.s.map V.int).set c.p.toNat (.int pu)))
          have d5 := dd.other (u := .lst ((c.s.map V.int).set c.p.toNat (.int pu))) lD.symm
          rw [← List.map_set] at g5 w5 d5 ⊢
          generalize upd G1 l (.lst ((c.s.set c.p.toNat pu).map V.int)) = G5 at g5 w5 d5 ⊢
          have hae5 := g5.fh _ _ hae
          refine ⟨_, rfl, _, rfl, ae, _, _, _, rfl, rfl, SqT.of hae5, atI_nat (j := 1) rfl, _, _, rfl, rfl, ?_⟩
          refine ⟨_, rfl, ae, _, _, _, rfl, rfl, SqT.of hae5, atI_nat (j := 2) rfl, ?_⟩
          have ll5 : ((c.s.set c.p.toNat pu).map V.int).length = c.s.length := by rw [List.length_map, List.length_set]
          refine ⟨_, rfl, _, _, rfl, rfl, _, rfl, ?_⟩
          by_cases z : 0 ≤ c.p + wa' ∧ c.p + wa' < (c.s.length : Int)
          · refine ifF (decide_eq_false (by omega)) ⟨_, rfl, _, rfl, l, _, rfl, .inl (SqL.of w5.h), _, _, rfl, rfl, _, rfl, ?_⟩
            refine ifF (by rw [ll5]; exact decide_eq_false (by omega)) ?_
            refine ⟨Fb, ⟨c.s.set c.p.toNat pu, c.p + wa', to⟩, L2, _, _, rfl, g5, w5, d5, kc, by omega, bn_ok ok hM (bn_go ee z), ?_, hc⟩
            rw [tj_at tk, tj_nxt (bn_go ee z)]; rfl
          · by_cases k : c.p + wa' < 0
            · refine ifT (decide_eq_true k) ?_
              refine ⟨_, rfl, l, _, rfl, .inl ⟨SqL.of w5.h, fun p np => ⟨_, rfl, _, rfl, ae, _, _, _, rfl, rfl, SqT.of (ln np hae5), atI_nat (j := 1) rfl, _, rfl, _, _, rfl, rfl, five_le, fun u nu => ?_⟩⟩⟩
              refine fin Fb G5 (c.s.set c.p.toNat pu) tOut to wa' _ g5 ?_ p np u nu
              rw [thr_of hM hs l1 r0 r1 tk (bn_out ee z)]
              congr 1; omega
            · refine ifF (decide_eq_false k) ⟨_, rfl, _, rfl, l, _, rfl, .inl (SqL.of w5.h), _, _, rfl, rfl, _, rfl, ?_⟩
              refine ifT (by rw [ll5]; exact decide_eq_true (by omega)) ?_
              refine ⟨_, rfl, l, _, rfl, .inl ⟨SqL.of w5.h, fun p np => ⟨_, rfl, _, rfl, ae, _, _, _, rfl, rfl, SqT.of (ln np hae5), atI_nat (j := 1) rfl, _, rfl, _, _, rfl, rfl, five_le, fun u nu => ?_⟩⟩⟩
              refine fin Fb G5 (c.s.set c.p.toNat pu) tOut to wa' _ g5 ?_ p np u nu
              rw [thr_of hM hs l1 r0 r1 tk (bn_out ee z)]
              congr 1; omega
    · rintro σ G ⟨F1, c, L, v7, v8, rfl, g, wl, wd, kd, ll, ok, tk, hsn⟩
      refine ⟨one_le, fun u nu => ?_⟩
      refine q _ _ (.ref u) (g.new (o := .tup [.str tStay.x]) nu) ?_
      rw [thr_nv (nv_of (N := 4100) hM ok0 (by omega) (by rw [tk]; exact fun z => nomatch z))]
      exact ⟨u, rfl, upd_same⟩
def sp_L_kept : Sp := fun vs H Q _ => ∃ (F : Hp) (v : V) (M : Mach), vs = [v] ∧ Same F H ∧ Is F v M ∧ M.length ≤ 10 ∧ ∀ (F' H' : Hp) (u : V), Gr mu0 F H F' H' → Is F' u M → Q u H'
theorem ok_L_kept (t : Tx K mg) : FnOk P w K mg base CX0 1 t.a_L_kept t.fd_L_kept ["_law_machine_here"] sp_L_kept := by
  refine t.F_L_kept.ok sc_L_kept (fun vs H Q E h => ?_) (fun cdv A outer s H vs Q E hr h => ?_)
  · obtain ⟨F, v, M, rfl, _⟩ := h
    rfl
  · obtain ⟨F, v, M, rfl, sF, hv, hl, q⟩ := h
    refine ⟨_, (pss_one (ps_ret (pe_lc (own := [("_law_row", 1)]) (g := gName 1) (tt := tYes) rfl sc_L_kept.nd (pi_list (pv 0)) (blkOk_by (N := N_L_kept) (sc := defScope s_L_kept) (by decide +kernel)) (fun _ _ _ _ _ => (pg_name (i := 1) sc_L_kept.nd rfl (by first | exact Or.inl rfl | exact Or.inr rfl))) (fun _ _ _ _ _ => pts_nil) (fun _ _ _ _ _ => (pe_callTy (T := "list") (crK (K := K) (r := rListQ) rfl call_listQ) (by rfl) t.n_list (by decide +kernel) (pa_cons (pv 1) pa_nil)))))), ?_⟩
    obtain ⟨m, rv, rfl, ham, hrs⟩ := hv
    have g0 : Gr mu0 F H F H := Gr.refl sF
    refine ⟨_, rfl, m, rfl, ⟨_, SqL.of (sF _ _ ham)⟩, fun D nD => lc_list (K := K) (a := m) (xs := rv) (fun i G => ∃ (F4 : Hp) (xs : List V), Gr mu0 F H F4 G ∧ Ow H F4 G D (.lst xs) ∧ IsAll F4 xs (M.take i))
      ⟨F, [], g0.own nD, Ow.mk1 g0 nD, All2.nil⟩ (fun i G _ ⟨F4, xs, g, _⟩ => SqL.of (g.fh _ _ (g.ff _ _ ham))) ?_ ?_⟩
    · rintro i y G hi ⟨F4, xs, g, w, al⟩
      obtain ⟨row, hMi, ra, es, rfl, hra, hes⟩ := hrs.get' hi
      have il : i < rv.length := (List.getElem?_eq_some_iff.mp hi).1
      have hl' := hrs.1
      have lx : xs.length = i := by rw [al.1, List.length_take, ← hrs.1]; omega
      refine ⟨rfl, yes ⟨_, rfl, ra, es, rfl, .inl (SqL.of (g.fh _ _ (g.ff _ _ hra))), fun l nl => ⟨xs, (w.new nl).h, lt_size (by omega), ?_⟩⟩⟩
      have g4 := g.new (o := .lst es) nl
      have w4 := w.new (u := .lst es) nl
      have s4 : Same F4 (upd F4 l (.lst es)) := sm_new (Same.refl F4) (g.fh.free nl)
      refine ⟨_, xs ++ [.ref l], g4.set w4.f (.inl w4.n), w4.set, ?_⟩
      rw [List.take_add_one, hMi]
      exact (al.up s4).app (All2.one ⟨l, es, rfl, upd_same, IsAll.up (IsAll.up hes g.ff) s4⟩)
    · rintro G ⟨F4, xs, g, w, al⟩
      rw [hrs.1, List.take_length] at al
      exact q (upd F4 D (.lst xs)) G _ (g.frz w.h w.n w.f) ⟨D, xs, rfl, upd_same, al.up (sm_new (Same.refl F4) w.f)⟩
/-! ### what is told, looked at -/
theorem inV_rep (n : Nat) : inV (V.bl false) (List.replicate n (V.bl true)) = false := by
  unfold inV
  rw [List.any_eq_false]
  intro x z
  rw [(List.mem_replicate.mp z).2]
  decide
theorem flat_rep (n : Nat) : (List.replicate n (V.bl true)).all flatV = true := by
  rw [List.all_eq_true]
  intro x z
  rw [(List.mem_replicate.mp z).2]
  rfl
def sp_L_kinds : Sp := fun vs H Q _ => ∃ (F : Hp) (v : V) (x : ThR), vs = [v] ∧ Same F H ∧ Is F v x ∧ (∀ w s r y n, x = .fin w s r y n → (w = tEnd ∨ w = tOut) ∧ s.length ≤ 100) ∧ ∀ H' : Hp, Gr mu0 F H F H' → Q (.bl true) H'
theorem ok_L_kinds (t : Tx K mg) : FnOk P w K mg base CX0 2 t.a_L_kinds t.fd_L_kinds ["_law_found"] sp_L_kinds := by
  refine t.F_L_kinds.ok sc_L_kinds (fun vs H Q E h => ?_) (fun cdv A outer s H vs Q E hr h => ?_)
  · obtain ⟨F, v, x, rfl, _⟩ := h
    rfl
  · obtain ⟨F, v, x, rfl, sF, hv, hl, q⟩ := h
    refine ⟨_, (pss_cons (ps_if (PW.pt (pw_or (pt_not (pt_val (pe_callB (id := "isinstance") call_isi (by rfl) t.n_isinstance (by decide +kernel) (pa_cons (pv 0) (pa_cons (pe_bltn (v := .ty "tuple") (by rfl) t.n_tuple (by decide +kernel) rfl) pa_nil))))) (pw_or (pt_cmpR op_eq (pe_callB (id := "len") call_lenQ (by rfl) t.n_len (by decide +kernel) (pa_cons (pv 0) pa_nil)) pe_int (nomark _)) (pw_or1 (pt_cmpR op_notIn_seq (pe_ix ix_tup (pv 0) pe_int (fun _ _ => rfl)) (pe_tup (pa_cons pe_str (pa_cons pe_str (pa_cons pe_str pa_nil)))) (by rfl)))))) (pss_one (ps_ret pe_bl)) pss_nil)
      (pss_cons (ps_if (pt_cmpR op_eq (pe_ix ix_tup (pv 0) pe_int (fun _ _ => rfl)) pe_str (nomark _)) (pss_one (ps_ret (pe_cmpR op_eq (pe_callB (id := "len") call_lenQ (by rfl) t.n_len (by decide +kernel) (pa_cons (pv 0) pa_nil)) pe_int (nomark _)))) pss_nil)
      (pss_cons (ps_if (PW.pt (pw_or (pt_cmpR op_ne (pe_callB (id := "len") call_lenQ (by rfl) t.n_len (by decide +kernel) (pa_cons (pv 0) pa_nil)) pe_int (nomark _)) (pw_or1 (pt_not (pt_val (pe_callB (id := "isinstance") call_isi (by rfl) t.n_isinstance (by decide +kernel) (pa_cons (pe_ix ix_tup (pv 0) pe_int (fun _ _ => rfl)) (pa_cons (pe_bltn (v := .ty "tuple") (by rfl) t.n_tuple (by decide +kernel) rfl) pa_nil)))))))) (pss_one (ps_ret pe_bl)) pss_nil)
      (pss_one (ps_ret (pe_cmpR op_notIn_seq pe_bl (pe_lc (own := [("_law_number", 1)]) (g := gName 1) (tt := tYes) rfl sc_L_kinds.nd (pi_list (pe_op op_cat (pe_callTy (T := "list") call_listQ (by rfl) t.n_list (by decide +kernel) (pa_cons (pe_ix ix_tup (pv 0) pe_int (fun _ _ => rfl)) pa_nil)) (pe_callTy (T := "list") call_listQ (by rfl) t.n_list (by decide +kernel) (pa_cons (pe_slice sl_tupQ (pv 0) (po_some pe_int) po_none) pa_nil)))) (blkOk_by (N := N_L_kinds) (sc := defScope s_L_kinds) (by decide +kernel)) (fun _ _ _ _ _ => (pg_name (i := 1) sc_L_kinds.nd rfl (by first | exact Or.inl rfl | exact Or.inr rfl))) (fun _ _ _ _ _ => pts_nil) (fun _ _ _ _ _ => (pe_call (ok_L_whole t) (hr.mono (by decide)) (by rfl) t.m_L_whole t.F_L_whole.kp t.b_L_whole .nil pass0 (pa_cons (pv 1) pa_nil)))) (by rfl))))))), ?_⟩
    have g0 : Gr mu0 F H F H := Gr.refl sF
    cases x with
    | stay =>
      obtain ⟨p, rfl, hp⟩ := id hv
      have hp := sF _ _ hp
      refine ⟨_, rfl, _, _, _, _, true, rfl, .ty "tuple", .base (.tup hp), kt_tup, _, rfl, ifF rfl ?_⟩
      refine ⟨_, rfl, p, _, rfl, .inr (SqT.of hp), rfl, _, rfl, ifF rfl ?_⟩
      refine ⟨_, rfl, p, _, _, _, rfl, rfl, SqT.of hp, atI_nat (j := 0) rfl, three_le, fun t nt => ⟨t, _, rfl, .inr (SqT.of upd_same), rfl, rfl, _, rfl, ifF (by decide +kernel) ?_⟩⟩
      have hp2 := ln (u := .tup [.str "out", .str "end", .str "stay"]) nt hp
      refine ⟨_, rfl, p, _, _, _, rfl, rfl, SqT.of hp2, atI_nat (j := 0) rfl, rfl, _, rfl, ifT (decide_eq_true rfl) ⟨_, rfl, p, _, rfl, .inr (SqT.of hp2), rfl, ?_⟩⟩
      exact q _ (g0.own nt)
    | fin w s r y n =>
      obtain ⟨p, b, rfl, hp, hb⟩ := id hv
      have hp := sF _ _ hp
      have hb := sF _ _ hb
      obtain ⟨hw, l1⟩ := hl _ _ _ _ _ rfl
      refine ⟨_, rfl, _, _, _, _, true, rfl, .ty "tuple", .base (.tup hp), kt_tup, _, rfl, ifF rfl ?_⟩
      refine ⟨_, rfl, p, _, rfl, .inr (SqT.of hp), rfl, _, rfl, ifF rfl ?_⟩
      refine ⟨_, rfl, p, _, _, _, rfl, rfl, SqT.of hp, atI_nat (j := 0) rfl, three_le, fun t nt => ⟨t, _, rfl, .inr (SqT.of upd_same), rfl, rfl, _, rfl, ifF (by rcases hw with rfl | rfl <;> decide +kernel) ?_⟩⟩
      have g1 := g0.own (o := .tup [.str "out", .str "end", .str "stay"]) nt
      have hp2 := ln (u := .tup [.str "out", .str "end", .str "stay"]) nt hp
      have hb2 := ln (u := .tup [.str "out", .str "end", .str "stay"]) nt hb
      generalize upd H t (.tup [.str "out", .str "end", .str "stay"]) = H2 at g1 hp2 hb2 ⊢
      refine ⟨_, rfl, p, _, _, _, rfl, rfl, SqT.of hp2, atI_nat (j := 0) rfl, rfl, _, rfl, ifF (by rcases hw with rfl | rfl <;> decide +kernel) ?_⟩
      refine ⟨_, rfl, p, _, rfl, .inr (SqT.of hp2), rfl, _, rfl, ifF rfl ?_⟩
      refine ⟨_, rfl, p, _, _, _, rfl, rfl, SqT.of hp2, atI_nat (j := 1) rfl, _, _, _, _, true, rfl, .ty "tuple", .base (.tup hb2), kt_tup, _, rfl, ifF rfl ?_⟩
      -- False not in [..]
      refine ⟨_, rfl, p, _, _, _, rfl, rfl, SqT.of hp2, atI_nat (j := 1) rfl, b, _, rfl, .inr (SqT.of hb2), fun l1' n1 => ?_⟩
      have g2 := g1.own (o := .lst (s.map V.int)) n1
      have hp3 := ln (u := .lst (s.map V.int)) n1 hp2
      have hl1 : (upd H2 l1' (.lst (s.map V.int))) l1' = some (.lst (s.map V.int)) := upd_same
      generalize upd H2 l1' (.lst (s.map V.int)) = H3 at g2 hp3 hl1 ⊢
      refine ⟨_, rfl, _, rfl, slA_cut (SqT.of hp3) (by show ¬ (HT.sIx 5 _ _ = 0 ∧ HT.sIx 5 5 _ = 5); decide) fun c nc => ?_⟩
      have ec : cutV [V.str w.x, .ref b, .int r, .int y, .int n] (some 2) none = [r, y, n].map V.int := rfl
      rw [ec]
      refine ⟨c, _, rfl, .inr (SqT.of upd_same), fun l2 n2 => ?_⟩
      have g3 := (g2.own (o := .tup ([r, y, n].map V.int)) nc).own (o := .lst ([r, y, n].map V.int)) n2
      have hl3 := ln (u := .lst ([r, y, n].map V.int)) n2 (ln (u := .tup ([r, y, n].map V.int)) nc hl1)
      have hl2 : (upd (upd H3 c (.tup ([r, y, n].map V.int))) l2 (.lst ([r, y, n].map V.int))) l2 = some (.lst ([r, y, n].map V.int)) := upd_same
      generalize upd (upd H3 c (.tup ([r, y, n].map V.int))) l2 (.lst ([r, y, n].map V.int)) = H4 at g3 hl3 hl2 ⊢
      refine ⟨l1', l2, _, _, rfl, rfl, hl3, hl2, by rw [List.length_map, List.length_map]; exact le_size (by show s.length + 3 ≤ 1000000; omega), fun l3 n3 => ?_⟩
      rw [← List.map_append]
      have g4 := g3.own (o := .lst ((s ++ [r, y, n]).map V.int)) n3
      have hl4 : (upd H4 l3 (.lst ((s ++ [r, y, n]).map V.int))) l3 = some (.lst ((s ++ [r, y, n]).map V.int)) := upd_same
      generalize upd H4 l3 (.lst ((s ++ [r, y, n]).map V.int)) = H5 at g4 hl4 ⊢
      refine ⟨l3, rfl, ⟨_, SqL.of hl4⟩, fun D nD => lc_list (K := K) (a := l3) (xs := (s ++ [r, y, n]).map V.int) (fun i G => Gr mu0 F H F G ∧ G l3 = some (.lst ((s ++ [r, y, n]).map V.int)) ∧ Ow H F G D (.lst (List.replicate i (V.bl true))))
        ⟨g4.own nD, ln nD hl4, Ow.mk1 g4 nD⟩ (fun i G _ z => SqL.of z.2.1) ?_ ?_⟩
      · rintro i x G hx ⟨g, h3, wd⟩
        rw [List.getElem?_map] at hx
        obtain ⟨z, hz, rfl⟩ := Option.map_eq_some_iff.mp hx
        have il : i < s.length + 3 := by
          have := (List.getElem?_eq_some_iff.mp hz).1
          rw [List.length_append] at this
          exact this
        refine ⟨rfl, yes ⟨_, rfl, z, rfl, _, wd.h, by rw [List.length_replicate]; exact lt_size (by omega), ?_⟩⟩
        rw [rep_snoc]
        exact ⟨g.set wd.f (.inl wd.n), by rw [upd_ne (fun e => by rw [e, wd.h] at h3; cases i with
          | zero => have := List.append_eq_nil_iff.mp (List.map_eq_nil_iff.mp (HO.lst.inj (Option.some.inj h3)).symm); simp at this
          | succ k =>
            have h4 := HO.lst.inj (Option.some.inj h3)
            have h5 : (List.replicate (k + 1) (V.bl true))[0]? = ((s ++ [r, y, n]).map V.int)[0]? := by rw [h4]
            rw [List.getElem?_map] at h5
            cases e6 : (s ++ [r, y, n])[0]? with
            | none => rw [e6] at h5; simp at h5
            | some z6 => rw [e6] at h5; simp at h5)]; exact h3, wd.set⟩
      · rintro G ⟨g, h3, wd⟩
        refine ⟨D, _, rfl, .inl (SqL.of wd.h), rfl, flat_rep _, ?_⟩
        rw [inV_rep]
        exact q G g
/-! ### a machine that counts -/
def cntM : Mach := [[Ent.emp, Ent.emp, Ent.emp, Ent.go (3) (1) (1)], [Ent.go (1) (-1) (2), Ent.go (2) (-1) (2), Ent.go (0) (1) (1), Ent.emp], [Ent.go (0) (-1) (2), Ent.go (1) (-1) (2), Ent.go (2) (-1) (2), Ent.go (3) (1) (1)]]
theorem cnt_ok : MOk cntM 3 4 := by
  refine ⟨by decide, by decide, by decide, by decide, rfl, fun r z => ?_, fun r z e y => ⟨fun p w t k => ?_⟩⟩
  · rcases List.mem_cons.mp z with rfl | z
    · rfl
    rcases List.mem_cons.mp z with rfl | z
    · rfl
    rw [List.mem_singleton.mp z]; rfl
  · have h : (cntM.all fun r => r.all fun e => match e with
      | .emp => true
      | .go p w t => (decide (0 ≤ p) && decide (p < 4)) && ((decide (w = -1) || decide (w = 1)) && (decide (0 ≤ t) && decide (t < 3)))) = true := by decide
    have h2 := List.all_eq_true.mp (List.all_eq_true.mp h r z) e y
    rw [k] at h2
    simpa using h2
def sp_L_counted (P : Program) (w : World) : Sp := fun vs H Q _ => ∃ n : Int, vs = [.int n] ∧ ∀ H', Same H H' → Q (.bl true) H'
theorem ok_L_counted (t : Tx K mg) : FnOk P w K mg base CX0 5 t.a_L_counted t.fd_L_counted ["_law_number"] (sp_L_counted P w) := by
  refine t.F_L_counted.ok sc_L_counted (fun vs H Q E h => ?_) (fun cdv A outer s H vs Q E hr h => ?_)
  · obtain ⟨n, rfl, _⟩ := h
    rfl
  · obtain ⟨n, rfl, q⟩ := h
    refine ⟨_, (pss_cons (ps_set (i := 1) sc_L_counted.nd rfl (by first | exact Or.inl rfl | exact Or.inr rfl) (pe_lst (pa_cons (pe_lst (pa_cons (pe_tup pa_nil) (pa_cons (pe_tup pa_nil) (pa_cons (pe_tup pa_nil) (pa_cons (pe_tup (pa_cons pe_int (pa_cons pe_int (pa_cons pe_int pa_nil)))) pa_nil))))) (pa_cons (pe_lst (pa_cons (pe_tup (pa_cons pe_int (pa_cons (pe_un un_neg pe_int) (pa_cons pe_int pa_nil)))) (pa_cons (pe_tup (pa_cons pe_int (pa_cons (pe_un un_neg pe_int) (pa_cons pe_int pa_nil)))) (pa_cons (pe_tup (pa_cons pe_int (pa_cons pe_int (pa_cons pe_int pa_nil)))) (pa_cons (pe_tup pa_nil) pa_nil))))) pa_nil))))
      (pss_cons (ps_expr (pe_bm PySem.F.plainAttrs_list PySem.F.slot_list_append PySem.F.type_list_append mt_append (pv 1) (pa_cons (pe_lst (pa_cons (pe_tup (pa_cons pe_int (pa_cons (pe_un un_neg pe_int) (pa_cons pe_int pa_nil)))) (pa_cons (pe_tup (pa_cons pe_int (pa_cons (pe_un un_neg pe_int) (pa_cons pe_int pa_nil)))) (pa_cons (pe_tup (pa_cons pe_int (pa_cons (pe_un un_neg pe_int) (pa_cons pe_int pa_nil)))) (pa_cons (pe_tup (pa_cons pe_int (pa_cons pe_int (pa_cons pe_int pa_nil)))) pa_nil))))) pa_nil)))
      (pss_cons (ps_set (i := 2) sc_L_counted.nd rfl (by first | exact Or.inl rfl | exact Or.inr rfl) (pe_tup (pa_cons pe_int (pa_cons (pe_op op_mod (pv 0) pe_int) (pa_cons (pe_op op_mod (pe_op op_fdiv (pv 0) pe_int) pe_int) (pa_cons (pe_op op_mod (pe_op op_fdiv (pv 0) pe_int) pe_int) pa_nil))))))
      (pss_one (ps_ret (pe_cmpR (op_eqD hr.units) (pe_call (ok_through t) (hr.mono (by decide)) (by rfl) t.m_through t.F_through.kp t.b_through .nil pass0 (pa_cons (pv 1) (pa_cons (pv 2) (pa_cons pe_int (pa_cons (pe_un un_neg pe_int) pa_nil))))) (pe_call (ok_L_through t) (hr.mono (by decide)) (by rfl) t.m_L_through t.F_L_through.kp t.b_L_through .nil pass0 (pa_cons (pv 1) (pa_cons (pv 2) (pa_cons pe_int (pa_cons (pe_un un_neg pe_int) pa_nil))))) (nomark _))))))), ?_⟩
    have g0 : Gr mu0 H H H H := Gr.refl (Same.refl H)
    refine ⟨nil_le, fun q0 n0 => ?_⟩
    have g1 := g0.new (o := .tup []) n0
    have s0 : Same H (upd H q0 (.tup [])) := sm_up n0
    have i0 : Is (upd H q0 (.tup [])) (.ref q0) Ent.emp := ⟨q0, rfl, upd_same⟩
    generalize upd H q0 (.tup []) = H1 at g1 i0  s0 ⊢
    refine ⟨nil_le, fun q1 n1 => ?_⟩
    have g2 := g1.new (o := .tup []) n1
    have s1 : Same H1 (upd H1 q1 (.tup [])) := sm_up n1
    replace i0 := Is.up i0 s1
    have i1 : Is (upd H1 q1 (.tup [])) (.ref q1) Ent.emp := ⟨q1, rfl, upd_same⟩
    generalize upd H1 q1 (.tup []) = H2 at g2 i1 i0 s1 ⊢
    refine ⟨nil_le, fun q2 n2 => ?_⟩
    have g3 := g2.new (o := .tup []) n2
    have s2 : Same H2 (upd H2 q2 (.tup [])) := sm_up n2
    replace i0 := Is.up i0 s2
    replace i1 := Is.up i1 s2
    have i2 : Is (upd H2 q2 (.tup [])) (.ref q2) Ent.emp := ⟨q2, rfl, upd_same⟩
    generalize upd H2 q2 (.tup []) = H3 at g3 i2 i0 i1 s2 ⊢
    refine ⟨three_le, fun q3 n3 => ?_⟩
    have g4 := g3.new (o := .tup [.int 3, .int (1), .int 1]) n3
    have s3 : Same H3 (upd H3 q3 (.tup [.int 3, .int (1), .int 1])) := sm_up n3
    replace i0 := Is.up i0 s3
    replace i1 := Is.up i1 s3
    replace i2 := Is.up i2 s3
    have i3 : Is (upd H3 q3 (.tup [.int 3, .int (1), .int 1])) (.ref q3) (Ent.go (3) (1) (1)) := ⟨q3, rfl, upd_same⟩
    generalize upd H3 q3 (.tup [.int 3, .int (1), .int 1]) = H4 at g4 i3 i0 i1 i2 s3 ⊢
    refine ⟨(by show 4 ≤ sizeLine; decide), fun q4 n4 => ?_⟩
    have g5 := g4.new (o := .lst [.ref q0, .ref q1, .ref q2, .ref q3]) n4
    have s4 : Same H4 (upd H4 q4 (.lst [.ref q0, .ref q1, .ref q2, .ref q3])) := sm_up n4
    replace i0 := Is.up i0 s4
    replace i1 := Is.up i1 s4
    replace i2 := Is.up i2 s4
    replace i3 := Is.up i3 s4
    have i4 : Is (upd H4 q4 (.lst [.ref q0, .ref q1, .ref q2, .ref q3])) (.ref q4) ([Ent.emp, Ent.emp, Ent.emp, Ent.go (3) (1) (1)] : List Ent) := ⟨q4, _, rfl, upd_same, (All2.cons i0 (All2.cons i1 (All2.cons i2 (All2.cons i3 All2.nil))))⟩
    generalize upd H4 q4 (.lst [.ref q0, .ref q1, .ref q2, .ref q3]) = H5 at g5 i4 i0 i1 i2 i3 s4 ⊢
    refine ⟨_, rfl, three_le, fun q5 n5 => ?_⟩
    have g6 := g5.new (o := .tup [.int 1, .int (-1), .int 2]) n5
    have s5 : Same H5 (upd H5 q5 (.tup [.int 1, .int (-1), .int 2])) := sm_up n5
    replace i4 := Is.up i4 s5
    have i5 : Is (upd H5 q5 (.tup [.int 1, .int (-1), .int 2])) (.ref q5) (Ent.go (1) (-1) (2)) := ⟨q5, rfl, upd_same⟩
    generalize upd H5 q5 (.tup [.int 1, .int (-1), .int 2]) = H6 at g6 i5 i4 s5 ⊢
    refine ⟨_, rfl, three_le, fun q6 n6 => ?_⟩
    have g7 := g6.new (o := .tup [.int 2, .int (-1), .int 2]) n6
    have s6 : Same H6 (upd H6 q6 (.tup [.int 2, .int (-1), .int 2])) := sm_up n6
    replace i4 := Is.up i4 s6
    replace i5 := Is.up i5 s6
    have i6 : Is (upd H6 q6 (.tup [.int 2, .int (-1), .int 2])) (.ref q6) (Ent.go (2) (-1) (2)) := ⟨q6, rfl, upd_same⟩
    generalize upd H6 q6 (.tup [.int 2, .int (-1), .int 2]) = H7 at g7 i6 i4 i5 s6 ⊢
    refine ⟨three_le, fun q7 n7 => ?_⟩
    have g8 := g7.new (o := .tup [.int 0, .int (1), .int 1]) n7
    have s7 : Same H7 (upd H7 q7 (.tup [.int 0, .int (1), .int 1])) := sm_up n7
    replace i4 := Is.up i4 s7
    replace i5 := Is.up i5 s7
    replace i6 := Is.up i6 s7
    have i7 : Is (upd H7 q7 (.tup [.int 0, .int (1), .int 1])) (.ref q7) (Ent.go (0) (1) (1)) := ⟨q7, rfl, upd_same⟩
    generalize upd H7 q7 (.tup [.int 0, .int (1), .int 1]) = H8 at g8 i7 i4 i5 i6 s7 ⊢
    refine ⟨nil_le, fun q8 n8 => ?_⟩
    have g9 := g8.new (o := .tup []) n8
    have s8 : Same H8 (upd H8 q8 (.tup [])) := sm_up n8
    replace i4 := Is.up i4 s8
    replace i5 := Is.up i5 s8
    replace i6 := Is.up i6 s8
    replace i7 := Is.up i7 s8
    have i8 : Is (upd H8 q8 (.tup [])) (.ref q8) Ent.emp := ⟨q8, rfl, upd_same⟩
    generalize upd H8 q8 (.tup []) = H9 at g9 i8 i4 i5 i6 i7 s8 ⊢
    refine ⟨(by show 4 ≤ sizeLine; decide), fun q9 n9 => ?_⟩
    have g10 := g9.new (o := .lst [.ref q5, .ref q6, .ref q7, .ref q8]) n9
    have s9 : Same H9 (upd H9 q9 (.lst [.ref q5, .ref q6, .ref q7, .ref q8])) := sm_up n9
    replace i4 := Is.up i4 s9
    replace i5 := Is.up i5 s9
    replace i6 := Is.up i6 s9
    replace i7 := Is.up i7 s9
    replace i8 := Is.up i8 s9
    have i9 : Is (upd H9 q9 (.lst [.ref q5, .ref q6, .ref q7, .ref q8])) (.ref q9) ([Ent.go (1) (-1) (2), Ent.go (2) (-1) (2), Ent.go (0) (1) (1), Ent.emp] : List Ent) := ⟨q9, _, rfl, upd_same, (All2.cons i5 (All2.cons i6 (All2.cons i7 (All2.cons i8 All2.nil))))⟩
    generalize upd H9 q9 (.lst [.ref q5, .ref q6, .ref q7, .ref q8]) = H10 at g10 i9 i4 i5 i6 i7 i8 s9 ⊢
    refine ⟨two_le, fun D nD => ?_⟩
    have gD := (Gr.refl (mu := mu0) (Same.refl H10)).own (o := .lst [.ref q4, .ref q9]) nD
    have wD : Ow H10 H10 (upd H10 D (.lst [.ref q4, .ref q9])) D (.lst [.ref q4, .ref q9]) := ⟨nD, nD, upd_same⟩
    generalize upd H10 D (.lst [.ref q4, .ref q9]) = G0 at gD wD ⊢
    refine ⟨_, rfl, .inl ⟨rfl, _, SqL.of wD.h⟩, ?_⟩
    refine ⟨_, rfl, three_le, fun u0 m0 => ?_⟩
    have f0 : Same H10 (upd H10 u0 (.tup [.int 0, .int (-1), .int 2])) := sm_new (Same.refl H10) (gD.fh.free m0)
    have h0 := gD.new (o := .tup [.int 0, .int (-1), .int 2]) m0
    replace wD := wD.new (u := .tup [.int 0, .int (-1), .int 2]) m0
    replace i4 := Is.up i4 f0
    replace i9 := Is.up i9 f0
    have e0 : Is (upd H10 u0 (.tup [.int 0, .int (-1), .int 2])) (.ref u0) (Ent.go (0) (-1) (2)) := ⟨u0, rfl, upd_same⟩
    generalize upd H10 u0 (.tup [.int 0, .int (-1), .int 2]) = F1 at h0 wD e0 i4 i9 f0
    generalize upd G0 u0 (.tup [.int 0, .int (-1), .int 2]) = G1 at h0 wD ⊢
    refine ⟨_, rfl, three_le, fun u1 m1 => ?_⟩
    have f1 : Same F1 (upd F1 u1 (.tup [.int 1, .int (-1), .int 2])) := sm_new (Same.refl F1) (h0.fh.free m1)
    have h1 := h0.new (o := .tup [.int 1, .int (-1), .int 2]) m1
    replace wD := wD.new (u := .tup [.int 1, .int (-1), .int 2]) m1
    replace i4 := Is.up i4 f1
    replace i9 := Is.up i9 f1
    replace e0 := Is.up e0 f1
    have e1 : Is (upd F1 u1 (.tup [.int 1, .int (-1), .int 2])) (.ref u1) (Ent.go (1) (-1) (2)) := ⟨u1, rfl, upd_same⟩
    generalize upd F1 u1 (.tup [.int 1, .int (-1), .int 2]) = F2 at h1 wD e1 i4 i9 e0 f1
    generalize upd G1 u1 (.tup [.int 1, .int (-1), .int 2]) = G2 at h1 wD ⊢
    refine ⟨_, rfl, three_le, fun u2 m2 => ?_⟩
    have f2 : Same F2 (upd F2 u2 (.tup [.int 2, .int (-1), .int 2])) := sm_new (Same.refl F2) (h1.fh.free m2)
    have h2 := h1.new (o := .tup [.int 2, .int (-1), .int 2]) m2
    replace wD := wD.new (u := .tup [.int 2, .int (-1), .int 2]) m2
    replace i4 := Is.up i4 f2
    replace i9 := Is.up i9 f2
    replace e0 := Is.up e0 f2
    replace e1 := Is.up e1 f2
    have e2 : Is (upd F2 u2 (.tup [.int 2, .int (-1), .int 2])) (.ref u2) (Ent.go (2) (-1) (2)) := ⟨u2, rfl, upd_same⟩
    generalize upd F2 u2 (.tup [.int 2, .int (-1), .int 2]) = F3 at h2 wD e2 i4 i9 e0 e1 f2
    generalize upd G2 u2 (.tup [.int 2, .int (-1), .int 2]) = G3 at h2 wD ⊢
    refine ⟨three_le, fun u3 m3 => ?_⟩
    have f3 : Same F3 (upd F3 u3 (.tup [.int 3, .int (1), .int 1])) := sm_new (Same.refl F3) (h2.fh.free m3)
    have h3 := h2.new (o := .tup [.int 3, .int (1), .int 1]) m3
    replace wD := wD.new (u := .tup [.int 3, .int (1), .int 1]) m3
    replace i4 := Is.up i4 f3
    replace i9 := Is.up i9 f3
    replace e0 := Is.up e0 f3
    replace e1 := Is.up e1 f3
    replace e2 := Is.up e2 f3
    have e3 : Is (upd F3 u3 (.tup [.int 3, .int (1), .int 1])) (.ref u3) (Ent.go (3) (1) (1)) := ⟨u3, rfl, upd_same⟩
    generalize upd F3 u3 (.tup [.int 3, .int (1), .int 1]) = F4 at h3 wD e3 i4 i9 e0 e1 e2 f3
    generalize upd G3 u3 (.tup [.int 3, .int (1), .int 1]) = G4 at h3 wD ⊢
    refine ⟨(by show 4 ≤ sizeLine; decide), fun u4 m4 => ?_⟩
    have f4 : Same F4 (upd F4 u4 (.lst [.ref u0, .ref u1, .ref u2, .ref u3])) := sm_new (Same.refl F4) (h3.fh.free m4)
    have h4 := h3.new (o := .lst [.ref u0, .ref u1, .ref u2, .ref u3]) m4
    replace wD := wD.new (u := .lst [.ref u0, .ref u1, .ref u2, .ref u3]) m4
    replace i4 := Is.up i4 f4
    replace i9 := Is.up i9 f4
    replace e0 := Is.up e0 f4
    replace e1 := Is.up e1 f4
    replace e2 := Is.up e2 f4
    replace e3 := Is.up e3 f4
    have e4 : Is (upd F4 u4 (.lst [.ref u0, .ref u1, .ref u2, .ref u3])) (.ref u4) ([Ent.go (0) (-1) (2), Ent.go (1) (-1) (2), Ent.go (2) (-1) (2), Ent.go (3) (1) (1)] : List Ent) := ⟨u4, _, rfl, upd_same, (All2.cons e0 (All2.cons e1 (All2.cons e2 (All2.cons e3 All2.nil))))⟩
    generalize upd F4 u4 (.lst [.ref u0, .ref u1, .ref u2, .ref u3]) = F5 at h4 wD e4 i4 i9 e0 e1 e2 e3 f4
    generalize upd G4 u4 (.lst [.ref u0, .ref u1, .ref u2, .ref u3]) = G5 at h4 wD ⊢
    refine ⟨D, _, _, rfl, rfl, wD.h, lt_size (by show 2 ≤ 1000000; decide), ?_⟩
    have gE := h4.set (o := .lst ([.ref q4, .ref q9] ++ [.ref u4])) wD.f (.inl wD.n)
    have hm : Is (upd F5 D (.lst ([.ref q4, .ref q9] ++ [.ref u4]))) (.ref D) cntM := by
      have s : Same F5 (upd F5 D (.lst ([.ref q4, .ref q9] ++ [.ref u4]))) := sm_new (Same.refl _) wD.f
      exact ⟨D, _, rfl, upd_same, All2.cons (Is.up i4 s) (All2.cons (Is.up i9 s) (All2.cons (Is.up e4 s) All2.nil))⟩
    have sE : Same H (upd G5 D (.lst ([.ref q4, .ref q9] ++ [.ref u4]))) := fun z o e => gE.fh z o (gE.ff z o (g10.fh z o (g10.ff z o e)))
    have hm2 : Is (upd G5 D (.lst ([.ref q4, .ref q9] ++ [.ref u4]))) (.ref D) cntM := Is.up hm (fun z o e => by
      by_cases k : z = D
      · subst k; rw [upd_same] at e ⊢; exact e
      · rw [upd_ne k] at e ⊢; exact h4.fh z o e)
    generalize upd G5 D (.lst ([.ref q4, .ref q9] ++ [.ref u4])) = J at sE hm2 ⊢
    have m3 : ∀ z : Int, (0 ≤ z % 3 ∧ z % 3 < (4 : Nat)) := fun z => ⟨Int.emod_nonneg _ (by decide), by have := Int.emod_lt_of_pos z (show (0 : Int) < 3 by decide); omega⟩
    refine ⟨_, rfl, _, _, rfl, rfl, (by show (0 : Int) < 3; decide), _, rfl, _, _, rfl, rfl, ⟨by decide, by decide⟩, _, _, rfl, rfl, (by show (0 : Int) < 3; decide), _, rfl, _, _, rfl, rfl, ⟨by decide, by decide⟩, _, _, rfl, rfl, (by show (0 : Int) < 3; decide), (by show 4 ≤ sizeLine; decide), fun b nb => ?_⟩
    have hs : SOk 4 [3, n % 3, n / 3 % 3, n / 9 % 3] := fun x z => by
      rcases List.mem_cons.mp z with rfl | z
      · decide
      rcases List.mem_cons.mp z with rfl | z
      · exact m3 _
      rcases List.mem_cons.mp z with rfl | z
      · exact m3 _
      rw [List.mem_singleton.mp z]; exact m3 _
    refine ⟨_, rfl, _, rfl, _, rfl, _, .ref D, b, cntM, 3, 4, [3, n % 3, n / 3 % 3, n / 9 % 3], 0, -1, rfl, Same.refl _, Is.up hm2 (sm_up nb), cnt_ok, upd_same, hs, (show 1 ≤ 4 by decide), (show 4 ≤ 8 by decide), by decide, by decide, fun F1 G1 v k1 j1 => ?_⟩
    refine ⟨_, rfl, _, rfl, _, rfl, F1, .ref D, b, cntM, 3, 4, [3, n % 3, n / 3 % 3, n / 9 % 3], 0, -1, rfl, k1.fh, Is.up (Is.up hm2 (sm_up nb)) k1.ff, cnt_ok, k1.ff _ _ upd_same, hs, (show 1 ≤ 4 by decide), (show 4 ≤ 4 by decide), by decide, by decide, fun F2 G2 u k2 j2 => ?_⟩
    refine eq_dat (a := thr cntM 3 4 [3, n % 3, n / 3 % 3, n / 9 % 3] 0 (decide ((-1 : Int) = 1))) (b := thr cntM 3 4 [3, n % 3, n / 3 % 3, n / 9 % 3] 0 (decide ((-1 : Int) = 1))) ((Is.up j1 k2.ff).up k2.fh) (Is.up j2 k2.fh) ?_
    rw [decide_eq_true rfl]
    exact q _ fun z o e => k2.fh z o (k2.ff z o (k1.ff z o (sm_up nb z o (sE z o e))))
theorem SqL.up {K : PySem.W.Frag} {H H' : Hp} {a : Addr} {xs : List V} (h : SqL K H a xs) (s : Same H H') : SqL K H' a xs :=
  h.elim (fun h => .inl (h.elim (fun h => .inl (s _ _ h)) fun ⟨o, h⟩ => .inr ⟨o, s _ _ h⟩)) fun h => .inr h
theorem gr_same {F H H1 : Hp} (f : Same F H) (s : Same H H1) : Gr mu0 F H F H1 := ⟨fun _ _ h => h, fun c o h => s _ _ (f _ _ h), fun _ _ h => .inl h, fun c o h _ => s _ _ h, fun c h => s.free h⟩
def sp_L_block : Sp := fun vs H Q _ => ∃ (F : Hp) (p : Addr) (S : Nat) (b : Int), vs = [.ref p, .int S] ∧ Same F H ∧ F p = none ∧ PuAt H p b ∧ b ≤ 800000 ∧ 1 ≤ S ∧ S ≤ 4 ∧
  ∀ (F' H' : Hp) (c : Addr) (s : List Int), Gr (muP p) F H F' H' → PuAt H' p (b + 10) → F' c = some (.tup (s.map V.int)) → SOk S s → 1 ≤ s.length → s.length ≤ 4 → Q (.ref c) H'
theorem ok_L_block (t : Tx K mg) : FnOk P w K mg base CX0 3 t.a_L_block t.fd_L_block ["_law_purse_here", "_law_signs"] sp_L_block := by
  refine t.F_L_block.ok sc_L_block (fun vs H Q E h => ?_) (fun cdv A outer s H vs Q E hr h => ?_)
  · obtain ⟨F, p, S, b, rfl, _⟩ := h
    rfl
  · obtain ⟨F, p, S, b, rfl, sF, fp, hp, hb, S1, S4, q⟩ := h
    refine ⟨_, (pss_one (ps_ret (pe_callTy (T := "tuple") call_tupQ (by rfl) t.n_tuple (by decide +kernel) (pa_cons (pe_lc (own := [("_law_k", 2)]) (g := gName 2) (tt := tYes) rfl sc_L_block.nd (pi_range1 (by rfl) t.n_range (pa_cons (pe_op op_add pe_int (pe_call (ok_L_draw t) (hr.mono (by decide)) (by rfl) t.m_L_draw t.F_L_draw.kp t.b_L_draw .nil pass0 (pa_cons (pv 0) (pa_cons pe_int pa_nil)))) pa_nil)) (blkOk_by (N := N_L_block) (sc := defScope s_L_block) (by decide +kernel)) (fun _ _ _ _ _ => (pg_name (i := 2) sc_L_block.nd rfl (by first | exact Or.inl rfl | exact Or.inr rfl))) (fun _ _ _ _ _ => pts_nil) (fun _ _ _ _ _ => (pe_call (ok_L_draw t) (hr.mono (by decide)) (by rfl) t.m_L_draw t.F_L_draw.kp t.b_L_draw .nil pass0 (pa_cons (pv 0) (pa_cons (pv 1) pa_nil))))) pa_nil)))), ?_⟩
    refine ⟨_, rfl, F, p, 4, b, rfl, sF, fp, hp, by omega, by decide, by decide, fun d1 H1 d10 d11 g1 hp1 => ⟨_, _, rfl, rfl, ?_⟩⟩
    have en : ((1 + d1).toNat : Int) = 1 + d1 := Int.toNat_of_nonneg (by omega)
    generalize hn : (1 + d1).toNat = n at en
    dsimp only
    rw [← en]
    refine ⟨(n : Int), rfl, by omega, by omega, fun D nD => lc_range (lo := 0) (n := ((n : Int)).toNat) (fun k G => ∃ (xs : List Int) (b5 : Int), Gr (muP p) F H F G ∧ PuAt G p b5 ∧ b5 ≤ b + 2 + 2 * k ∧ Ow H F G D (.lst (xs.map V.int)) ∧ xs.length = k ∧ SOk S xs)
      ⟨[], _, g1.own nD, hp1.ln nD, by omega, Ow.mk1 g1 nD, rfl, fun x z => (nomatch z)⟩ ?_ ?_⟩
    · rintro k G hk ⟨xs, b5, g, hpG, hb5, w, lx, sx⟩
      have pD : p ≠ D := fun e => by have := w.n; rw [← e] at this; obtain ⟨o, ho⟩ := hp.ex; rw [ho] at this; cases this
      refine ⟨rfl, yes ⟨_, rfl, _, rfl, F, p, (S : Int), b5, rfl, g.fh, fp, hpG, by omega, by omega, by omega, fun d2 G4 d20 d21 k5 hp8 => ?_⟩⟩
      have w5 := w.call k5 (Ne.symm pD)
      refine ⟨xs.map V.int, w5.h, by rw [List.length_map]; exact lt_size (by omega), xs ++ [d2], _, (g.trans k5).set w5.f (.inl w5.n), hp8.off pD, by omega, ?_, by rw [List.length_append, lx]; rfl, sx.app fun x z => by rw [List.mem_singleton.mp z]; omega⟩
      rw [List.map_append]; exact w5.set
    · rintro G ⟨xs, b5, g, hpG, hb5, w, lx, sx⟩
      have lx : xs.length = n := by rw [lx]; exact Int.toNat_natCast _
      have pD : p ≠ D := fun e => by have := w.n; rw [← e] at this; obtain ⟨o, ho⟩ := hp.ex; rw [ho] at this; cases this
      refine ⟨D, _, rfl, .inl ⟨SqL.of w.h, fun c nc => ?_⟩⟩
      exact q _ _ c xs (g.new nc) ((hpG.ln nc).le (by omega)) upd_same sx (by omega) (by omega)
def sp_law (K : PySem.W.Frag) : Sp := fun vs H Q _ => ∃ (a : Addr) (ns : List Int), vs = [.ref a] ∧ SqL K H a (ns.map V.int) ∧ ns.length ≤ 63 ∧ ∀ H', Q (.bl true) H'
theorem ok_law (t : Tx K mg) : FnOk P w K mg base CX0 6 t.a_law t.fd_law ["_law_script"] (sp_law K) := by
  refine t.F_law.ok sc_law (fun vs H Q E h => ?_) (fun cdv A outer s H vs Q E hr h => ?_)
  · obtain ⟨a, ns, rfl, _⟩ := h
    rfl
  · obtain ⟨l, ns, rfl, hS, hn, q⟩ := h
    refine ⟨_, (pss_cons (ps_for PassesOwn.never rfl (pi_range1 (by rfl) t.n_range (pa_cons pe_int pa_nil)) (pg_name (i := 1) sc_law.nd rfl (by first | exact Or.inl rfl | exact Or.inr rfl)) (pss_cons (ps_set (i := 2) sc_law.nd rfl (by first | exact Or.inl rfl | exact Or.inr rfl) (pe_call (ok_L_purse t) (hr.mono (by decide)) (by rfl) t.m_L_purse t.F_L_purse.kp t.b_L_purse .nil pass0 (pa_cons (pv 0) (pa_cons (pv 1) pa_nil))))
      (pss_cons (ps_if (PW.pt (pw_or (pt_not (pt_val (pe_call (ok_L_counted t) (hr.mono (by decide)) (by rfl) t.m_L_counted t.F_L_counted.kp t.b_L_counted .nil pass0 (pa_cons pe_int pa_nil)))) (pw_or1 (pt_not (pt_val (pe_call (ok_L_counted t) (hr.mono (by decide)) (by rfl) t.m_L_counted t.F_L_counted.kp t.b_L_counted .nil pass0 (pa_cons (pe_call (ok_L_draw t) (hr.mono (by decide)) (by rfl) t.m_L_draw t.F_L_draw.kp t.b_L_draw .nil pass0 (pa_cons (pv 2) (pa_cons pe_int pa_nil))) pa_nil))))))) (pss_one (ps_ret pe_bl)) pss_nil)
      (pss_cons (ps_set (i := 3) sc_law.nd rfl (by first | exact Or.inl rfl | exact Or.inr rfl) (pe_call (ok_L_machine t) (hr.mono (by decide)) (by rfl) t.m_L_machine t.F_L_machine.kp t.b_L_machine .nil pass0 (pa_cons (pv 2) pa_nil)))
      (pss_cons (ps_set (i := 4) sc_law.nd rfl (by first | exact Or.inl rfl | exact Or.inr rfl) (pe_call (ok_L_kept t) (hr.mono (by decide)) (by rfl) t.m_L_kept t.F_L_kept.kp t.b_L_kept .nil pass0 (pa_cons (pv 3) pa_nil)))
      (pss_one (ps_for PassesOwn.never rfl (pi_range1 (by rfl) t.n_range (pa_cons pe_int pa_nil)) (pg_name (i := 5) sc_law.nd rfl (by first | exact Or.inl rfl | exact Or.inr rfl)) (pss_cons (ps_set (i := 6) sc_law.nd rfl (by first | exact Or.inl rfl | exact Or.inr rfl) (pe_call (ok_L_block t) (hr.mono (by decide)) (by rfl) t.m_L_block t.F_L_block.kp t.b_L_block .nil pass0 (pa_cons (pv 2) (pa_cons (pe_callB (id := "len") call_lenQ (by rfl) t.n_len (by decide +kernel) (pa_cons (pe_ix ix_list (pv 3) pe_int (fun _ _ => rfl)) pa_nil)) pa_nil))))
      (pss_cons (ps_set (i := 7) sc_law.nd rfl (by first | exact Or.inl rfl | exact Or.inr rfl) (pe_call (ok_L_draw t) (hr.mono (by decide)) (by rfl) t.m_L_draw t.F_L_draw.kp t.b_L_draw .nil pass0 (pa_cons (pv 2) (pa_cons (pe_callB (id := "len") call_lenQ (by rfl) t.n_len (by decide +kernel) (pa_cons (pv 3) pa_nil)) pa_nil))))
      (pss_cons (ps_set (i := 8) sc_law.nd rfl (by first | exact Or.inl rfl | exact Or.inr rfl) (pe_op op_sub (pe_op op_mul pe_int (pe_call (ok_L_draw t) (hr.mono (by decide)) (by rfl) t.m_L_draw t.F_L_draw.kp t.b_L_draw .nil pass0 (pa_cons (pv 2) (pa_cons pe_int pa_nil)))) pe_int))
      (pss_cons (ps_set (i := 9) sc_law.nd rfl (by first | exact Or.inl rfl | exact Or.inr rfl) (pe_call (ok_L_through t) (hr.mono (by decide)) (by rfl) t.m_L_through t.F_L_through.kp t.b_L_through .nil pass0 (pa_cons (pv 3) (pa_cons (pv 6) (pa_cons (pv 7) (pa_cons (pv 8) pa_nil))))))
      (pss_one (ps_for PassesOwn.never rfl (pi_range1 (by rfl) t.n_range (pa_cons pe_int pa_nil)) (pg_name (i := 10) sc_law.nd rfl (by first | exact Or.inl rfl | exact Or.inr rfl)) (pss_cons (ps_set (i := 11) sc_law.nd rfl (by first | exact Or.inl rfl | exact Or.inr rfl) (pe_call (ok_through t) (hr.mono (by decide)) (by rfl) t.m_through t.F_through.kp t.b_through .nil pass0 (pa_cons (pv 4) (pa_cons (pv 6) (pa_cons (pv 7) (pa_cons (pv 8) pa_nil))))))
      (pss_one (ps_if (PW.pt (pw_or (pt_not (pt_val (pe_call (ok_L_kinds t) (hr.mono (by decide)) (by rfl) t.m_L_kinds t.F_L_kinds.kp t.b_L_kinds .nil pass0 (pa_cons (pv 11) pa_nil)))) (pw_or (pt_cmpR (op_neD hr.units) (pv 11) (pv 9) (nomark _)) (pw_or1 (pt_cmpR (op_neD hr.units) (pv 4) (pv 3) (nomark _)))))) (pss_one (ps_ret pe_bl)) pss_nil))))))))))))))))
      (pss_one (ps_ret pe_bl))), ?_⟩
    refine ⟨8, rfl, by decide, by decide, for_range (lo := 0) (n := 8) (fun i σ G => ∃ (v1 v2 v3 v4 v5 v6 v7 v8 v9 v10 v11 : Option V), σ = [some (.ref l), v1, v2, v3, v4, v5, v6, v7, v8, v9, v10, v11] ∧ Same H G)
      ⟨none, none, none, none, none, none, none, none, none, none, none, rfl, Same.refl H⟩ ?_ ?_⟩
    · rintro i σ G hi ⟨v1, v2, v3, v4, v5, v6, v7, v8, v9, v10, v11, rfl, sG⟩
      have ei : ((0 : Int) + (i : Int)) = (i : Int) := by omega
      rw [ei]
      refine ⟨_, rfl, _, rfl, l, ns, i, rfl, SqL.up hS sG, by omega, fun p G1 s1 np hp1 => ?_⟩
      -- the machine that counts, twice
      refine ⟨0, rfl, fun G2 s2 => ⟨_, rfl, ifF rfl ?_⟩⟩
      have gc := gr_same (F := G) s1 s2
      have hp2 := hp1.gr gc (fun z => z)
      refine ⟨_, rfl, G, p, 27, 10000, rfl, gc.fh, np, hp2, by decide, by decide, by decide, fun d G3 d0 d1 g3 hp3 => ⟨d, rfl, fun G4 s4 => ⟨_, rfl, ifF rfl ?_⟩⟩⟩
      have gd := gc.of0.trans (g3.trans (gr_same g3.fh s4).of0)
      have hp4 := hp3.gr (gr_same (F := G) g3.fh s4) (fun z => z)
      refine ⟨_, rfl, G, p, _, rfl, gd.fh, np, hp4, by decide, fun F2 G5 m M R S g5 hp5 hM hm => ?_⟩
      have r1 := hM.r1
      have r4 := hM.r4
      have S2 := hM.s2
      have S4 := hM.s4
      refine ⟨_, rfl, F2, m, M, rfl, g5.fh, hm, by rw [hM.len]; omega, fun F3 G6 hd g6 hhd => ?_⟩
      have g23 := (gd.trans g5).trans g6.of0
      have hm3 := hm.up g6.ff
      have hp6 := hp5.gr g6 (fun z => z)
      clear g5 g6 hp5 hm hp4
      refine ⟨10, rfl, by decide, by decide, for_range (lo := 0) (n := 10) (fun j σ T => ∃ (F4 : Hp) (b4 : Int) (v5 v6 v7 v8 v9 v10 v11 : Option V), σ = [some (.ref l), some (.int i), some (.ref p), some m, some hd, v5, v6, v7, v8, v9, v10, v11] ∧ Gr (muP p) G G1 F4 T ∧ PuAt T p b4 ∧ b4 ≤ 12000 + 50 * j ∧ Is F4 m M ∧ Is F4 hd M)
        ⟨F3, _, v5, v6, v7, v8, v9, v10, v11, rfl, g23, hp6, by omega, hm3, hhd⟩ ?_ ?_⟩
      · rintro j σ T hj ⟨F4, b4, v5, v6, v7, v8, v9, v10, v11, rfl, g, hp, hb4, hm, hhd⟩
        have fp := hp1.f np g
        obtain ⟨am, rs, rfl, ham, hrs⟩ := id hm
        have lrs : rs.length = R := hrs.1.trans hM.len
        have l0 : 0 < rs.length := by omega
        obtain ⟨row0, hM0, a0, es0, er0, ha0, hes0⟩ := hrs.get' (List.getElem?_eq_getElem l0)
        have ls0 : es0.length = S := hes0.1.trans (hM.row _ (List.mem_of_getElem? hM0))
        have hx0 : rs[0]? = some (.ref a0) := (List.getElem?_eq_getElem l0).trans (congrArg some er0)
        -- the block
        refine ⟨_, rfl, _, rfl, am, rs, _, _, rfl, rfl, SqL.of (g.fh _ _ ham), atI_nat (j := 0) hx0, a0, es0, rfl, .inl (SqL.of (g.fh _ _ ha0)), F4, p, es0.length, b4, rfl, g.fh, fp, hp, by omega, by omega, by omega, fun F5 T5 b xs k5 hp8 hb sx lx1 lx4 => ?_⟩
        rw [ls0] at sx
        have fp5 := hp.f fp k5
        -- the row, the side
        refine ⟨_, rfl, _, rfl, am, rs, rfl, .inl (SqL.of (k5.fh _ _ (k5.ff _ _ ham))), F5, p, (rs.length : Int), _, rfl, k5.fh, fp5, hp8, by omega, by omega, by omega, fun row T6 r0 rr k6 hp9 => ?_⟩
        refine ⟨_, rfl, F5, p, 2, _, rfl, k6.fh, fp5, hp9, by omega, by decide, by decide, fun d3 T7 d30 d31 k7 hp10 => ⟨_, _, rfl, rfl, .inl ⟨by decide, by decide⟩, _, _, rfl, rfl, ?_⟩⟩
        dsimp only
        generalize 2 * d3 - 1 = side
        have k8 := (k5.trans k6).trans k7
        have hm8 := hm.up k8.ff
        have hhd8 := hhd.up k8.ff
        refine ⟨_, rfl, _, rfl, _, rfl, _, rfl, F5, .ref am, b, M, R, S, xs, row, side, rfl, k8.fh, hm8, hM, hb, sx, lx1, lx4, r0, by omega, fun F6 T8 v i6 i6' => ?_⟩
        have k9 := k8.trans i6.of0
        have gg := g.trans k9
        have wok : ∀ w s r y n, thr M R S xs row (decide (side = 1)) = .fin w s r y n → (w = tEnd ∨ w = tOut) ∧ s.length ≤ 100 := fun w s r y n e => by
          obtain ⟨i, c, d, t1, t2, _⟩ := thr_fin e
          have ok0 := st0_ok (R := R) (row := row) (far := decide (side = 1)) sx lx1 r0 (by omega)
          have okc := tj_ok hM i _ c ok0 t1
          have lc := okc.len
          cases ee : entAt M c.r (sgn c) with
          | emp => rw [bn_emp ee] at t2; cases t2; exact ⟨.inl rfl, by omega⟩
          | go pu wa to =>
            by_cases z : 0 ≤ c.p + wa ∧ c.p + wa < (c.s.length : Int)
            · rw [bn_go ee z] at t2; cases t2
            · rw [bn_out ee z] at t2; cases t2; exact ⟨.inr rfl, by rw [List.length_set]; omega⟩
        refine ⟨2, rfl, by decide, by decide, for_range (lo := 0) (n := 2) (fun e σ T => ∃ (F7 : Hp) (v10 v11 : Option V), σ = [some (.ref l), some (.int i), some (.ref p), some (.ref am), some hd, some (.int (0 + j)), some (.ref b), some (.int row), some (.int side), some v, v10, v11] ∧ Gr (muP p) G G1 F7 T ∧ Gr mu0 F6 T8 F7 T)
          ⟨F6, v10, v11, rfl, gg, Gr.refl gg.fh⟩ ?_ ?_⟩
        · rintro e σ U he ⟨F7, v10, v11, rfl, gu, ku⟩
          have hb7 := ku.ff _ _ (i6.ff _ _ hb)
          have hm7 := (hm8.up i6.ff).up ku.ff
          have hhd7 := (hhd8.up i6.ff).up ku.ff
          refine ⟨_, rfl, _, rfl, _, rfl, _, rfl, F7, hd, b, M, R, S, xs, row, side, rfl, gu.fh, hhd7, hM, hb7, sx, lx1, by omega, r0, by omega, fun F8 U8 u i8 i8' => ?_⟩
          refine ⟨_, rfl, F8, u, thr M R S xs row (decide (side = 1)), rfl, i8.fh, i8', wok, fun U9 i9 => ⟨_, rfl, ifF rfl ?_⟩⟩
          have i10 := i8.trans i9
          refine ⟨_, rfl, _, rfl, ne_dat (a := thr M R S xs row (decide (side = 1))) (b := thr M R S xs row (decide (side = 1))) (i8'.up i9.fh) (((i6'.up ku.ff).up i8.ff).up i9.fh) ⟨_, rfl, ifF (by rw [decide_eq_true rfl]; rfl) ?_⟩⟩
          refine ⟨_, rfl, _, rfl, ne_dat (a := M) (b := M) ((hhd7.up i8.ff).up i9.fh) ((hm7.up i8.ff).up i9.fh) ⟨_, rfl, ifF (by rw [decide_eq_true rfl]; rfl) ?_⟩⟩
          exact ⟨F8, _, _, rfl, gu.trans i10.of0, ku.trans i10⟩
        · rintro σ U ⟨F7, v10, v11, rfl, gu, ku⟩
          exact ⟨F7, _, _, _, _, _, _, _, _, rfl, gu, (hp10.gr i6 (fun z => z)).gr ku (fun z => z), by omega, (hm8.up i6.ff).up ku.ff, (hhd8.up i6.ff).up ku.ff⟩
      · rintro σ T ⟨F4, b4, v5, v6, v7, v8, v9, v10, v11, rfl, g, _⟩
        exact ⟨_, _, _, _, _, _, _, _, _, _, _, rfl, fun c o h => g.fh c o (g.ff c o (sG c o h))⟩
    · rintro σ G _
      exact q G

end
def all_tx {K : PySem.W.Frag} {h : Heap} {mg : Str → Option Value} {a_L_at a_L_purse a_L_mixed a_L_draw a_L_entry a_L_machine a_L_kept a_L_block a_L_through a_is_entry a_is_machine a_must_machine a_most_setups a_through a_L_counted a_L_whole a_L_kinds a_law C_NoMachine : Addr} {od_L_at an_L_at od_L_purse an_L_purse od_L_mixed an_L_mixed od_L_draw an_L_draw od_L_entry an_L_entry od_L_machine an_L_machine od_L_kept an_L_kept od_L_block an_L_block od_L_through an_L_through od_is_entry an_is_entry od_is_machine an_is_machine od_must_machine an_must_machine od_most_setups an_most_setups od_through an_through od_L_counted an_L_counted od_L_whole an_L_whole od_L_kinds an_L_kinds od_law an_law : Option Addr} {sl_L_at sl_L_purse sl_L_mixed sl_L_draw sl_L_entry sl_L_machine sl_L_kept sl_L_block sl_L_through sl_is_entry sl_is_machine sl_must_machine sl_most_setups sl_through sl_L_counted sl_L_whole sl_L_kinds sl_law : Array (Option Value)} {oc_L_at kV_L_at dc_L_at pm_L_at cd_L_at ct_L_at oc_L_purse kV_L_purse dc_L_purse pm_L_purse cd_L_purse ct_L_purse oc_L_mixed kV_L_mixed dc_L_mixed pm_L_mixed cd_L_mixed ct_L_mixed oc_L_draw kV_L_draw dc_L_draw pm_L_draw cd_L_draw ct_L_draw oc_L_entry kV_L_entry dc_L_entry pm_L_entry cd_L_entry ct_L_entry oc_L_machine kV_L_machine dc_L_machine pm_L_machine cd_L_machine ct_L_machine oc_L_kept kV_L_kept dc_L_kept pm_L_kept cd_L_kept ct_L_kept oc_L_block kV_L_block dc_L_block pm_L_block cd_L_block ct_L_block oc_L_through kV_L_through dc_L_through pm_L_through cd_L_through ct_L_through oc_is_entry kV_is_entry dc_is_entry pm_is_entry cd_is_entry ct_is_entry oc_is_machine kV_is_machine dc_is_machine pm_is_machine cd_is_machine ct_is_machine oc_must_machine kV_must_machine dc_must_machine pm_must_machine cd_must_machine ct_must_machine oc_most_setups kV_most_setups dc_most_setups pm_most_setups cd_most_setups ct_most_setups oc_through kV_through dc_through pm_through cd_through ct_through oc_L_counted kV_L_counted dc_L_counted pm_L_counted cd_L_counted ct_L_counted oc_L_whole kV_L_whole dc_L_whole pm_L_whole cd_L_whole ct_L_whole oc_L_kinds kV_L_kinds dc_L_kinds pm_L_kinds cd_L_kinds ct_L_kinds oc_law kV_law dc_law pm_law cd_law ct_law : Value} {tk_MOST_ROWS tk_MOST_SIGNS : Tok} (X : K.In h) (G : h.Ns mainGlobals mg)
    (n_NoMachine : PySem.W.nsIn K mainGlobals "NoMachine" = some (some (.ref C_NoMachine)))
    (n_L_at : PySem.W.nsIn K mainGlobals "_law_at" = some (some (.ref a_L_at)))
    (l_L_at : K.lookup a_L_at = some ⟨oc_L_at, od_L_at, .func (PySem.W.fnOf "_law_at" "_law_at" (defArgs s_L_at) (defBody s_L_at) (defScope s_L_at) .none kV_L_at dc_L_at pm_L_at an_L_at cd_L_at ct_L_at), sl_L_at⟩)
    (c_L_at : PySem.W.codeIn K cd_L_at "_law_at" = true)
    (k_L_at : PySem.W.keepIn K (.ref a_L_at) = true)
    (n_L_purse : PySem.W.nsIn K mainGlobals "_law_purse" = some (some (.ref a_L_purse)))
    (l_L_purse : K.lookup a_L_purse = some ⟨oc_L_purse, od_L_purse, .func (PySem.W.fnOf "_law_purse" "_law_purse" (defArgs s_L_purse) (defBody s_L_purse) (defScope s_L_purse) .none kV_L_purse dc_L_purse pm_L_purse an_L_purse cd_L_purse ct_L_purse), sl_L_purse⟩)
    (c_L_purse : PySem.W.codeIn K cd_L_purse "_law_purse" = true)
    (k_L_purse : PySem.W.keepIn K (.ref a_L_purse) = true)
    (n_L_mixed : PySem.W.nsIn K mainGlobals "_law_mixed" = some (some (.ref a_L_mixed)))
    (l_L_mixed : K.lookup a_L_mixed = some ⟨oc_L_mixed, od_L_mixed, .func (PySem.W.fnOf "_law_mixed" "_law_mixed" (defArgs s_L_mixed) (defBody s_L_mixed) (defScope s_L_mixed) .none kV_L_mixed dc_L_mixed pm_L_mixed an_L_mixed cd_L_mixed ct_L_mixed), sl_L_mixed⟩)
    (c_L_mixed : PySem.W.codeIn K cd_L_mixed "_law_mixed" = true)
    (k_L_mixed : PySem.W.keepIn K (.ref a_L_mixed) = true)
    (n_L_draw : PySem.W.nsIn K mainGlobals "_law_draw" = some (some (.ref a_L_draw)))
    (l_L_draw : K.lookup a_L_draw = some ⟨oc_L_draw, od_L_draw, .func (PySem.W.fnOf "_law_draw" "_law_draw" (defArgs s_L_draw) (defBody s_L_draw) (defScope s_L_draw) .none kV_L_draw dc_L_draw pm_L_draw an_L_draw cd_L_draw ct_L_draw), sl_L_draw⟩)
    (c_L_draw : PySem.W.codeIn K cd_L_draw "_law_draw" = true)
    (k_L_draw : PySem.W.keepIn K (.ref a_L_draw) = true)
    (n_L_entry : PySem.W.nsIn K mainGlobals "_law_entry" = some (some (.ref a_L_entry)))
    (l_L_entry : K.lookup a_L_entry = some ⟨oc_L_entry, od_L_entry, .func (PySem.W.fnOf "_law_entry" "_law_entry" (defArgs s_L_entry) (defBody s_L_entry) (defScope s_L_entry) .none kV_L_entry dc_L_entry pm_L_entry an_L_entry cd_L_entry ct_L_entry), sl_L_entry⟩)
    (c_L_entry : PySem.W.codeIn K cd_L_entry "_law_entry" = true)
    (k_L_entry : PySem.W.keepIn K (.ref a_L_entry) = true)
    (n_L_machine : PySem.W.nsIn K mainGlobals "_law_machine" = some (some (.ref a_L_machine)))
    (l_L_machine : K.lookup a_L_machine = some ⟨oc_L_machine, od_L_machine, .func (PySem.W.fnOf "_law_machine" "_law_machine" (defArgs s_L_machine) (defBody s_L_machine) (defScope s_L_machine) .none kV_L_machine dc_L_machine pm_L_machine an_L_machine cd_L_machine ct_L_machine), sl_L_machine⟩)
    (c_L_machine : PySem.W.codeIn K cd_L_machine "_law_machine" = true)
    (k_L_machine : PySem.W.keepIn K (.ref a_L_machine) = true)
    (n_L_kept : PySem.W.nsIn K mainGlobals "_law_kept" = some (some (.ref a_L_kept)))
    (l_L_kept : K.lookup a_L_kept = some ⟨oc_L_kept, od_L_kept, .func (PySem.W.fnOf "_law_kept" "_law_kept" (defArgs s_L_kept) (defBody s_L_kept) (defScope s_L_kept) .none kV_L_kept dc_L_kept pm_L_kept an_L_kept cd_L_kept ct_L_kept), sl_L_kept⟩)
    (c_L_kept : PySem.W.codeIn K cd_L_kept "_law_kept" = true)
    (k_L_kept : PySem.W.keepIn K (.ref a_L_kept) = true)
    (n_L_block : PySem.W.nsIn K mainGlobals "_law_block" = some (some (.ref a_L_block)))
    (l_L_block : K.lookup a_L_block = some ⟨oc_L_block, od_L_block, .func (PySem.W.fnOf "_law_block" "_law_block" (defArgs s_L_block) (defBody s_L_block) (defScope s_L_block) .none kV_L_block dc_L_block pm_L_block an_L_block cd_L_block ct_L_block), sl_L_block⟩)
    (c_L_block : PySem.W.codeIn K cd_L_block "_law_block" = true)
    (k_L_block : PySem.W.keepIn K (.ref a_L_block) = true)
    (n_L_through : PySem.W.nsIn K mainGlobals "_law_through" = some (some (.ref a_L_through)))
    (l_L_through : K.lookup a_L_through = some ⟨oc_L_through, od_L_through, .func (PySem.W.fnOf "_law_through" "_law_through" (defArgs s_L_through) (defBody s_L_through) (defScope s_L_through) .none kV_L_through dc_L_through pm_L_through an_L_through cd_L_through ct_L_through), sl_L_through⟩)
    (c_L_through : PySem.W.codeIn K cd_L_through "_law_through" = true)
    (k_L_through : PySem.W.keepIn K (.ref a_L_through) = true)
    (n_is_entry : PySem.W.nsIn K mainGlobals "is_entry" = some (some (.ref a_is_entry)))
    (l_is_entry : K.lookup a_is_entry = some ⟨oc_is_entry, od_is_entry, .func (PySem.W.fnOf "is_entry" "is_entry" (defArgs s_is_entry) (defBody s_is_entry) (defScope s_is_entry) .none kV_is_entry dc_is_entry pm_is_entry an_is_entry cd_is_entry ct_is_entry), sl_is_entry⟩)
    (c_is_entry : PySem.W.codeIn K cd_is_entry "is_entry" = true)
    (k_is_entry : PySem.W.keepIn K (.ref a_is_entry) = true)
    (n_is_machine : PySem.W.nsIn K mainGlobals "is_machine" = some (some (.ref a_is_machine)))
    (l_is_machine : K.lookup a_is_machine = some ⟨oc_is_machine, od_is_machine, .func (PySem.W.fnOf "is_machine" "is_machine" (defArgs s_is_machine) (defBody s_is_machine) (defScope s_is_machine) .none kV_is_machine dc_is_machine pm_is_machine an_is_machine cd_is_machine ct_is_machine), sl_is_machine⟩)
    (c_is_machine : PySem.W.codeIn K cd_is_machine "is_machine" = true)
    (k_is_machine : PySem.W.keepIn K (.ref a_is_machine) = true)
    (n_must_machine : PySem.W.nsIn K mainGlobals "must_machine" = some (some (.ref a_must_machine)))
    (l_must_machine : K.lookup a_must_machine = some ⟨oc_must_machine, od_must_machine, .func (PySem.W.fnOf "must_machine" "must_machine" (defArgs s_must_machine) (defBody s_must_machine) (defScope s_must_machine) .none kV_must_machine dc_must_machine pm_must_machine an_must_machine cd_must_machine ct_must_machine), sl_must_machine⟩)
    (c_must_machine : PySem.W.codeIn K cd_must_machine "must_machine" = true)
    (k_must_machine : PySem.W.keepIn K (.ref a_must_machine) = true)
    (n_most_setups : PySem.W.nsIn K mainGlobals "most_setups" = some (some (.ref a_most_setups)))
    (l_most_setups : K.lookup a_most_setups = some ⟨oc_most_setups, od_most_setups, .func (PySem.W.fnOf "most_setups" "most_setups" (defArgs s_most_setups) (defBody s_most_setups) (defScope s_most_setups) .none kV_most_setups dc_most_setups pm_most_setups an_most_setups cd_most_setups ct_most_setups), sl_most_setups⟩)
    (c_most_setups : PySem.W.codeIn K cd_most_setups "most_setups" = true)
    (k_most_setups : PySem.W.keepIn K (.ref a_most_setups) = true)
    (n_through : PySem.W.nsIn K mainGlobals "through" = some (some (.ref a_through)))
    (l_through : K.lookup a_through = some ⟨oc_through, od_through, .func (PySem.W.fnOf "through" "through" (defArgs s_through) (defBody s_through) (defScope s_through) .none kV_through dc_through pm_through an_through cd_through ct_through), sl_through⟩)
    (c_through : PySem.W.codeIn K cd_through "through" = true)
    (k_through : PySem.W.keepIn K (.ref a_through) = true)
    (n_L_counted : PySem.W.nsIn K mainGlobals "_law_counted" = some (some (.ref a_L_counted)))
    (l_L_counted : K.lookup a_L_counted = some ⟨oc_L_counted, od_L_counted, .func (PySem.W.fnOf "_law_counted" "_law_counted" (defArgs s_L_counted) (defBody s_L_counted) (defScope s_L_counted) .none kV_L_counted dc_L_counted pm_L_counted an_L_counted cd_L_counted ct_L_counted), sl_L_counted⟩)
    (c_L_counted : PySem.W.codeIn K cd_L_counted "_law_counted" = true)
    (k_L_counted : PySem.W.keepIn K (.ref a_L_counted) = true)
    (n_L_whole : PySem.W.nsIn K mainGlobals "_law_whole" = some (some (.ref a_L_whole)))
    (l_L_whole : K.lookup a_L_whole = some ⟨oc_L_whole, od_L_whole, .func (PySem.W.fnOf "_law_whole" "_law_whole" (defArgs s_L_whole) (defBody s_L_whole) (defScope s_L_whole) .none kV_L_whole dc_L_whole pm_L_whole an_L_whole cd_L_whole ct_L_whole), sl_L_whole⟩)
    (c_L_whole : PySem.W.codeIn K cd_L_whole "_law_whole" = true)
    (k_L_whole : PySem.W.keepIn K (.ref a_L_whole) = true)
    (n_L_kinds : PySem.W.nsIn K mainGlobals "_law_kinds" = some (some (.ref a_L_kinds)))
    (l_L_kinds : K.lookup a_L_kinds = some ⟨oc_L_kinds, od_L_kinds, .func (PySem.W.fnOf "_law_kinds" "_law_kinds" (defArgs s_L_kinds) (defBody s_L_kinds) (defScope s_L_kinds) .none kV_L_kinds dc_L_kinds pm_L_kinds an_L_kinds cd_L_kinds ct_L_kinds), sl_L_kinds⟩)
    (c_L_kinds : PySem.W.codeIn K cd_L_kinds "_law_kinds" = true)
    (k_L_kinds : PySem.W.keepIn K (.ref a_L_kinds) = true)
    (n_law : PySem.W.nsIn K mainGlobals "law" = some (some (.ref a_law)))
    (l_law : K.lookup a_law = some ⟨oc_law, od_law, .func (PySem.W.fnOf "law" "law" (defArgs s_law) (defBody s_law) (defScope s_law) .none kV_law dc_law pm_law an_law cd_law ct_law), sl_law⟩)
    (c_law : PySem.W.codeIn K cd_law "law" = true)
    (k_law : PySem.W.keepIn K (.ref a_law) = true)
    (n_MOST_ROWS : PySem.W.nsIn K mainGlobals "MOST_ROWS" = some (some (.int 4 tk_MOST_ROWS)))
    (n_MOST_SIGNS : PySem.W.nsIn K mainGlobals "MOST_SIGNS" = some (some (.int 4 tk_MOST_SIGNS)))
    (z_len : PySem.W.nsIn K mainGlobals "len" = some none)
    (z_max : PySem.W.nsIn K mainGlobals "max" = some none)
    (z_int : PySem.W.nsIn K mainGlobals "int" = some none)
    (z_range : PySem.W.nsIn K mainGlobals "range" = some none)
    (z_list : PySem.W.nsIn K mainGlobals "list" = some none)
    (z_tuple : PySem.W.nsIn K mainGlobals "tuple" = some none)
    (z_all : PySem.W.nsIn K mainGlobals "all" = some none)
    (z_isinstance : PySem.W.nsIn K mainGlobals "isinstance" = some none)
    (z_bool : PySem.W.nsIn K mainGlobals "bool" = some none) : Tx K mg where
  a_L_at := a_L_at
  fd_L_at := PySem.W.fnOf "_law_at" "_law_at" (defArgs s_L_at) (defBody s_L_at) (defScope s_L_at) .none kV_L_at dc_L_at pm_L_at an_L_at cd_L_at ct_L_at
  F_L_at := fun_mk l_L_at c_L_at k_L_at
  b_L_at := (fun_mk (st := s_L_at) l_L_at c_L_at k_L_at).binds (ps := ["_law_script", "_law_k"]) fun _ _ _ _ _ _ us hl => match us, hl with | [_, _], _ => rfl
  m_L_at := PySem.W.mg_of X G n_L_at
  a_L_purse := a_L_purse
  fd_L_purse := PySem.W.fnOf "_law_purse" "_law_purse" (defArgs s_L_purse) (defBody s_L_purse) (defScope s_L_purse) .none kV_L_purse dc_L_purse pm_L_purse an_L_purse cd_L_purse ct_L_purse
  F_L_purse := fun_mk l_L_purse c_L_purse k_L_purse
  b_L_purse := (fun_mk (st := s_L_purse) l_L_purse c_L_purse k_L_purse).binds (ps := ["_law_script", "_law_at_here"]) fun _ _ _ _ _ _ us hl => match us, hl with | [_, _], _ => rfl
  m_L_purse := PySem.W.mg_of X G n_L_purse
  a_L_mixed := a_L_mixed
  fd_L_mixed := PySem.W.fnOf "_law_mixed" "_law_mixed" (defArgs s_L_mixed) (defBody s_L_mixed) (defScope s_L_mixed) .none kV_L_mixed dc_L_mixed pm_L_mixed an_L_mixed cd_L_mixed ct_L_mixed
  F_L_mixed := fun_mk l_L_mixed c_L_mixed k_L_mixed
  b_L_mixed := (fun_mk (st := s_L_mixed) l_L_mixed c_L_mixed k_L_mixed).binds (ps := ["_law_cell", "_law_k"]) fun _ _ _ _ _ _ us hl => match us, hl with | [_, _], _ => rfl
  m_L_mixed := PySem.W.mg_of X G n_L_mixed
  a_L_draw := a_L_draw
  fd_L_draw := PySem.W.fnOf "_law_draw" "_law_draw" (defArgs s_L_draw) (defBody s_L_draw) (defScope s_L_draw) .none kV_L_draw dc_L_draw pm_L_draw an_L_draw cd_L_draw ct_L_draw
  F_L_draw := fun_mk l_L_draw c_L_draw k_L_draw
  b_L_draw := (fun_mk (st := s_L_draw) l_L_draw c_L_draw k_L_draw).binds (ps := ["_law_purse_here", "_law_out_of"]) fun _ _ _ _ _ _ us hl => match us, hl with | [_, _], _ => rfl
  m_L_draw := PySem.W.mg_of X G n_L_draw
  a_L_entry := a_L_entry
  fd_L_entry := PySem.W.fnOf "_law_entry" "_law_entry" (defArgs s_L_entry) (defBody s_L_entry) (defScope s_L_entry) .none kV_L_entry dc_L_entry pm_L_entry an_L_entry cd_L_entry ct_L_entry
  F_L_entry := fun_mk l_L_entry c_L_entry k_L_entry
  b_L_entry := (fun_mk (st := s_L_entry) l_L_entry c_L_entry k_L_entry).binds (ps := ["_law_purse_here", "_law_rows", "_law_signs", "_law_row", "_law_few"]) fun _ _ _ _ _ _ us hl => match us, hl with | [_, _, _, _, _], _ => rfl
  m_L_entry := PySem.W.mg_of X G n_L_entry
  a_L_machine := a_L_machine
  fd_L_machine := PySem.W.fnOf "_law_machine" "_law_machine" (defArgs s_L_machine) (defBody s_L_machine) (defScope s_L_machine) .none kV_L_machine dc_L_machine pm_L_machine an_L_machine cd_L_machine ct_L_machine
  F_L_machine := fun_mk l_L_machine c_L_machine k_L_machine
  b_L_machine := (fun_mk (st := s_L_machine) l_L_machine c_L_machine k_L_machine).binds (ps := ["_law_purse_here"]) fun _ _ _ _ _ _ us hl => match us, hl with | [_], _ => rfl
  m_L_machine := PySem.W.mg_of X G n_L_machine
  a_L_kept := a_L_kept
  fd_L_kept := PySem.W.fnOf "_law_kept" "_law_kept" (defArgs s_L_kept) (defBody s_L_kept) (defScope s_L_kept) .none kV_L_kept dc_L_kept pm_L_kept an_L_kept cd_L_kept ct_L_kept
  F_L_kept := fun_mk l_L_kept c_L_kept k_L_kept
  b_L_kept := (fun_mk (st := s_L_kept) l_L_kept c_L_kept k_L_kept).binds (ps := ["_law_machine_here"]) fun _ _ _ _ _ _ us hl => match us, hl with | [_], _ => rfl
  m_L_kept := PySem.W.mg_of X G n_L_kept
  a_L_block := a_L_block
  fd_L_block := PySem.W.fnOf "_law_block" "_law_block" (defArgs s_L_block) (defBody s_L_block) (defScope s_L_block) .none kV_L_block dc_L_block pm_L_block an_L_block cd_L_block ct_L_block
  F_L_block := fun_mk l_L_block c_L_block k_L_block
  b_L_block := (fun_mk (st := s_L_block) l_L_block c_L_block k_L_block).binds (ps := ["_law_purse_here", "_law_signs"]) fun _ _ _ _ _ _ us hl => match us, hl with | [_, _], _ => rfl
  m_L_block := PySem.W.mg_of X G n_L_block
  a_L_through := a_L_through
  fd_L_through := PySem.W.fnOf "_law_through" "_law_through" (defArgs s_L_through) (defBody s_L_through) (defScope s_L_through) .none kV_L_through dc_L_through pm_L_through an_L_through cd_L_through ct_L_through
  F_L_through := fun_mk l_L_through c_L_through k_L_through
  b_L_through := (fun_mk (st := s_L_through) l_L_through c_L_through k_L_through).binds (ps := ["_law_machine_here", "_law_block_here", "_law_row", "_law_side"]) fun _ _ _ _ _ _ us hl => match us, hl with | [_, _, _, _], _ => rfl
  m_L_through := PySem.W.mg_of X G n_L_through
  a_is_entry := a_is_entry
  fd_is_entry := PySem.W.fnOf "is_entry" "is_entry" (defArgs s_is_entry) (defBody s_is_entry) (defScope s_is_entry) .none kV_is_entry dc_is_entry pm_is_entry an_is_entry cd_is_entry ct_is_entry
  F_is_entry := fun_mk l_is_entry c_is_entry k_is_entry
  b_is_entry := (fun_mk (st := s_is_entry) l_is_entry c_is_entry k_is_entry).binds (ps := ["entry", "rows", "signs"]) fun _ _ _ _ _ _ us hl => match us, hl with | [_, _, _], _ => rfl
  m_is_entry := PySem.W.mg_of X G n_is_entry
  a_is_machine := a_is_machine
  fd_is_machine := PySem.W.fnOf "is_machine" "is_machine" (defArgs s_is_machine) (defBody s_is_machine) (defScope s_is_machine) .none kV_is_machine dc_is_machine pm_is_machine an_is_machine cd_is_machine ct_is_machine
  F_is_machine := fun_mk l_is_machine c_is_machine k_is_machine
  b_is_machine := (fun_mk (st := s_is_machine) l_is_machine c_is_machine k_is_machine).binds (ps := ["machine"]) fun _ _ _ _ _ _ us hl => match us, hl with | [_], _ => rfl
  m_is_machine := PySem.W.mg_of X G n_is_machine
  a_must_machine := a_must_machine
  fd_must_machine := PySem.W.fnOf "must_machine" "must_machine" (defArgs s_must_machine) (defBody s_must_machine) (defScope s_must_machine) .none kV_must_machine dc_must_machine pm_must_machine an_must_machine cd_must_machine ct_must_machine
  F_must_machine := fun_mk l_must_machine c_must_machine k_must_machine
  b_must_machine := (fun_mk (st := s_must_machine) l_must_machine c_must_machine k_must_machine).binds (ps := ["machine"]) fun _ _ _ _ _ _ us hl => match us, hl with | [_], _ => rfl
  m_must_machine := PySem.W.mg_of X G n_must_machine
  a_most_setups := a_most_setups
  fd_most_setups := PySem.W.fnOf "most_setups" "most_setups" (defArgs s_most_setups) (defBody s_most_setups) (defScope s_most_setups) .none kV_most_setups dc_most_setups pm_most_setups an_most_setups cd_most_setups ct_most_setups
  F_most_setups := fun_mk l_most_setups c_most_setups k_most_setups
  b_most_setups := (fun_mk (st := s_most_setups) l_most_setups c_most_setups k_most_setups).binds (ps := ["machine", "block"]) fun _ _ _ _ _ _ us hl => match us, hl with | [_, _], _ => rfl
  m_most_setups := PySem.W.mg_of X G n_most_setups
  a_through := a_through
  fd_through := PySem.W.fnOf "through" "through" (defArgs s_through) (defBody s_through) (defScope s_through) .none kV_through dc_through pm_through an_through cd_through ct_through
  F_through := fun_mk l_through c_through k_through
  b_through := (fun_mk (st := s_through) l_through c_through k_through).binds (ps := ["machine", "block", "row", "side"]) fun _ _ _ _ _ _ us hl => match us, hl with | [_, _, _, _], _ => rfl
  m_through := PySem.W.mg_of X G n_through
  a_L_counted := a_L_counted
  fd_L_counted := PySem.W.fnOf "_law_counted" "_law_counted" (defArgs s_L_counted) (defBody s_L_counted) (defScope s_L_counted) .none kV_L_counted dc_L_counted pm_L_counted an_L_counted cd_L_counted ct_L_counted
  F_L_counted := fun_mk l_L_counted c_L_counted k_L_counted
  b_L_counted := (fun_mk (st := s_L_counted) l_L_counted c_L_counted k_L_counted).binds (ps := ["_law_number"]) fun _ _ _ _ _ _ us hl => match us, hl with | [_], _ => rfl
  m_L_counted := PySem.W.mg_of X G n_L_counted
  a_L_whole := a_L_whole
  fd_L_whole := PySem.W.fnOf "_law_whole" "_law_whole" (defArgs s_L_whole) (defBody s_L_whole) (defScope s_L_whole) .none kV_L_whole dc_L_whole pm_L_whole an_L_whole cd_L_whole ct_L_whole
  F_L_whole := fun_mk l_L_whole c_L_whole k_L_whole
  b_L_whole := (fun_mk (st := s_L_whole) l_L_whole c_L_whole k_L_whole).binds (ps := ["_law_found"]) fun _ _ _ _ _ _ us hl => match us, hl with | [_], _ => rfl
  m_L_whole := PySem.W.mg_of X G n_L_whole
  a_L_kinds := a_L_kinds
  fd_L_kinds := PySem.W.fnOf "_law_kinds" "_law_kinds" (defArgs s_L_kinds) (defBody s_L_kinds) (defScope s_L_kinds) .none kV_L_kinds dc_L_kinds pm_L_kinds an_L_kinds cd_L_kinds ct_L_kinds
  F_L_kinds := fun_mk l_L_kinds c_L_kinds k_L_kinds
  b_L_kinds := (fun_mk (st := s_L_kinds) l_L_kinds c_L_kinds k_L_kinds).binds (ps := ["_law_found"]) fun _ _ _ _ _ _ us hl => match us, hl with | [_], _ => rfl
  m_L_kinds := PySem.W.mg_of X G n_L_kinds
  a_law := a_law
  fd_law := PySem.W.fnOf "law" "law" (defArgs s_law) (defBody s_law) (defScope s_law) .none kV_law dc_law pm_law an_law cd_law ct_law
  F_law := fun_mk l_law c_law k_law
  b_law := (fun_mk (st := s_law) l_law c_law k_law).binds (ps := ["_law_script"]) fun _ _ _ _ _ _ us hl => match us, hl with | [_], _ => rfl
  m_law := PySem.W.mg_of X G n_law
  C_NoMachine := C_NoMachine
  m_NoMachine := PySem.W.mg_of X G n_NoMachine
  tk_MOST_ROWS := tk_MOST_ROWS
  m_MOST_ROWS := PySem.W.mg_of X G n_MOST_ROWS
  tk_MOST_SIGNS := tk_MOST_SIGNS
  m_MOST_SIGNS := PySem.W.mg_of X G n_MOST_SIGNS
  n_len := PySem.W.mg_none_of X G z_len
  n_max := PySem.W.mg_none_of X G z_max
  n_int := PySem.W.mg_none_of X G z_int
  n_range := PySem.W.mg_none_of X G z_range
  n_list := PySem.W.mg_none_of X G z_list
  n_tuple := PySem.W.mg_none_of X G z_tuple
  n_all := PySem.W.mg_none_of X G z_all
  n_isinstance := PySem.W.mg_none_of X G z_isinstance
  n_bool := PySem.W.mg_none_of X G z_bool
theorem all_mk {l : PySem.W.OpenLaw} {w : World} {K : PySem.W.Frag} {h : Heap} {mg : Str → Option Value} {fa : Addr} (X : K.In h) (G : h.Ns mainGlobals mg) (hfa : mg "law" = some (.ref fa)) (t : Tx K mg)
    (hb : ∃ (kV dc pm : Value) (an : Option Addr) (cd ct : Value), t.fd_law = PySem.W.fnOf "law" "law" (defArgs s_law) (defBody s_law) (defScope s_law) .none kV dc pm an cd ct) :
    ∃ fd : FuncData, (∀ (s : Shared) (v : Value), BindsTo s fd ⟨[v], []⟩ [("_law_script", v)]) ∧ ∀ base : Heap, K.In base → base.Ns mainGlobals mg → FnOk l.prog w K mg base CX0 6 fa fd ["_law_script"] (sp_law K) := by
  have e := hfa.symm.trans t.m_law
  cases e
  refine ⟨t.fd_law, fun s v => ?_, fun base _ _ => ok_law t⟩
  obtain ⟨kV, dc, pm, an, cd, ct, e⟩ := hb
  rw [e]
  exact .of_eq rfl
theorem walk {l : PySem.W.OpenLaw} {q : Program} {loose : List Str} {XP : (Str → Option Value) → Heap → Prop} {YP : World → Heap → Prop} {d : DefRec} {K : Params → PySem.W.Frag} (hn : l.most = some 63) (hdf : d.params.defaults = [])
    (hY : ∀ (w : World) (h : Heap), YP w h → (K w.params).In h)
    (F : ∀ (w : World) (mg : Str → Option Value) (fa : Addr) (h : Heap), (K w.params).In h → h.Ns mainGlobals mg → mg d.name = some (.ref fa) →
      ∃ fd : FuncData, (∀ (s : Shared) (u : Value), BindsTo s fd ⟨[u], []⟩ [("_law_script", u)]) ∧ ∀ base : Heap, (K w.params).In base → base.Ns mainGlobals mg → FnOk l.prog w (K w.params) mg base CX0 6 fa fd ["_law_script"] (sp_law (K w.params))) :
    PySem.W.WalkO q loose XP YP l.row.toRowW d [] (fun f vs => PySem.call f vs) :=
  L2.walk_of (n := 63) (k := 6) (x := "_law_script") (CX := fun _ => CX0) (sp := fun w => sp_law (K w.params)) hn (by decide) hdf ⟨rfl, by decide, by decide⟩ hY F (fun _ _ a ns hl _ hS => ⟨a, ns, rfl, hS, hl, fun _ => rfl⟩) fun _ _ _ _ _ z => z
theorem all_go {l : PySem.W.OpenLaw} {w : World} {K : PySem.W.Frag} {h : Heap} {mg : Str → Option Value} {fa : Addr} {a_L_at a_L_purse a_L_mixed a_L_draw a_L_entry a_L_machine a_L_kept a_L_block a_L_through a_is_entry a_is_machine a_must_machine a_most_setups a_through a_L_counted a_L_whole a_L_kinds a_law C_NoMachine : Addr} {od_L_at an_L_at od_L_purse an_L_purse od_L_mixed an_L_mixed od_L_draw an_L_draw od_L_entry an_L_entry od_L_machine an_L_machine od_L_kept an_L_kept od_L_block an_L_block od_L_through an_L_through od_is_entry an_is_entry od_is_machine an_is_machine od_must_machine an_must_machine od_most_setups an_most_setups od_through an_through od_L_counted an_L_counted od_L_whole an_L_whole od_L_kinds an_L_kinds od_law an_law : Option Addr} {sl_L_at sl_L_purse sl_L_mixed sl_L_draw sl_L_entry sl_L_machine sl_L_kept sl_L_block sl_L_through sl_is_entry sl_is_machine sl_must_machine sl_most_setups sl_through sl_L_counted sl_L_whole sl_L_kinds sl_law : Array (Option Value)} {oc_L_at kV_L_at dc_L_at pm_L_at cd_L_at ct_L_at oc_L_purse kV_L_purse dc_L_purse pm_L_purse cd_L_purse ct_L_purse oc_L_mixed kV_L_mixed dc_L_mixed pm_L_mixed cd_L_mixed ct_L_mixed oc_L_draw kV_L_draw dc_L_draw pm_L_draw cd_L_draw ct_L_draw oc_L_entry kV_L_entry dc_L_entry pm_L_entry cd_L_entry ct_L_entry oc_L_machine kV_L_machine dc_L_machine pm_L_machine cd_L_machine ct_L_machine oc_L_kept kV_L_kept dc_L_kept pm_L_kept cd_L_kept ct_L_kept oc_L_block kV_L_block dc_L_block pm_L_block cd_L_block ct_L_block oc_L_through kV_L_through dc_L_through pm_L_through cd_L_through ct_L_through oc_is_entry kV_is_entry dc_is_entry pm_is_entry cd_is_entry ct_is_entry oc_is_machine kV_is_machine dc_is_machine pm_is_machine cd_is_machine ct_is_machine oc_must_machine kV_must_machine dc_must_machine pm_must_machine cd_must_machine ct_must_machine oc_most_setups kV_most_setups dc_most_setups pm_most_setups cd_most_setups ct_most_setups oc_through kV_through dc_through pm_through cd_through ct_through oc_L_counted kV_L_counted dc_L_counted pm_L_counted cd_L_counted ct_L_counted oc_L_whole kV_L_whole dc_L_whole pm_L_whole cd_L_whole ct_L_whole oc_L_kinds kV_L_kinds dc_L_kinds pm_L_kinds cd_L_kinds ct_L_kinds oc_law kV_law dc_law pm_law cd_law ct_law : Value} {tk_MOST_ROWS tk_MOST_SIGNS : Tok} (X : K.In h) (G : h.Ns mainGlobals mg) (hfa : mg "law" = some (.ref fa))
    (n_NoMachine : PySem.W.nsIn K mainGlobals "NoMachine" = some (some (.ref C_NoMachine)))
    (n_L_at : PySem.W.nsIn K mainGlobals "_law_at" = some (some (.ref a_L_at)))
    (l_L_at : K.lookup a_L_at = some ⟨oc_L_at, od_L_at, .func (PySem.W.fnOf "_law_at" "_law_at" (defArgs s_L_at) (defBody s_L_at) (defScope s_L_at) .none kV_L_at dc_L_at pm_L_at an_L_at cd_L_at ct_L_at), sl_L_at⟩)
    (c_L_at : PySem.W.codeIn K cd_L_at "_law_at" = true)
    (k_L_at : PySem.W.keepIn K (.ref a_L_at) = true)
    (n_L_purse : PySem.W.nsIn K mainGlobals "_law_purse" = some (some (.ref a_L_purse)))
    (l_L_purse : K.lookup a_L_purse = some ⟨oc_L_purse, od_L_purse, .func (PySem.W.fnOf "_law_purse" "_law_purse" (defArgs s_L_purse) (defBody s_L_purse) (defScope s_L_purse) .none kV_L_purse dc_L_purse pm_L_purse an_L_purse cd_L_purse ct_L_purse), sl_L_purse⟩)
    (c_L_purse : PySem.W.codeIn K cd_L_purse "_law_purse" = true)
    (k_L_purse : PySem.W.keepIn K (.ref a_L_purse) = true)
    (n_L_mixed : PySem.W.nsIn K mainGlobals "_law_mixed" = some (some (.ref a_L_mixed)))
    (l_L_mixed : K.lookup a_L_mixed = some ⟨oc_L_mixed, od_L_mixed, .func (PySem.W.fnOf "_law_mixed" "_law_mixed" (defArgs s_L_mixed) (defBody s_L_mixed) (defScope s_L_mixed) .none kV_L_mixed dc_L_mixed pm_L_mixed an_L_mixed cd_L_mixed ct_L_mixed), sl_L_mixed⟩)
    (c_L_mixed : PySem.W.codeIn K cd_L_mixed "_law_mixed" = true)
    (k_L_mixed : PySem.W.keepIn K (.ref a_L_mixed) = true)
    (n_L_draw : PySem.W.nsIn K mainGlobals "_law_draw" = some (some (.ref a_L_draw)))
    (l_L_draw : K.lookup a_L_draw = some ⟨oc_L_draw, od_L_draw, .func (PySem.W.fnOf "_law_draw" "_law_draw" (defArgs s_L_draw) (defBody s_L_draw) (defScope s_L_draw) .none kV_L_draw dc_L_draw pm_L_draw an_L_draw cd_L_draw ct_L_draw), sl_L_draw⟩)
    (c_L_draw : PySem.W.codeIn K cd_L_draw "_law_draw" = true)
    (k_L_draw : PySem.W.keepIn K (.ref a_L_draw) = true)
    (n_L_entry : PySem.W.nsIn K mainGlobals "_law_entry" = some (some (.ref a_L_entry)))
    (l_L_entry : K.lookup a_L_entry = some ⟨oc_L_entry, od_L_entry, .func (PySem.W.fnOf "_law_entry" "_law_entry" (defArgs s_L_entry) (defBody s_L_entry) (defScope s_L_entry) .none kV_L_entry dc_L_entry pm_L_entry an_L_entry cd_L_entry ct_L_entry), sl_L_entry⟩)
    (c_L_entry : PySem.W.codeIn K cd_L_entry "_law_entry" = true)
    (k_L_entry : PySem.W.keepIn K (.ref a_L_entry) = true)
    (n_L_machine : PySem.W.nsIn K mainGlobals "_law_machine" = some (some (.ref a_L_machine)))
    (l_L_machine : K.lookup a_L_machine = some ⟨oc_L_machine, od_L_machine, .func (PySem.W.fnOf "_law_machine" "_law_machine" (defArgs s_L_machine) (defBody s_L_machine) (defScope s_L_machine) .none kV_L_machine dc_L_machine pm_L_machine an_L_machine cd_L_machine ct_L_machine), sl_L_machine⟩)
    (c_L_machine : PySem.W.codeIn K cd_L_machine "_law_machine" = true)
    (k_L_machine : PySem.W.keepIn K (.ref a_L_machine) = true)
    (n_L_kept : PySem.W.nsIn K mainGlobals "_law_kept" = some (some (.ref a_L_kept)))
    (l_L_kept : K.lookup a_L_kept = some ⟨oc_L_kept, od_L_kept, .func (PySem.W.fnOf "_law_kept" "_law_kept" (defArgs s_L_kept) (defBody s_L_kept) (defScope s_L_kept) .none kV_L_kept dc_L_kept pm_L_kept an_L_kept cd_L_kept ct_L_kept), sl_L_kept⟩)
    (c_L_kept : PySem.W.codeIn K cd_L_kept "_law_kept" = true)
    (k_L_kept : PySem.W.keepIn K (.ref a_L_kept) = true)
    (n_L_block : PySem.W.nsIn K mainGlobals "_law_block" = some (some (.ref a_L_block)))
    (l_L_block : K.lookup a_L_block = some ⟨oc_L_block, od_L_block, .func (PySem.W.fnOf "_law_block" "_law_block" (defArgs s_L_block) (defBody s_L_block) (defScope s_L_block) .none kV_L_block dc_L_block pm_L_block an_L_block cd_L_block ct_L_block), sl_L_block⟩)
    (c_L_block : PySem.W.codeIn K cd_L_block "_law_block" = true)
    (k_L_block : PySem.W.keepIn K (.ref a_L_block) = true)
    (n_L_through : PySem.W.nsIn K mainGlobals "_law_through" = some (some (.ref a_L_through)))
    (l_L_through : K.lookup a_L_through = some ⟨oc_L_through, od_L_through, .func (PySem.W.fnOf "_law_through" "_law_through" (defArgs s_L_through) (defBody s_L_through) (defScope s_L_through) .none kV_L_through dc_L_through pm_L_through an_L_through cd_L_through ct_L_through), sl_L_through⟩)
    (c_L_through : PySem.W.codeIn K cd_L_through "_law_through" = true)
    (k_L_through : PySem.W.keepIn K (.ref a_L_through) = true)
    (n_is_entry : PySem.W.nsIn K mainGlobals "is_entry" = some (some (.ref a_is_entry)))
    (l_is_entry : K.lookup a_is_entry = some ⟨oc_is_entry, od_is_entry, .func (PySem.W.fnOf "is_entry" "is_entry" (defArgs s_is_entry) (defBody s_is_entry) (defScope s_is_entry) .none kV_is_entry dc_is_entry pm_is_entry an_is_entry cd_is_entry ct_is_entry), sl_is_entry⟩)
    (c_is_entry : PySem.W.codeIn K cd_is_entry "is_entry" = true)
    (k_is_entry : PySem.W.keepIn K (.ref a_is_entry) = true)
    (n_is_machine : PySem.W.nsIn K mainGlobals "is_machine" = some (some (.ref a_is_machine)))
    (l_is_machine : K.lookup a_is_machine = some ⟨oc_is_machine, od_is_machine, .func (PySem.W.fnOf "is_machine" "is_machine" (defArgs s_is_machine) (defBody s_is_machine) (defScope s_is_machine) .none kV_is_machine dc_is_machine pm_is_machine an_is_machine cd_is_machine ct_is_machine), sl_is_machine⟩)
    (c_is_machine : PySem.W.codeIn K cd_is_machine "is_machine" = true)
    (k_is_machine : PySem.W.keepIn K (.ref a_is_machine) = true)
    (n_must_machine : PySem.W.nsIn K mainGlobals "must_machine" = some (some (.ref a_must_machine)))
    (l_must_machine : K.lookup a_must_machine = some ⟨oc_must_machine, od_must_machine, .func (PySem.W.fnOf "must_machine" "must_machine" (defArgs s_must_machine) (defBody s_must_machine) (defScope s_must_machine) .none kV_must_machine dc_must_machine pm_must_machine an_must_machine cd_must_machine ct_must_machine), sl_must_machine⟩)
    (c_must_machine : PySem.W.codeIn K cd_must_machine "must_machine" = true)
    (k_must_machine : PySem.W.keepIn K (.ref a_must_machine) = true)
    (n_most_setups : PySem.W.nsIn K mainGlobals "most_setups" = some (some (.ref a_most_setups)))
    (l_most_setups : K.lookup a_most_setups = some ⟨oc_most_setups, od_most_setups, .func (PySem.W.fnOf "most_setups" "most_setups" (defArgs s_most_setups) (defBody s_most_setups) (defScope s_most_setups) .none kV_most_setups dc_most_setups pm_most_setups an_most_setups cd_most_setups ct_most_setups), sl_most_setups⟩)
    (c_most_setups : PySem.W.codeIn K cd_most_setups "most_setups" = true)
    (k_most_setups : PySem.W.keepIn K (.ref a_most_setups) = true)
    (n_through : PySem.W.nsIn K mainGlobals "through" = some (some (.ref a_through)))
    (l_through : K.lookup a_through = some ⟨oc_through, od_through, .func (PySem.W.fnOf "through" "through" (defArgs s_through) (defBody s_through) (defScope s_through) .none kV_through dc_through pm_through an_through cd_through ct_through), sl_through⟩)
    (c_through : PySem.W.codeIn K cd_through "through" = true)
    (k_through : PySem.W.keepIn K (.ref a_through) = true)
    (n_L_counted : PySem.W.nsIn K mainGlobals "_law_counted" = some (some (.ref a_L_counted)))
    (l_L_counted : K.lookup a_L_counted = some ⟨oc_L_counted, od_L_counted, .func (PySem.W.fnOf "_law_counted" "_law_counted" (defArgs s_L_counted) (defBody s_L_counted) (defScope s_L_counted) .none kV_L_counted dc_L_counted pm_L_counted an_L_counted cd_L_counted ct_L_counted), sl_L_counted⟩)
    (c_L_counted : PySem.W.codeIn K cd_L_counted "_law_counted" = true)
    (k_L_counted : PySem.W.keepIn K (.ref a_L_counted) = true)
    (n_L_whole : PySem.W.nsIn K mainGlobals "_law_whole" = some (some (.ref a_L_whole)))
    (l_L_whole : K.lookup a_L_whole = some ⟨oc_L_whole, od_L_whole, .func (PySem.W.fnOf "_law_whole" "_law_whole" (defArgs s_L_whole) (defBody s_L_whole) (defScope s_L_whole) .none kV_L_whole dc_L_whole pm_L_whole an_L_whole cd_L_whole ct_L_whole), sl_L_whole⟩)
    (c_L_whole : PySem.W.codeIn K cd_L_whole "_law_whole" = true)
    (k_L_whole : PySem.W.keepIn K (.ref a_L_whole) = true)
    (n_L_kinds : PySem.W.nsIn K mainGlobals "_law_kinds" = some (some (.ref a_L_kinds)))
    (l_L_kinds : K.lookup a_L_kinds = some ⟨oc_L_kinds, od_L_kinds, .func (PySem.W.fnOf "_law_kinds" "_law_kinds" (defArgs s_L_kinds) (defBody s_L_kinds) (defScope s_L_kinds) .none kV_L_kinds dc_L_kinds pm_L_kinds an_L_kinds cd_L_kinds ct_L_kinds), sl_L_kinds⟩)
    (c_L_kinds : PySem.W.codeIn K cd_L_kinds "_law_kinds" = true)
    (k_L_kinds : PySem.W.keepIn K (.ref a_L_kinds) = true)
    (n_law : PySem.W.nsIn K mainGlobals "law" = some (some (.ref a_law)))
    (l_law : K.lookup a_law = some ⟨oc_law, od_law, .func (PySem.W.fnOf "law" "law" (defArgs s_law) (defBody s_law) (defScope s_law) .none kV_law dc_law pm_law an_law cd_law ct_law), sl_law⟩)
    (c_law : PySem.W.codeIn K cd_law "law" = true)
    (k_law : PySem.W.keepIn K (.ref a_law) = true)
    (n_MOST_ROWS : PySem.W.nsIn K mainGlobals "MOST_ROWS" = some (some (.int 4 tk_MOST_ROWS)))
    (n_MOST_SIGNS : PySem.W.nsIn K mainGlobals "MOST_SIGNS" = some (some (.int 4 tk_MOST_SIGNS)))
    (z_len : PySem.W.nsIn K mainGlobals "len" = some none)
    (z_max : PySem.W.nsIn K mainGlobals "max" = some none)
    (z_int : PySem.W.nsIn K mainGlobals "int" = some none)
    (z_range : PySem.W.nsIn K mainGlobals "range" = some none)
    (z_list : PySem.W.nsIn K mainGlobals "list" = some none)
    (z_tuple : PySem.W.nsIn K mainGlobals "tuple" = some none)
    (z_all : PySem.W.nsIn K mainGlobals "all" = some none)
    (z_isinstance : PySem.W.nsIn K mainGlobals "isinstance" = some none)
    (z_bool : PySem.W.nsIn K mainGlobals "bool" = some none) :
    ∃ fd : FuncData, (∀ (s : Shared) (v : Value), BindsTo s fd ⟨[v], []⟩ [("_law_script", v)]) ∧ ∀ base : Heap, K.In base → base.Ns mainGlobals mg → FnOk l.prog w K mg base CX0 6 fa fd ["_law_script"] (sp_law K) :=
  all_mk X G hfa (all_tx X G n_NoMachine n_L_at l_L_at c_L_at k_L_at n_L_purse l_L_purse c_L_purse k_L_purse n_L_mixed l_L_mixed c_L_mixed k_L_mixed n_L_draw l_L_draw c_L_draw k_L_draw n_L_entry l_L_entry c_L_entry k_L_entry n_L_machine l_L_machine c_L_machine k_L_machine n_L_kept l_L_kept c_L_kept k_L_kept n_L_block l_L_block c_L_block k_L_block n_L_through l_L_through c_L_through k_L_through n_is_entry l_is_entry c_is_entry k_is_entry n_is_machine l_is_machine c_is_machine k_is_machine n_must_machine l_must_machine c_must_machine k_must_machine n_most_setups l_most_setups c_most_setups k_most_setups n_through l_through c_through k_through n_L_counted l_L_counted c_L_counted k_L_counted n_L_whole l_L_whole c_L_whole k_L_whole n_L_kinds l_L_kinds c_L_kinds k_L_kinds n_law l_law c_law k_law n_MOST_ROWS n_MOST_SIGNS z_len z_max z_int z_range z_list z_tuple z_all z_isinstance z_bool) ⟨_, _, _, _, _, _, rfl⟩
end E
open PySem PySem.W PyProof.Rows
set_option maxRecDepth 100000 in
set_option maxHeartbeats 0 in
theorem PySem.Challenge.cw_endnever_k70_blocks_gone_through_holds : PySem.Challenge.rw_endnever_k70_blocks_gone_through.Holds := by
  w_on; o_law; k_head; (case hw => w_witness2)
  k_fill
  refine E.walk (l := PySem.Challenge.rw_endnever_k70_blocks_gone_through) rfl rfl (fun w h Y => PySem.W.kIn_of Y) ?F
  case F =>
    intro w mg fa h KX G hmg
    refine' E.all_go KX G hmg ?n_NoMachine ?n_L_at ?l_L_at ?c_L_at ?k_L_at ?n_L_purse ?l_L_purse ?c_L_purse ?k_L_purse ?n_L_mixed ?l_L_mixed ?c_L_mixed ?k_L_mixed ?n_L_draw ?l_L_draw ?c_L_draw ?k_L_draw ?n_L_entry ?l_L_entry ?c_L_entry ?k_L_entry ?n_L_machine ?l_L_machine ?c_L_machine ?k_L_machine ?n_L_kept ?l_L_kept ?c_L_kept ?k_L_kept ?n_L_block ?l_L_block ?c_L_block ?k_L_block ?n_L_through ?l_L_through ?c_L_through ?k_L_through ?n_is_entry ?l_is_entry ?c_is_entry ?k_is_entry ?n_is_machine ?l_is_machine ?c_is_machine ?k_is_machine ?n_must_machine ?l_must_machine ?c_must_machine ?k_must_machine ?n_most_setups ?l_most_setups ?c_most_setups ?k_most_setups ?n_through ?l_through ?c_through ?k_through ?n_L_counted ?l_L_counted ?c_L_counted ?k_L_counted ?n_L_whole ?l_L_whole ?c_L_whole ?k_L_whole ?n_L_kinds ?l_L_kinds ?c_L_kinds ?k_L_kinds ?n_law ?l_law ?c_law ?k_law ?n_MOST_ROWS ?n_MOST_SIGNS ?z_len ?z_max ?z_int ?z_range ?z_list ?z_tuple ?z_all ?z_isinstance ?z_bool
    (case n_NoMachine => k_is); (case n_L_at => k_is); (case l_L_at => k_is); (case c_L_at => k_is); (case k_L_at => k_is); (case n_L_purse => k_is); (case l_L_purse => k_is); (case c_L_purse => k_is)
    (case k_L_purse => k_is); (case n_L_mixed => k_is); (case l_L_mixed => k_is); (case c_L_mixed => k_is); (case k_L_mixed => k_is); (case n_L_draw => k_is); (case l_L_draw => k_is); (case c_L_draw => k_is)
    (case k_L_draw => k_is); (case n_L_entry => k_is); (case l_L_entry => k_is); (case c_L_entry => k_is); (case k_L_entry => k_is); (case n_L_machine => k_is); (case l_L_machine => k_is); (case c_L_machine => k_is)
    (case k_L_machine => k_is); (case n_L_kept => k_is); (case l_L_kept => k_is); (case c_L_kept => k_is); (case k_L_kept => k_is); (case n_L_block => k_is); (case l_L_block => k_is); (case c_L_block => k_is)
    (case k_L_block => k_is); (case n_L_through => k_is); (case l_L_through => k_is); (case c_L_through => k_is); (case k_L_through => k_is); (case n_is_entry => k_is); (case l_is_entry => k_is); (case c_is_entry => k_is)
    (case k_is_entry => k_is); (case n_is_machine => k_is); (case l_is_machine => k_is); (case c_is_machine => k_is); (case k_is_machine => k_is); (case n_must_machine => k_is); (case l_must_machine => k_is); (case c_must_machine => k_is)
    (case k_must_machine => k_is); (case n_most_setups => k_is); (case l_most_setups => k_is); (case c_most_setups => k_is); (case k_most_setups => k_is); (case n_through => k_is); (case l_through => k_is); (case c_through => k_is)
    (case k_through => k_is); (case n_L_counted => k_is); (case l_L_counted => k_is); (case c_L_counted => k_is); (case k_L_counted => k_is); (case n_L_whole => k_is); (case l_L_whole => k_is); (case c_L_whole => k_is)
    (case k_L_whole => k_is); (case n_L_kinds => k_is); (case l_L_kinds => k_is); (case c_L_kinds => k_is); (case k_L_kinds => k_is); (case n_law => k_is); (case l_law => k_is); (case c_law => k_is)
    (case k_law => k_is); (case n_MOST_ROWS => k_is); (case n_MOST_SIGNS => k_is); (case z_len => k_is); (case z_max => k_is); (case z_int => k_is); (case z_range => k_is); (case z_list => k_is)
    (case z_tuple => k_is); (case z_all => k_is); (case z_isinstance => k_is); (case z_bool => k_is)
#print axioms PySem.Challenge.cw_endnever_k70_blocks_gone_through_holds
