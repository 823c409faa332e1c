import PyProof.Rows.All
import Wide.All
import OpenK.AllK
import Wide.FinOn
import HandS.ForMost
import HandS.SortRule
import HandS.IsInst
import HandS.TupAny
import HandS.TupMul
import HandS.Walk
import HandS.More
import HandS.ListItems
import HandS.Wide
import KE.KTupSum
import HandS.Style
import HandS.Deep
import HandS.SortInts
import KE.GoesMore
import KE.KDictKeyed
import KE.KeyNested
import KE.SortData
import KE.DataMinMax
import KE.KDictDisplayH
import KE.KDictCopyH
import HandS.Exc
import HandS.ExcOwn
import HandS.ExcIs
import HandS.WordsExc
import HandS.TryOnly
import KE.KIsAll
import HandS.TupLen
import HandS.TupLe
import PySem.Challenge.RW_endnever_k50_shut_papers_looked_at
set_option Elab.async false
set_option maxRecDepth 100000
set_option maxHeartbeats 4000000
namespace E
open PySem L2
/-! ### small words of our own -/
theorem inr_int {x : V} {ns : List Int} {i : Nat} (h : (ns.map V.int)[i]? = some x) : ∃ z, x = V.int z ∧ ns[i]? = some z := by
  rw [List.getElem?_map] at h
  cases e : ns[i]? with
  | none => rw [e] at h; cases h
  | some z => rw [e] at h; exact ⟨z, (Option.some.inj h).symm, rfl⟩
/-- F stands in H, whatever comes to it -/
theorem sm_new {F H : Hp} {p : Addr} {o : HO} (s : Same F H) (n : H p = Option.none) : Same F (upd H p o) := fun b u e => by
  rw [upd_ne (ne_of_none (s b u e) n)]
  exact s b u e
theorem sm_set {F H : Hp} {p : Addr} {o : HO} (s : Same F H) (n : F p = Option.none) : Same F (upd H p o) := fun b u e => by
  rw [upd_ne (ne_of_none e n)]
  exact s b u e
theorem sm_up {H : Hp} {p : Addr} {o : HO} (n : H p = none) : Same H (upd H p o) := sm_new (Same.refl H) n
theorem cut_63 {ns : List Int} (h : ns.length ≤ 63) : cutV (ns.map V.int) none (some 63) = ns.map V.int := by
  unfold cutV
  have e1 : HT.sIx (ns.map V.int).length 0 none = 0 := rfl
  have e2 : HT.sIx (ns.map V.int).length (ns.map V.int).length (some 63) = (ns.map V.int).length := by
    simp only [HT.sIx, List.length_map]
    rw [if_neg (by decide), show (63 : Int).toNat = 63 from rfl]
    omega
  rw [e1, e2, List.drop_zero, Nat.sub_zero, List.take_length]
theorem ifT {c : Bool} {A B : Prop} (h : c = true) (a : A) : if c = true then A else B := by
  rw [if_pos h]; exact a
theorem ifF {c : Bool} {A B : Prop} (h : c = false) (b : B) : if c = true then A else B := by
  rw [h, if_neg Bool.false_ne_true]; exact b
theorem one_le : 1 ≤ sizeLine := by decide
theorem two_le : 2 ≤ sizeLine := by decide
theorem three_le : 3 ≤ sizeLine := by decide
theorem five_le : 5 ≤ sizeLine := by decide
theorem nil_le : 0 ≤ sizeLine := by decide
theorem lt_size {n : Nat} (h : n ≤ 1000000) : n < sizeLine := Nat.lt_of_le_of_lt h (by decide)
theorem le_size {n : Nat} (h : n ≤ 1000000) : n ≤ sizeLine := Nat.le_of_lt (lt_size h)
theorem pi_listK {X : Cx} {K : PySem.W.Frag} {tg l : Expr} {tl : TE} (e : X.K = K) (h : PE X l tl) : PI X tg l (iList K tl) := by
  subst e; exact pi_list h
theorem pi_tupK {X : Cx} {K : PySem.W.Frag} {tg l : Expr} {tl : TE} (e : X.K = K) (h : PE X l tl) : PI X tg l (iTup K tl) := by
  subst e; exact pi_tup h
theorem crK {X : Cx} {K : PySem.W.Frag} {f : Value} {r : PySem.W.Frag → List V → Hp → VK → Prop} (e : X.K = K) (h : CallR X f (r X.K)) : CallR X f (r K) := by
  subst e; exact h
theorem orK {X : Cx} {K : PySem.W.Frag} {f : Value → Value → Sem Value} {r : PySem.W.Frag → R2} (e : X.K = K) (h : OpR X f (r X.K)) : OpR X f (r K) := by
  subst e; exact h
theorem ixK {X : Cx} {K : PySem.W.Frag} {r : PySem.W.Frag → R2} (e : X.K = K) (h : IxR X (r X.K)) : IxR X (r K) := by
  subst e; exact h
theorem slK {X : Cx} {K : PySem.W.Frag} {r : PySem.W.Frag → V → Option Int → Option Int → Hp → VK → Prop} (e : X.K = K) (h : SlR X (r X.K)) : SlR X (r K) := by
  subst e; exact h
def rLenQ (K : PySem.W.Frag) : List V → Hp → VK → Prop := fun xs H Q => ∃ p ys, xs = [.ref p] ∧ (SqL K H p ys ∨ SqT K H p ys) ∧ Q (.int ys.length) H
def rListQ (K : PySem.W.Frag) : List V → Hp → VK → Prop := fun xs H Q => ∃ p ys, xs = [.ref p] ∧ (SqL K H p ys ∨ SqT K H p ys) ∧ ∀ l, H l = none → Q (.ref l) (upd H l (.lst ys))
def rTupQ (K : PySem.W.Frag) : List V → Hp → VK → Prop := fun xs H Q => ∃ p ys, xs = [.ref p] ∧ ((SqL K H p ys ∧ ∀ l, H l = none → Q (.ref l) (upd H l (.tup ys))) ∨ (SqT K H p ys ∧ Q (.ref p) H))
theorem ne_of_none' {F H : Hp} {q : Addr} (s : Same F H) (n : H q = none) : F q = none := s.free n
/-- a comprehension without a test: its item comes in -/
theorem yes {σ : St} {H : Hp} {A : Hp → Prop} {B : Hp → Prop} (a : A H) : tYes σ H (fun b H3 => if b = true then A H3 else B H3) := by
  show if true = true then A H else B H
  rw [if_pos rfl]; exact a
theorem call_lenQ {X : Cx} : CallR X (.builtin "len") (rLenQ X.K) := call_len_seq
theorem call_listQ {X : Cx} : CallR X (.type "list") (rListQ X.K) := call_list_of
theorem call_tupQ {X : Cx} : CallR X (.type "tuple") (rTupQ X.K) := call_tuple_of
@[irreducible] def rDictP (K : PySem.W.Frag) : List V → Hp → VK → Prop := fun xs H Q => ∃ (a : Addr) (ps : List Addr) (kvs : List (Key × V)), xs = [.ref a] ∧ SqL K H a (ps.map V.ref) ∧ Paired (fun p kv => SqT K H p [kV kv.1, kv.2]) ps kvs ∧ ∀ p, H p = none → Q (.ref p) (upd H p (.dK (mergeK [] kvs)))
theorem call_dictQ {X : Cx} (hc : X.calm = true) : CallR X (.type "dict") (rDictP X.K) := by
  unfold rDictP
  exact call_dictP hc
@[irreducible] def rSortQ (K : PySem.W.Frag) : List V → Hp → VK → Prop := rSortedPO K
theorem call_sortQ {X : Cx} : CallR X (.builtin "sorted") (rSortQ X.K) := by
  unfold rSortQ
  exact cr_sortedPO
theorem pg_tupK {X : Cx} {K : PySem.W.Frag} {es : List Expr} {k n : Nat} {t : TGs} {pos : Pos} (e : X.K = K) (hc : X.calm = true) (h : PGs X es t) (hn : (assignEach es X.env).length = n := by rfl) (hst : (assignEach es X.env).findIdx? (·.1) = none := by rfl) : PG X (.Tuple es k pos) (gTup K n t) := by
  subst e; exact pg_tup hc h hn hst
theorem pe_fldK {X : Cx} {K : PySem.W.Frag} {e : Expr} {f : Str} {pos : Pos} {ta : TE} (ek : X.K = K) (he : PE X e ta) (hb : attributeBase e f X.env (eval e X.env) = eval e X.env) : PE X (.Attribute e f pos) (tFld K ta f) := by
  subst ek; exact pe_fld he hb
/-! ### what stands, what is new: F the frozen part (nobody changes it), H the heap; from F, H to F', H' with changes at mu alone -/
structure Gr (mu : Addr → Prop) (F H F' H' : Hp) : Prop where
  ff : Same F F'
  fh : Same F' H'
  nw : ∀ c o, F' c = some o → F c = some o ∨ H c = none
  fr : ∀ c o, H c = some o → ¬ mu c → H' c = some o
  th : ∀ c, H' c = none → H c = none
/-- nothing but new things -/
abbrev mu0 : Addr → Prop := fun _ => False
/-- the purse alone -/
abbrev muP (p : Addr) : Addr → Prop := fun c => c = p
section
variable {mu : Addr → Prop} {F H F1 H1 F2 H2 : Hp} {q : Addr} {o u : HO}
theorem Gr.refl (s : Same F H) : Gr mu F H F H := ⟨fun _ _ h => h, s, fun _ _ h => .inl h, fun _ _ h _ => h, fun _ h => h⟩
theorem Gr.trans (a : Gr mu F H F1 H1) (b : Gr mu F1 H1 F2 H2) : Gr mu F H F2 H2 where
  ff := fun c o h => b.ff c o (a.ff c o h)
  fh := b.fh
  nw := fun c o h => by
    rcases b.nw c o h with h | h
    · exact a.nw c o h
    · exact .inr (a.th c h)
  fr := fun c o h m => b.fr c o (a.fr c o h m) m
  th := fun c h => a.th c (b.th c h)
/-- a part that changes what is ours, or what mu has -/
theorem Gr.thn {mu' : Addr → Prop} (a : Gr mu F H F1 H1) (b : Gr mu' F1 H1 F2 H2) (k : ∀ c, mu' c → mu c ∨ H c = none) : Gr mu F H F2 H2 where
  ff := fun c o h => b.ff c o (a.ff c o h)
  fh := b.fh
  nw := fun c o h => by
    rcases b.nw c o h with h | h
    · exact a.nw c o h
    · exact .inr (a.th c h)
  fr := fun c o h m => b.fr c o (a.fr c o h m) fun z => (k c z).elim m fun n => by rw [n] at h; cases h
  th := fun c h => a.th c (b.th c h)
theorem Gr.weak {mu' : Addr → Prop} (a : Gr mu F H F1 H1) (m : ∀ c, mu c → mu' c) : Gr mu' F H F1 H1 :=
  ⟨a.ff, a.fh, a.nw, fun c o h n => a.fr c o h fun z => n (m c z), a.th⟩
theorem Gr.of0 (a : Gr mu0 F H F1 H1) : Gr mu F H F1 H1 := a.weak fun _ z => z.elim
/-- a new thing that nobody will change -/
theorem Gr.new (a : Gr mu F H F1 H1) (n : H1 q = none) : Gr mu F H (upd F1 q o) (upd H1 q o) where
  ff := fun c o h => by
    rw [upd_ne (ne_of_none (a.fh c o (a.ff c o h)) n)]
    exact a.ff c o h
  fh := fun c u h => by
    by_cases e : c = q
    · subst e; rw [upd_same] at h ⊢; exact h
    · rw [upd_ne e] at h ⊢; exact a.fh c u h
  nw := fun c u h => by
    by_cases e : c = q
    · subst e; exact .inr (a.th _ n)
    · rw [upd_ne e] at h; exact a.nw c u h
  fr := fun c u h m => by
    rw [upd_ne (ne_of_none (a.fr c u h m) n)]
    exact a.fr c u h m
  th := fun c h => by
    by_cases e : c = q
    · subst e; rw [upd_same] at h; cases h
    · rw [upd_ne e] at h; exact a.th c h
/-- a new thing that may be changed yet -/
theorem Gr.own (a : Gr mu F H F1 H1) (n : H1 q = none) : Gr mu F H F1 (upd H1 q o) where
  ff := a.ff
  fh := fun c u h => by
    rw [upd_ne (ne_of_none (a.fh c u h) n)]
    exact a.fh c u h
  nw := a.nw
  fr := fun c u h m => by
    rw [upd_ne (ne_of_none (a.fr c u h m) n)]
    exact a.fr c u h m
  th := fun c h => by
    by_cases e : c = q
    · subst e; rw [upd_same] at h; cases h
    · rw [upd_ne e] at h; exact a.th c h
/-- a change of what is ours, and not frozen -/
theorem Gr.set (a : Gr mu F H F1 H1) (f : F1 q = none) (m : H q = none ∨ mu q) : Gr mu F H F1 (upd H1 q o) where
  ff := a.ff
  fh := fun c u h => by
    rw [upd_ne (ne_of_none h f)]
    exact a.fh c u h
  nw := a.nw
  fr := fun c u h k => by
    have e : c ≠ q := by
      rintro rfl
      rcases m with m | m
      · rw [m] at h; cases h
      · exact k m
    rw [upd_ne e]
    exact a.fr c u h k
  th := fun c h => by
    by_cases e : c = q
    · subst e; rw [upd_same] at h; cases h
    · rw [upd_ne e] at h; exact a.th c h
/-- what was ours is changed no more -/
theorem Gr.frz (a : Gr mu F H F1 H1) (h : H1 q = some o) (n : H q = none) (f : F1 q = none) : Gr mu F H (upd F1 q o) H1 where
  ff := fun c u e => by
    rw [upd_ne (ne_of_none (a.ff c u e) f)]
    exact a.ff c u e
  fh := fun c u e => by
    by_cases k : c = q
    · subst k; rw [upd_same] at e; cases e; exact h
    · rw [upd_ne k] at e; exact a.fh c u e
  nw := fun c u e => by
    by_cases k : c = q
    · subst k; exact .inr n
    · rw [upd_ne k] at e; exact a.nw c u e
  fr := a.fr
  th := a.th
theorem Gr.free (a : Gr mu F H F1 H1) (n : H1 q = none) : F1 q = none := a.fh.free n
end
/-- an owned thing: new since H, not frozen, it is o now -/
structure Ow (H F H1 : Hp) (q : Addr) (o : HO) : Prop where
  n : H q = none
  f : F q = none
  h : H1 q = some o
section
variable {mu mu' : Addr → Prop} {H0 F H F1 H1 : Hp} {q r : Addr} {o u : HO}
theorem Ow.call (w : Ow H0 F H q o) (a : Gr mu F H F1 H1) (m : ¬ mu q) : Ow H0 F1 H1 q o :=
  ⟨w.n, (by
    cases e : F1 q with
    | none => rfl
    | some z =>
      rcases a.nw q z e with k | k
      · rw [w.f] at k; cases k
      · rw [w.h] at k; cases k), a.fr q o w.h m⟩
theorem Ow.ne (w : Ow H0 F H q o) (n : H r = none) : q ≠ r := ne_of_none w.h n
theorem Ow.new (w : Ow H0 F H q o) (n : H r = none) : Ow H0 (upd F r u) (upd H r u) q o :=
  ⟨w.n, by rw [upd_ne (w.ne n)]; exact w.f, by rw [upd_ne (w.ne n)]; exact w.h⟩
theorem Ow.own (w : Ow H0 F H q o) (n : H r = none) : Ow H0 F (upd H r u) q o :=
  ⟨w.n, w.f, by rw [upd_ne (w.ne n)]; exact w.h⟩
theorem Ow.mk1 (a : Gr mu H0' H0 F H) (n : H q = none) : Ow H0 F (upd H q o) q o := ⟨a.th q n, a.free n, upd_same⟩
theorem Ow.set (w : Ow H0 F H q o) : Ow H0 F (upd H q u) q u := ⟨w.n, w.f, upd_same⟩
theorem Ow.other (w : Ow H0 F H q o) (e : q ≠ r) : Ow H0 F (upd H r u) q o := ⟨w.n, w.f, by rw [upd_ne e]; exact w.h⟩
end
/-! ### what stands for a datum -/
def All2 {α β : Type} (r : α → β → Prop) (xs : List α) (ys : List β) : Prop := xs.length = ys.length ∧ ∀ (i : Nat) (x : α) (y : β), xs[i]? = some x → ys[i]? = some y → r x y
section
variable {α β : Type} {r s : α → β → Prop} {xs xs' : List α} {ys ys' : List β}
theorem All2.nil : All2 r [] [] := ⟨rfl, fun i x y h => by simp at h⟩
theorem All2.get (a : All2 r xs ys) {i : Nat} {y : β} (h : ys[i]? = some y) : ∃ x, xs[i]? = some x ∧ r x y := by
  have l := (List.getElem?_eq_some_iff.mp h).1
  have l' : i < xs.length := by rw [a.1]; exact l
  exact ⟨xs[i], List.getElem?_eq_getElem l', a.2 i _ y (List.getElem?_eq_getElem l') h⟩
theorem All2.get' (a : All2 r xs ys) {i : Nat} {x : α} (h : xs[i]? = some x) : ∃ y, ys[i]? = some y ∧ r x y := by
  have l := (List.getElem?_eq_some_iff.mp h).1
  have l' : i < ys.length := by rw [← a.1]; exact l
  exact ⟨ys[i], List.getElem?_eq_getElem l', a.2 i x _ h (List.getElem?_eq_getElem l')⟩
theorem All2.imp (a : All2 r xs ys) (f : ∀ x y, r x y → s x y) : All2 s xs ys := ⟨a.1, fun i x y h k => f x y (a.2 i x y h k)⟩
theorem All2.app (a : All2 r xs ys) (b : All2 r xs' ys') : All2 r (xs ++ xs') (ys ++ ys') := by
  refine ⟨by rw [List.length_append, List.length_append, a.1, b.1], fun i x y h k => ?_⟩
  by_cases l : i < xs.length
  · rw [List.getElem?_append_left l] at h
    rw [List.getElem?_append_left (by rw [← a.1]; exact l)] at k
    exact a.2 i x y h k
  · rw [List.getElem?_append_right (by omega)] at h
    rw [List.getElem?_append_right (by rw [← a.1]; omega), ← a.1] at k
    exact b.2 _ x y h k
theorem All2.one {x : α} {y : β} (h : r x y) : All2 r [x] [y] := ⟨rfl, fun i a b p q => by
  cases i with
  | zero => simp at p q; subst p; subst q; exact h
  | succ n => simp at p⟩
theorem All2.cons {x : α} {y : β} (h : r x y) (a : All2 r xs ys) : All2 r (x :: xs) (y :: ys) := (All2.one h).app a
theorem All2.set (a : All2 r xs ys) {x : α} {y : β} (h : r x y) (j : Nat) : All2 r (xs.set j x) (ys.set j y) := by
  refine ⟨by rw [List.length_set, List.length_set]; exact a.1, fun i u v p q => ?_⟩
  by_cases e : j = i
  · subst e
    rw [List.getElem?_set_self'] at p q
    cases e1 : xs[j]? with
    | none => rw [e1] at p; cases p
    | some z =>
      cases e2 : ys[j]? with
      | none => rw [e2] at q; cases q
      | some z2 =>
        rw [e1] at p; rw [e2] at q
        cases p; cases q
        exact h
  · rw [List.getElem?_set_ne e] at p q
    exact a.2 i u v p q
theorem All2.take (a : All2 r xs ys) (n : Nat) : All2 r (xs.take n) (ys.take n) := by
  refine ⟨by rw [List.length_take, List.length_take, a.1], fun i u v p q => ?_⟩
  rw [List.getElem?_take] at p q
  split at p
  · rw [if_pos (by assumption)] at q; exact a.2 i u v p q
  · cases p
theorem All2.drop (a : All2 r xs ys) (n : Nat) : All2 r (xs.drop n) (ys.drop n) := by
  refine ⟨by rw [List.length_drop, List.length_drop, a.1], fun i u v p q => ?_⟩
  rw [List.getElem?_drop] at p q
  exact a.2 _ u v p q
end
class Dat (α : Type) where
  rep : Hp → V → α → Prop
  mono : ∀ {H H' : Hp} {v : V} {d : α}, Same H H' → rep H v d → rep H' v d
  py : α → PyData
  dp : ∀ {K : PySem.W.Frag} {H : Hp} {v : V} {d : α}, rep H v d → Dp K H v (py d)
  can : ∀ d, (py d).canLay0 = true
  dep : Nat
  depth : ∀ d, (py d).depth ≤ dep
  eqv : ∀ a b, PyData.eqv (py a) (py b) = true ↔ a = b
section
variable {α β γ : Type}
/-- v stands for d in H -/
abbrev Is [Dat α] (H : Hp) (v : V) (d : α) : Prop := Dat.rep H v d
theorem Is.up [Dat α] {H H' : Hp} {v : V} {d : α} (h : Is H v d) (s : Same H H') : Is H' v d := Dat.mono s h
abbrev IsAll [Dat α] (H : Hp) (xs : List V) (ds : List α) : Prop := All2 (fun v d => Is H v d) xs ds
theorem IsAll.up [Dat α] {H H' : Hp} {xs : List V} {ds : List α} (h : IsAll H xs ds) (s : Same H H') : IsAll H' xs ds := h.imp fun _ _ z => Is.up z s
theorem dp_all [Dat α] {K : PySem.W.Frag} {H : Hp} : ∀ {xs : List V} {ds : List α}, IsAll H xs ds → DpAll K H xs (ds.map Dat.py)
  | [], [], _ => .nil
  | [], d :: ds, h => by have := h.1; simp at this
  | x :: xs, [], h => by have := h.1; simp at this
  | x :: xs, d :: ds, h => .cons (Dat.dp (h.2 0 x d rfl rfl)) (dp_all ⟨by have := h.1; simpa using this, fun i a b p q => h.2 (i + 1) a b (by simpa using p) (by simpa using q)⟩)
theorem can_all [Dat α] : ∀ ds : List α, PyData.canLayAll0 (ds.map Dat.py) = true
  | [] => rfl
  | d :: ds => by
    show (PyData.canLay0 (Dat.py d) && PyData.canLayAll0 (ds.map Dat.py)) = true
    rw [Dat.can, can_all ds]; rfl
theorem depth_all [Dat α] : ∀ ds : List α, PyData.depthAll (ds.map Dat.py) ≤ Dat.dep α
  | [] => Nat.zero_le _
  | d :: ds => by
    show max (PyData.depth (Dat.py d)) (PyData.depthAll (ds.map Dat.py)) ≤ _
    exact Nat.max_le.mpr ⟨Dat.depth d, depth_all ds⟩
theorem eqv_all [Dat α] : ∀ a b : List α, PyData.eqvAll (a.map Dat.py) (b.map Dat.py) = true ↔ a = b
  | [], [] => by simp [PyData.eqvAll]
  | [], _ :: _ => by simp [PyData.eqvAll]
  | _ :: _, [] => by simp [PyData.eqvAll]
  | x :: xs, y :: ys => by
    rw [List.map_cons, List.map_cons, PyData.eqvAll, Bool.and_eq_true, Dat.eqv, eqv_all xs ys, List.cons.injEq]
instance : Dat Int where
  rep := fun _ v i => v = .int i
  mono := fun _ h => h
  py := .int
  dp := fun h => h ▸ .int _
  can := fun _ => rfl
  dep := 0
  depth := fun _ => Nat.le_refl _
  eqv := fun a b => by simp [PyData.eqv]
instance : Dat Bool where
  rep := fun _ v i => v = .bl i
  mono := fun _ h => h
  py := .bool
  dp := fun h => h ▸ .bl _
  can := fun _ => rfl
  dep := 0
  depth := fun _ => Nat.le_refl _
  eqv := fun a b => by simp [PyData.eqv]
/-- a list of data -/
instance [Dat α] : Dat (List α) where
  rep := fun H v l => ∃ a xs, v = .ref a ∧ H a = some (.lst xs) ∧ IsAll H xs l
  mono := fun s h => by
    obtain ⟨a, xs, e, h, i⟩ := h
    exact ⟨a, xs, e, s _ _ h, IsAll.up i s⟩
  py := fun l => .list (l.map Dat.py)
  dp := fun h => by
    obtain ⟨a, xs, rfl, h, i⟩ := h
    exact .lst (SqL.of h) (dp_all i)
  can := fun d => can_all d
  dep := Dat.dep α + 1
  depth := fun d => Nat.succ_le_succ (depth_all d)
  eqv := fun a b => by rw [PyData.eqv]; exact eqv_all a b
/-- a tuple of data of one kind -/
structure Tup (α : Type) where
  l : List α
  deriving DecidableEq
instance [Dat α] : Dat (Tup α) where
  rep := fun H v l => ∃ a xs, v = .ref a ∧ H a = some (.tup xs) ∧ IsAll H xs l.l
  mono := fun s h => by
    obtain ⟨a, xs, e, h, i⟩ := h
    exact ⟨a, xs, e, s _ _ h, IsAll.up i s⟩
  py := fun l => .tuple (l.l.map Dat.py)
  dp := fun h => by
    obtain ⟨a, xs, rfl, h, i⟩ := h
    exact .tup (SqT.of h) (dp_all i)
  can := fun d => can_all d.l
  dep := Dat.dep α + 1
  depth := fun d => Nat.succ_le_succ (depth_all d.l)
  eqv := fun a b => by
    rw [PyData.eqv, eqv_all]
    obtain ⟨a⟩ := a; obtain ⟨b⟩ := b
    simp
/-- a pair; a triple -/
structure T2 (α β : Type) where
  a : α
  b : β
  deriving DecidableEq
structure T3 (α β γ : Type) where
  a : α
  b : β
  c : γ
  deriving DecidableEq
instance [Dat α] [Dat β] : Dat (T2 α β) where
  rep := fun H v d => ∃ p x y, v = .ref p ∧ H p = some (.tup [x, y]) ∧ Is H x d.a ∧ Is H y d.b
  mono := fun s h => by
    obtain ⟨p, x, y, e, h, i, j⟩ := h
    exact ⟨p, x, y, e, s _ _ h, Is.up i s, Is.up j s⟩
  py := fun d => .tuple [Dat.py d.a, Dat.py d.b]
  dp := fun h => by
    obtain ⟨p, x, y, rfl, h, i, j⟩ := h
    exact .tup (SqT.of h) (.cons (Dat.dp i) (.cons (Dat.dp j) .nil))
  can := fun d => by
    show (PyData.canLay0 (Dat.py d.a) && (PyData.canLay0 (Dat.py d.b) && true)) = true
    rw [Dat.can, Dat.can]; rfl
  dep := max (Dat.dep α) (Dat.dep β) + 1
  depth := fun d => by
    have h1 := Dat.depth d.a
    have h2 := Dat.depth d.b
    show max (PyData.depth (Dat.py d.a)) (max (PyData.depth (Dat.py d.b)) 0) + 1 ≤ _
    omega
  eqv := fun a b => by
    obtain ⟨a, a'⟩ := a; obtain ⟨b, b'⟩ := b
    simp [PyData.eqv, PyData.eqvAll, Dat.eqv]
instance [Dat α] [Dat β] [Dat γ] : Dat (T3 α β γ) where
  rep := fun H v d => ∃ p x y z, v = .ref p ∧ H p = some (.tup [x, y, z]) ∧ Is H x d.a ∧ Is H y d.b ∧ Is H z d.c
  mono := fun s h => by
    obtain ⟨p, x, y, z, e, h, i, j, k⟩ := h
    exact ⟨p, x, y, z, e, s _ _ h, Is.up i s, Is.up j s, Is.up k s⟩
  py := fun d => .tuple [Dat.py d.a, Dat.py d.b, Dat.py d.c]
  dp := fun h => by
    obtain ⟨p, x, y, z, rfl, h, i, j, k⟩ := h
    exact .tup (SqT.of h) (.cons (Dat.dp i) (.cons (Dat.dp j) (.cons (Dat.dp k) .nil)))
  can := fun d => by
    show (PyData.canLay0 (Dat.py d.a) && (PyData.canLay0 (Dat.py d.b) && (PyData.canLay0 (Dat.py d.c) && true))) = true
    rw [Dat.can, Dat.can, Dat.can]; rfl
  dep := max (Dat.dep α) (max (Dat.dep β) (Dat.dep γ)) + 1
  depth := fun d => by
    have h1 := Dat.depth d.a
    have h2 := Dat.depth d.b
    have h3 := Dat.depth d.c
    show max (PyData.depth (Dat.py d.a)) (max (PyData.depth (Dat.py d.b)) (max (PyData.depth (Dat.py d.c)) 0)) + 1 ≤ _
    omega
  eqv := fun a b => by
    obtain ⟨a, a', a''⟩ := a; obtain ⟨b, b', b''⟩ := b
    simp [PyData.eqv, PyData.eqvAll, Dat.eqv]
/-- None, or a datum that is a tuple or a list -/
class Big (α : Type) [Dat α] : Prop where
  big : ∀ d : α, (∃ l, Dat.py d = .tuple l) ∨ ∃ l, Dat.py d = .list l
instance [Dat α] : Big (List α) := ⟨fun d => .inr ⟨_, rfl⟩⟩
instance [Dat α] : Big (Tup α) := ⟨fun d => .inl ⟨_, rfl⟩⟩
instance [Dat α] [Dat β] : Big (T2 α β) := ⟨fun d => .inl ⟨_, rfl⟩⟩
instance [Dat α] [Dat β] [Dat γ] : Big (T3 α β γ) := ⟨fun d => .inl ⟨_, rfl⟩⟩
instance [Dat α] [Big α] : Dat (Option α) where
  rep := fun H v d => match d with
    | none => v = .non
    | some d => Is H v d
  mono := fun {H H' v d} s h => by
    cases d with
    | none => exact h
    | some d => exact Is.up (show Is H v d from h) s
  py := fun d => match d with
    | none => .none
    | some d => Dat.py d
  dp := fun {K H v d} h => by
    cases d with
    | none => cases h; exact .non
    | some d => exact Dat.dp (show Is H v d from h)
  can := fun d => by
    cases d with
    | none => rfl
    | some d => exact Dat.can d
  dep := Dat.dep α
  depth := fun d => by
    cases d with
    | none => exact Nat.zero_le _
    | some d => exact Dat.depth d
  eqv := fun a b => by
    cases a with
    | none =>
      cases b with
      | none => exact ⟨fun _ => rfl, fun _ => rfl⟩
      | some b =>
        refine ⟨fun h => ?_, fun h => nomatch h⟩
        have h : PyData.eqv .none (Dat.py b) = true := h
        rcases Big.big b with ⟨l, e⟩ | ⟨l, e⟩ <;> (rw [e] at h; simp only [PyData.eqv] at h; cases h)
    | some a =>
      cases b with
      | none =>
        refine ⟨fun h => ?_, fun h => nomatch h⟩
        have h : PyData.eqv (Dat.py a) .none = true := h
        rcases Big.big a with ⟨l, e⟩ | ⟨l, e⟩ <;> (rw [e] at h; simp only [PyData.eqv] at h; cases h)
      | some b =>
        show PyData.eqv (Dat.py a) (Dat.py b) = true ↔ _
        rw [Dat.eqv, Option.some.injEq]
end
/-- == and != of data -/
theorem eq_dat0 {α : Type} [Dat α] [DecidableEq α] {a b : α} (hd : Dat.dep α ≤ 64) : SeqAt.shaped (Dat.py a) = true ∧ SeqAt.shaped (Dat.py b) = true ∧ PyData.eqv (Dat.py a) (Dat.py b) = decide (a = b) := by
  refine ⟨?_, ?_, ?_⟩
  · show (PyData.canLay0 _ && decide _) = true
    rw [Dat.can, decide_eq_true (Nat.le_trans (Dat.depth a) hd)]; rfl
  · show (PyData.canLay0 _ && decide _) = true
    rw [Dat.can, decide_eq_true (Nat.le_trans (Dat.depth b) hd)]; rfl
  · rw [Bool.eq_iff_iff, Dat.eqv, decide_eq_true_iff]
theorem eq_dat {α : Type} [Dat α] [DecidableEq α] {K : PySem.W.Frag} {H : Hp} {x y : V} {a b : α} {Q : VK} (ha : Is H x a) (hb : Is H y b) (q : Q (.bl (decide (a = b))) H) (hd : Dat.dep α ≤ 64 := by decide) : rEqD K x y H Q := by
  obtain ⟨h1, h2, h3⟩ := eq_dat0 (a := a) (b := b) hd
  exact ⟨Dat.py a, Dat.py b, Dat.dp ha, Dat.dp hb, h1, h2, by rw [h3]; exact q⟩
theorem ne_dat {α : Type} [Dat α] [DecidableEq α] {K : PySem.W.Frag} {H : Hp} {x y : V} {a b : α} {Q : VK} (ha : Is H x a) (hb : Is H y b) (q : Q (.bl (!decide (a = b))) H) (hd : Dat.dep α ≤ 64 := by decide) : rNeD K x y H Q := by
  obtain ⟨h1, h2, h3⟩ := eq_dat0 (a := a) (b := b) hd
  exact ⟨Dat.py a, Dat.py b, Dat.dp ha, Dat.dp hb, h1, h2, by rw [h3]; exact q⟩
/-! ### machines -/
/-- an entry -/
inductive Ent where
  | emp
  | go (put way row : Int)
  deriving DecidableEq
def entO : Ent → HO
  | .emp => .tup []
  | .go p w r => .tup [.int p, .int w, .int r]
def entP : Ent → PyData
  | .emp => .tuple []
  | .go p w r => .tuple [.int p, .int w, .int r]
instance : Dat Ent where
  rep := fun H v e => ∃ a, v = .ref a ∧ H a = some (entO e)
  mono := fun s h => by obtain ⟨a, e, h⟩ := h; exact ⟨a, e, s _ _ h⟩
  py := entP
  dp := fun {K H v d} h => by
    obtain ⟨a, rfl, h⟩ := h
    cases d with
    | emp => exact .tup (SqT.of h) .nil
    | go p w r => exact .tup (SqT.of h) (.cons (.int _) (.cons (.int _) (.cons (.int _) .nil)))
  can := fun d => by cases d <;> rfl
  dep := 1
  depth := fun d => by cases d <;> simp [entP, PyData.depth, PyData.depthAll]
  eqv := fun a b => by cases a <;> cases b <;> simp [entP, PyData.eqv, PyData.eqvAll]
instance : Big Ent := ⟨fun d => by cases d <;> exact .inl ⟨_, rfl⟩⟩
abbrev Mach := List (List Ent)
/-! ### pairs of ints: a dict's items, sorted ones -/
abbrev PI := T2 Int Int
def dI (l : List PI) : List (Key × V) := l.map fun p => (Sum.inl p.a, V.int p.b)
def look (l : List PI) (x : Int) : Option Int := (l.find? fun p => decide (p.a = x)).map (·.b)
def put (l : List PI) (x v : Int) : List PI := if (l.any fun p => decide (p.a = x)) = true then l.map (fun p => if p.a = x then ⟨p.a, v⟩ else p) else l ++ [⟨x, v⟩]
def merge (l m : List PI) : List PI := m.foldl (fun acc p => put acc p.a p.b) l
theorem key_inl (a b : Int) : ((Sum.inl a : Key) = Sum.inl b) = (a = b) := propext ⟨Sum.inl.inj, fun h => by rw [h]⟩
theorem dI_val (x : Int) : ∀ l : List PI, valV (dI l) (Sum.inl x) = (look l x).map V.int
  | [] => rfl
  | p :: l => by
    have ih := dI_val x l
    show valV ((Sum.inl p.a, V.int p.b) :: dI l) (Sum.inl x) = _
    by_cases e : p.a = x
    · rw [valV_pos (by rw [key_inl]; exact e)]
      simp [look, e]
    · rw [valV_neg (by rw [key_inl]; exact e), ih]
      simp [look, e]
theorem dI_put (l : List PI) (x v : Int) : putK (dI l) (Sum.inl x) (.int v) = dI (put l x v) := by
  have e : ((dI l).any fun kv => decide (kv.1 = Sum.inl x)) = (l.any fun p => decide (p.a = x)) := by
    unfold dI
    rw [List.any_map]
    congr 1
    funext p
    simp only [Function.comp, key_inl]
  unfold putK put
  rw [e]
  by_cases a : (l.any fun p => decide (p.a = x)) = true
  · rw [if_pos a, if_pos a]
    unfold dI
    rw [List.map_map, List.map_map]
    congr 1
    funext p
    simp only [Function.comp, key_inl]
    by_cases h : p.a = x
    · rw [if_pos h, if_pos h]
    · rw [if_neg h, if_neg h]
  · rw [if_neg a, if_neg a]
    unfold dI
    rw [List.map_append]
    rfl
theorem dI_merge (m : List PI) : ∀ l : List PI, mergeK (dI l) (dI m) = dI (merge l m) := by
  induction m with
  | nil => intro l; rfl
  | cons p m ih =>
    intro l
    show mergeK (putK (dI l) (Sum.inl p.a) (.int p.b)) (dI m) = dI (merge (put l p.a p.b) m)
    rw [dI_put]
    exact ih _
theorem look_nil (x : Int) : look [] x = none := rfl
theorem look_cons (p : PI) (l : List PI) (x : Int) : look (p :: l) x = if p.a = x then some p.b else look l x := by
  unfold look
  rw [List.find?_cons]
  by_cases e : p.a = x
  · simp [e]
  · simp [e]
theorem look_any (x : Int) : ∀ l : List PI, (l.any fun p => decide (p.a = x)) = (look l x).isSome
  | [] => rfl
  | p :: l => by
    rw [List.any_cons, look_any x l, look_cons]
    by_cases e : p.a = x
    · simp [e]
    · simp [e]
theorem look_map (x y v : Int) : ∀ l : List PI, look (l.map fun p => if p.a = x then ⟨p.a, v⟩ else p) y = (look l y).map fun z => if y = x then v else z
  | [] => rfl
  | p :: l => by
    rw [List.map_cons, look_cons, look_cons, look_map x y v l]
    by_cases e : p.a = x
    · rw [if_pos e]
      by_cases f : p.a = y
      · rw [if_pos f, if_pos f]
        rw [← f, Option.map_some, if_pos e]
      · rw [if_neg f, if_neg f]
    · rw [if_neg e]
      by_cases f : p.a = y
      · rw [if_pos f, if_pos f, Option.map_some, if_neg (by rw [← f]; exact e)]
      · rw [if_neg f, if_neg f]
theorem look_app (l m : List PI) (x : Int) : look (l ++ m) x = (look l x).or (look m x) := by
  induction l with
  | nil => rfl
  | cons p l ih =>
    rw [List.cons_append, look_cons, look_cons, ih]
    by_cases e : p.a = x
    · rw [if_pos e, if_pos e]; rfl
    · rw [if_neg e, if_neg e]
theorem look_put (l : List PI) (x v y : Int) : look (put l x v) y = if y = x then some v else look l y := by
  unfold put
  by_cases a : (l.any fun p => decide (p.a = x)) = true
  · rw [if_pos a, look_map]
    by_cases e : y = x
    · rw [if_pos e, e]
      rw [look_any] at a
      obtain ⟨z, hz⟩ := Option.isSome_iff_exists.mp a
      rw [hz, Option.map_some, if_pos rfl]
    · rw [if_neg e]
      cases look l y with
      | none => rfl
      | some z => rw [Option.map_some, if_neg e]
  · rw [if_neg a, look_app]
    rw [look_any] at a
    by_cases e : y = x
    · rw [if_pos e, e]
      cases h : look l x with
      | none => rw [look_cons, if_pos rfl]; rfl
      | some z => rw [h] at a; exact absurd rfl a
    · rw [if_neg e, look_cons, if_neg (fun z => e z.symm), look_nil]
      cases look l y <;> rfl
/-- no place twice -/
def Nd (l : List PI) : Prop := (l.map (·.a)).Nodup
theorem look_none {l : List PI} {x : Int} : look l x = none ↔ x ∉ l.map (·.a) := by
  induction l with
  | nil => simp [look_nil]
  | cons p l ih =>
    rw [look_cons, List.map_cons, List.mem_cons]
    by_cases e : p.a = x
    · rw [if_pos e]; simp [e]
    · rw [if_neg e, ih]
      constructor
      · intro h z
        rcases z with z | z
        · exact e z.symm
        · exact h z
      · intro h z
        exact h (.inr z)
theorem look_mem {l : List PI} (h : Nd l) {p : PI} (m : p ∈ l) : look l p.a = some p.b := by
  induction l with
  | nil => cases m
  | cons q l ih =>
    have h' := List.nodup_cons.mp h
    rw [look_cons]
    rcases List.mem_cons.mp m with rfl | m
    · rw [if_pos rfl]
    · rw [if_neg (fun e => h'.1 (by show q.a ∈ _; rw [e]; exact List.mem_map.mpr ⟨p, m, rfl⟩))]
      exact ih h'.2 m
theorem mem_look {l : List PI} {x v : Int} (h : look l x = some v) : (⟨x, v⟩ : PI) ∈ l := by
  induction l with
  | nil => cases h
  | cons q l ih =>
    rw [look_cons] at h
    by_cases e : q.a = x
    · rw [if_pos e] at h
      cases h
      subst e
      exact List.mem_cons_self
    · rw [if_neg e] at h
      exact List.mem_cons_of_mem _ (ih h)
theorem nd_put {l : List PI} (h : Nd l) (x v : Int) : Nd (put l x v) := by
  unfold put
  by_cases a : (l.any fun p => decide (p.a = x)) = true
  · rw [if_pos a]
    unfold Nd
    rw [List.map_map]
    have e : ((fun p : PI => p.a) ∘ fun p : PI => if p.a = x then (⟨p.a, v⟩ : PI) else p) = fun p : PI => p.a := by
      funext p
      simp only [Function.comp]
      split <;> rfl
    rw [e]; exact h
  · rw [if_neg a]
    unfold Nd
    rw [List.map_append]
    refine nd_snoc h ?_
    rw [look_any] at a
    refine look_none.mp ?_
    cases q : look l x with
    | none => rfl
    | some z => rw [q] at a; exact absurd rfl a
theorem put_new {l : List PI} {x : Int} (v : Int) (h : look l x = none) : put l x v = l ++ [⟨x, v⟩] := by
  unfold put
  rw [look_any, h]
  rfl
theorem merge_nd {m : List PI} : ∀ {l : List PI}, Nd (l ++ m) → merge l m = l ++ m := by
  induction m with
  | nil => intro l _; simp [merge]
  | cons p m ih =>
    intro l h
    have e : l ++ p :: m = (l ++ [p]) ++ m := by simp
    have hn : look l p.a = none := by
      refine look_none.mpr fun z => ?_
      unfold Nd at h
      rw [List.map_append] at h
      exact (List.nodup_append.mp h).2.2 _ z _ (by rw [List.map_cons]; exact List.mem_cons_self) rfl
    show merge (put l p.a p.b) m = _
    rw [put_new _ hn, e]
    exact ih (by rw [← e]; exact h)
theorem nd_nil : Nd [] := List.nodup_nil
theorem put_len (l : List PI) (x v : Int) : (put l x v).length ≤ l.length + 1 := by
  unfold put
  split
  · rw [List.length_map]; omega
  · rw [List.length_append]; exact Nat.le_refl _
/-- Python's order of pairs -/
def leP (p q : PI) : Bool := decide (p.a < q.a) || (decide (p.a = q.a) && decide (p.b ≤ q.b))
theorem leP_iff {p q : PI} : leP p q = true ↔ p.a < q.a ∨ (p.a = q.a ∧ p.b ≤ q.b) := by simp [leP]
def ins (p : PI) : List PI → List PI
  | [] => [p]
  | q :: l => if leP p q = true then p :: q :: l else q :: ins p l
def srt (l : List PI) : List PI := l.foldr ins []
theorem ins_perm (p : PI) : ∀ l : List PI, (ins p l).Perm (p :: l)
  | [] => List.Perm.refl _
  | q :: l => by
    unfold ins
    split
    · exact List.Perm.refl _
    · exact (List.Perm.cons q (ins_perm p l)).trans (List.Perm.swap p q l)
theorem srt_perm : ∀ l : List PI, (srt l).Perm l
  | [] => List.Perm.refl _
  | p :: l => (ins_perm p (srt l)).trans ((srt_perm l).cons p)
abbrev LeP (p q : PI) : Prop := leP p q = true
theorem leP_trans {p q r : PI} (h1 : LeP p q) (h2 : LeP q r) : LeP p r := by
  have a := leP_iff.mp h1
  have b := leP_iff.mp h2
  exact leP_iff.mpr (by omega)
theorem leP_total (p q : PI) : LeP p q ∨ LeP q p := by
  show leP p q = true ∨ leP q p = true
  rw [leP_iff, leP_iff]
  omega
theorem ins_srt (p : PI) : ∀ {l : List PI}, l.Pairwise LeP → (ins p l).Pairwise LeP
  | [], _ => List.pairwise_singleton _ _
  | q :: l, h => by
    have h' := List.pairwise_cons.mp h
    unfold ins
    split
    · rename_i e
      refine List.pairwise_cons.mpr ⟨fun x m => ?_, h⟩
      rcases List.mem_cons.mp m with rfl | m
      · exact e
      · exact leP_trans e (h'.1 x m)
    · rename_i e
      refine List.pairwise_cons.mpr ⟨fun x m => ?_, ins_srt p h'.2⟩
      rcases List.mem_cons.mp ((ins_perm p l).mem_iff.mp m) with rfl | m
      · rcases leP_total q x with z | z
        · exact z
        · exact absurd z e
      · exact h'.1 x m
theorem srt_srt : ∀ l : List PI, (srt l).Pairwise LeP
  | [] => List.Pairwise.nil
  | p :: l => ins_srt p (srt_srt l)
theorem leP_anti {p q : PI} (h1 : LeP p q) (h2 : LeP q p) : p = q := by
  have a := leP_iff.mp h1
  have b := leP_iff.mp h2
  obtain ⟨x, y⟩ := p
  obtain ⟨x', y'⟩ := q
  have e1 : x = x' := by show x = x'; simp only at a b; omega
  have e2 : y = y' := by simp only at a b; omega
  rw [e1, e2]
/-- there is one sorted list of them -/
theorem srt_uniq : ∀ {l m : List PI}, l.Pairwise LeP → m.Pairwise LeP → l.Perm m → l = m
  | [], m, _, _, h => (List.Perm.eq_nil h.symm).symm
  | x :: l, [], _, _, h => absurd h.length_eq (by simp)
  | x :: l, y :: m, hl, hm, h => by
    have l' := List.pairwise_cons.mp hl
    have m' := List.pairwise_cons.mp hm
    have h1 : LeP y x := by
      rcases List.mem_cons.mp (h.mem_iff.mp (List.mem_cons_self (a := x) (l := l))) with e | z
      · rw [e]; rcases leP_total y y with z | z <;> exact z
      · exact m'.1 x z
    have h2 : LeP x y := by
      rcases List.mem_cons.mp (h.mem_iff.mpr (List.mem_cons_self (a := y) (l := m))) with e | z
      · rw [e]; rcases leP_total x x with z | z <;> exact z
      · exact l'.1 y z
    have e := leP_anti h2 h1
    subst e
    rw [srt_uniq l'.2 m'.2 h.cons_inv]
theorem srt_of {l m : List PI} (h : m.Pairwise LeP) (p : m.Perm l) : m = srt l := srt_uniq h (srt_srt l) (p.trans (srt_perm l).symm)
/-- what a value says as a pair, read off the heap -/
def pOf (H : Hp) : V → Int × Int
  | .ref t => match H t with
    | some (.tup [.int i, .int j]) => (i, j)
    | _ => (0, 0)
  | _ => (0, 0)
theorem pOf_is {H : Hp} {v : V} {d : PI} (h : Is H v d) : ∃ t, v = .ref t ∧ H t = some (.tup [.int (pOf H v).1, .int (pOf H v).2]) ∧ d = ⟨(pOf H v).1, (pOf H v).2⟩ := by
  obtain ⟨t, x, y, rfl, h1, h2, h3⟩ := h
  have h2 : x = .int d.a := h2
  have h3 : y = .int d.b := h3
  subst h2
  subst h3
  have e : pOf H (.ref t) = (d.a, d.b) := by simp only [pOf, h1]
  exact ⟨t, rfl, by rw [e]; exact h1, by rw [e]⟩
theorem all_of {H : Hp} : ∀ {xs : List V} {l : List PI}, IsAll H xs l → l = xs.map fun v => (⟨(pOf H v).1, (pOf H v).2⟩ : PI) := fun {xs l} h => by
  refine List.ext_getElem? fun i => ?_
  rw [List.getElem?_map]
  cases e : xs[i]? with
  | none =>
    have := List.getElem?_eq_none_iff.mp e
    exact List.getElem?_eq_none_iff.mpr (by rw [← h.1]; exact this)
  | some x =>
    obtain ⟨d, hd, hx⟩ := h.get' e
    obtain ⟨t, _, _, q⟩ := pOf_is hx
    rw [hd, q]
    rfl
/-- sorted of a list of pairs -/
theorem sort_pairs {K : PySem.W.Frag} {F H : Hp} {a : Addr} {xs : List V} {l : List PI} {Q : VK} (sF : Same F H) (hx : IsAll F xs l) (ha : SqL K H a xs) (q : ∀ ys p, H p = none → IsAll F ys (srt l) → Q (.ref p) (upd H p (.lst ys))) : rSortQ K [.ref a] H Q := by
  unfold rSortQ
  refine ⟨a, xs, pOf F, rfl, ha, fun x m => ?_, fun ys p hs hb np => q ys p np ?_⟩
  · obtain ⟨i, hi⟩ := List.getElem?_of_mem m
    obtain ⟨d, _, hd⟩ := hx.get' hi
    obtain ⟨t, e, h, _⟩ := pOf_is hd
    exact ⟨t, e, sF _ _ h⟩
  · have el := all_of hx
    have hys : IsAll F ys (ys.map fun v => (⟨(pOf F v).1, (pOf F v).2⟩ : PI)) := by
      refine ⟨by rw [List.length_map], fun i x y h1 h2 => ?_⟩
      rw [List.getElem?_map, h1] at h2
      cases h2
      have m : x ∈ xs := hb.perm.mem_iff.mp (List.mem_of_getElem? h1)
      obtain ⟨j, hj⟩ := List.getElem?_of_mem m
      obtain ⟨d, _, hd⟩ := hx.get' hj
      obtain ⟨t, e, h, e2⟩ := pOf_is hd
      exact ⟨t, _, _, e, h, rfl, rfl⟩
    have es : (ys.map fun v => (⟨(pOf F v).1, (pOf F v).2⟩ : PI)) = srt l := by
      refine srt_of ?_ ?_
      · refine List.pairwise_map.mpr (List.Pairwise.imp (fun {x y} h => ?_) hs)
        have h := SrtO.lexB_no.mp h
        exact leP_iff.mpr (by simp only; omega)
      · rw [el]
        exact hb.perm.map _
    rw [es] at hys
    exact hys
theorem pairs_of {K : PySem.W.Frag} {H : Hp} : ∀ {xs : List V} {l : List PI}, IsAll H xs l → ∃ ps : List Addr, xs = ps.map V.ref ∧ Paired (fun p kv => SqT K H p [kV kv.1, kv.2]) ps (dI l)
  | [], [], _ => ⟨[], rfl, .nil⟩
  | [], d :: l, h => by have := h.1; simp at this
  | x :: xs, [], h => by have := h.1; simp at this
  | x :: xs, d :: l, h => by
    obtain ⟨t, x1, x2, e, h1, h2, h3⟩ := h.2 0 x d rfl rfl
    have h2 : x1 = .int d.a := h2
    have h3 : x2 = .int d.b := h3
    subst h2
    subst h3
    obtain ⟨ps, e2, p⟩ := pairs_of (K := K) (xs := xs) (l := l) ⟨by have := h.1; simpa using this, fun i a b p q => h.2 (i + 1) a b (by simpa using p) (by simpa using q)⟩
    exact ⟨t :: ps, by rw [e, e2]; rfl, .cons (SqT.of h1) p⟩
/-- dict(pairs) -/
theorem dict_pairs {K : PySem.W.Frag} {H : Hp} {a : Addr} {xs : List V} {l : List PI} {Q : VK} (hx : IsAll H xs l) (ha : SqL K H a xs) (q : ∀ p, H p = none → Q (.ref p) (upd H p (.dK (dI (merge [] l))))) : rDictP K [.ref a] H Q := by
  unfold rDictP
  obtain ⟨ps, e, p⟩ := pairs_of (K := K) hx
  refine ⟨a, ps, dI l, rfl, by rw [← e]; exact ha, p, fun d nd => ?_⟩
  have e2 : mergeK [] (dI l) = dI (merge [] l) := dI_merge l []
  rw [e2]
  exact q d nd
/-! ### a dict under its lock -/
theorem lock_in {F H : Hp} {d : Addr} {o : HO} (s : Same F H) : Same (fun c => if c = d then none else F c) (upd H d o) := fun c u h => by
  by_cases e : c = d
  · simp only [e, if_true] at h; cases h
  · simp only [e, if_false] at h
    rw [upd_ne e]; exact s c u h
theorem lock_out {F H F2 H2 : Hp} {d : Addr} {o u : HO} (s : Same F H) (h : H d = some u) (g : Gr mu0 (fun c => if c = d then none else F c) (upd H d o) F2 H2) :
    H2 d = some o ∧ Same F2 (fun c => if c = d then F d else F2 c) ∧ Gr mu0 F H (fun c => if c = d then F d else F2 c) (upd H2 d u) := by
  have n2 : F2 d = none := by
    cases e : F2 d with
    | none => rfl
    | some z =>
      rcases g.nw d z e with k | k
      · simp only [if_true] at k; cases k
      · rw [upd_same] at k; cases k
  refine ⟨g.fr d o upd_same (fun z => z), fun c z e => ?_, ⟨fun c z e => ?_, fun c z e => ?_, fun c z e => ?_, fun c z e m => ?_, fun c e => ?_⟩⟩
  · by_cases k : c = d
    · rw [k, n2] at e; cases e
    · simp only [k, if_false]; exact e
  · by_cases k : c = d
    · simp only [k, if_true]; rw [← k]; exact e
    · simp only [k, if_false]
      exact g.ff c z (by simp only [k, if_false]; exact e)
  · by_cases k : c = d
    · simp only [k, if_true] at e
      rw [k, upd_same, ← h]
      exact s d z e
    · simp only [k, if_false] at e
      rw [upd_ne k]; exact g.fh c z e
  · by_cases k : c = d
    · simp only [k, if_true] at e
      exact .inl (by rw [k]; exact e)
    · simp only [k, if_false] at e
      rcases g.nw c z e with q | q
      · simp only [k, if_false] at q; exact .inl q
      · rw [upd_ne k] at q; exact .inr q
  · by_cases k : c = d
    · rw [k, upd_same]; rw [k, h] at e; exact e
    · rw [upd_ne k]
      exact g.fr c z (by rw [upd_ne k]; exact e) (fun z => z)
  · by_cases k : c = d
    · rw [k, upd_same] at e; cases e
    · rw [upd_ne k] at e
      have q := g.th c e
      rw [upd_ne k] at q; exact q
/-- the signs that aren't 0, in order -/
def nz (p : PI) : Bool := decide (p.b ≠ 0)
def told (l : List PI) : List PI := srt (l.filter nz)
theorem dI_get {l : List PI} {i : Nat} (h : i < l.length) : (dI l)[i]? = some (Sum.inl l[i].a, V.int l[i].b) := by
  unfold dI
  rw [List.getElem?_map, List.getElem?_eq_getElem h]
  rfl
theorem filter_take_succ {l : List PI} {f : PI → Bool} {i : Nat} (h : i < l.length) : (l.take (i + 1)).filter f = (l.take i).filter f ++ (if f l[i] = true then [l[i]] else []) := by
  rw [List.take_add_one, List.getElem?_eq_getElem h, List.filter_append]
  show _ ++ List.filter f [l[i]] = _
  rw [List.filter_cons]
  split <;> rfl
theorem nd_srt {l : List PI} (h : Nd l) : Nd (srt l) := ((srt_perm l).map (fun p : PI => p.a)).nodup_iff.mpr h
theorem mem_srt {l : List PI} {q : PI} : q ∈ srt l ↔ q ∈ l := (srt_perm l).mem_iff
theorem mem_put {l : List PI} {x v : Int} {q : PI} (m : q ∈ put l x v) : q ∈ l ∨ q = ⟨x, v⟩ := by
  unfold put at m
  split at m
  · obtain ⟨z, hz, e⟩ := List.mem_map.mp m
    split at e
    · rename_i h1 h2
      exact .inr (by rw [← e, h2])
    · exact .inl (by rw [← e]; exact hz)
  · rcases List.mem_append.mp m with m | m
    · exact .inl m
    · exact .inr (List.mem_singleton.mp m)
/-! ### sorted(d.items()), d a dict of ints to ints -/
section
open PySem.Spec PyProof.Rows
variable {X : Cx}
/-- many new things are tracked at once -/
theorem inv_many {pins : List (Addr × Obj)} {σ : L2.St} {H H' : Hp} {s : Shared} {h' : Heap} {tk : Nat} {as : List Addr} (I : Inv X pins σ H s) (k : ∀ b o, s.heap.get? b = some o → h'.get? b = some o) (hp : ∀ a ∈ as, s.heap.objs.size ≤ a)
    (p1 : ∀ b, b ∉ as → H' b = H b) (p2 : ∀ b ∈ as, ∀ o, H' b = some o → ObjOk X.prog X.w H' h' b o) : Inv X pins σ H' { s with heap := h', toks := tk } := by
  have old : ∀ b o, s.heap.get? b = some o → b ∉ as := fun b o e z => Nat.lt_irrefl _ (Nat.lt_of_lt_of_le (Heap.lt_size e) (hp b z))
  have trc : ∀ b o, H b = some o → b ∉ as := fun b o e z => by
    have := I.hok.lt e
    exact Nat.lt_irrefl _ (Nat.lt_of_lt_of_le this (hp b z))
  have kp : ∀ b o, H b = some o → H' b = some o := fun b o e => by rw [p1 b (trc b o e)]; exact e
  refine I.un ⟨fun b o q _ _ _ => k b o q, fun b o q _ _ _ => ⟨o.slots, k b o q⟩, fun b o q n _ => by rw [p1 b (old b o q)]; exact n, fun b o q _ => ⟨o, k b o q⟩, fun b xs e => kp b _ e, fun b o u e => kp b _ e, fun b ps e => ⟨#[], by rw [kp b _ e]; simp⟩⟩ fun b o e => ?_
  by_cases m : b ∈ as
  · exact p2 b m o e
  · rw [p1 b m] at e
    exact (I.hok b o e).stay (fun c u _ q => k c u q) (fun c q => kp c _ q) fun c xs q => kp c _ q
/-- the pair that stands at a -/
def pzAt (zs : List (Addr × PI)) (a : Addr) : Option PI := (zs.find? fun z => decide (z.1 = a)).map (·.2)
theorem pzAt_ix : ∀ {zs : List (Addr × PI)}, (zs.map (·.1)).Nodup → ∀ {j : Nat} {z : Addr × PI}, zs[j]? = some z → pzAt zs z.1 = some z.2
  | [], _, j, z, h => by cases h
  | y :: ys, nd, 0, z, h => by
    have e := Option.some.inj h
    subst e
    simp [pzAt]
  | y :: ys, nd, j + 1, z, h => by
    have nd' := List.nodup_cons.mp nd
    have m : z.1 ∈ ys.map (·.1) := List.mem_map.mpr ⟨z, List.mem_of_getElem? (show ys[j]? = some z from h), rfl⟩
    have ih := pzAt_ix nd'.2 (show ys[j]? = some z from h)
    have ne : ¬ y.1 = z.1 := fun e => nd'.1 (by show y.1 ∈ _; rw [e]; exact m)
    unfold pzAt at ih ⊢
    rw [List.find?_cons, decide_eq_false ne]
    exact ih
theorem pzAt_no {zs : List (Addr × PI)} {a : Addr} (h : a ∉ zs.map (·.1)) : pzAt zs a = none := by
  unfold pzAt
  rw [List.find?_eq_none.mpr fun z m e => h (List.mem_map.mpr ⟨z, m, of_decide_eq_true e⟩)]
  rfl
def trk (H : Hp) (B : Addr) (L : HO) (zs : List (Addr × PI)) : Hp := fun b => if b = B then some L else match pzAt zs b with
  | some q => some (.tup [.int q.a, .int q.b])
  | none => H b
def adOf : Value → Addr
  | .ref a => a
  | _ => 0
@[irreducible] def rSortIt : V → Hp → VK → Prop := fun x H Q => ∃ (d : Addr) (l : List PI), x = .ref d ∧ H d = some (.dK (dI l)) ∧
  ∀ (H' : Hp) (p : Addr) (ys : List Addr), Same H H' → H p = none → (∀ t ∈ ys, H t = none) → p ∉ ys → (∀ b, b ≠ p → b ∉ ys → H' b = H b) → H' p = some (.lst (ys.map V.ref)) → All2 (fun t (q : PI) => H' t = some (.tup [.int q.a, .int q.b])) ys (srt l) → Q (.ref p) H'
def tSortIt (te : TE) : TE := fun σ H Q => te σ H fun x H1 => rSortIt x H1 Q
theorem pe_sortedItems {e : Expr} {te : TE} {p apos cpos pos : Pos} (hc : X.calm = true) (he : PE X e te) (hg : Gl X "sorted") (hm : X.mg "sorted" = none) (hv : bootBuiltins "sorted" = some (.builtin "sorted")) (hbase : attributeBase e "items" X.env (eval e X.env) = eval e X.env := by rfl) (hline : (apos.endLine == cpos.line) = true := by rfl)
    (hs : starEach [.Call (.Attribute e "items" apos) [] [] cpos] X.env = (false, eval (.Call (.Attribute e "items" apos) [] [] cpos) X.env) :: starEach [] X.env := by rfl) :
    PE X (.Call (.Name "sorted" p) [.Call (.Attribute e "items" apos) [] [] cpos] [] pos) (tSortIt te) := by
  refine ⟨fun pins s σ H Q I hq => ?_⟩
  refine wpAny_Call_Name_kw (ld_blt I hg hm hv ?_)
  refine PyProof.Rows.callWith_builtin1 ?_ hs rfl
  rw [hs]
  show wpAny _ _ (spliced ((false, eval (.Call (.Attribute e "items" apos) [] [] cpos) X.env) :: backTo pos (starEach [] X.env))) _ _ s
  refine Calls.spliced_cons ?_
  refine wpAny_Call_method (T := "dict") (id := "dict.items") hbase rfl hline F.plainAttrs_dict F.slot_dict_items F.type_dict_items (thn (he.run pins s σ H _ I hq) fun u s1 ⟨x, H1, I1, rx, q⟩ => ?_)
  unfold rSortIt at q
  obtain ⟨d, l, rfl, hd, q⟩ := q
  obtain rfl : u = Value.ref d := rx
  obtain ⟨hz, hs0, vs, kv, hdo⟩ := I1.hok d _ hd
  obtain ⟨ep, hat⟩ := hdo.dictAt
  have lk : (dI l).length = vs.length := Paired.length kv
  have ll : (dI l).length = l.length := by unfold dI; rw [List.length_map]
  refine ⟨hdo.typeIs, hdo.mapOf.noDict, ?_⟩
  show wpAny _ _ (callWith cpos (.builtin "dict.items") [.ref d] [] []) _ X.xe s1
  refine method_meetsIn F.slot_dict_items F.entry_dict_items rfl (PySem.evalArgs_none ⟨rfl, hdo.typeIs, F.args_dict_items_1 _, _, meets_dict_items (mixKind X.prog X.w) d hs0, ⟨vs, hdo⟩, ?_⟩)
  refine Calls.spliced_nil ?_
  have I2 : Inv X pins σ H1 { s1 with heap := s1.heap.push { cls := .type "dict_items", data := .fields #[.ref d] } } := I1.kept (t' := s1.toks) fun b ob q => Heap.get?_push_of_some _ q
  have hB : ((H1 d).isSome) = true := by rw [hd]; rfl
  refine Calls.call_function_entry kind_sorted plain_sorted entry_sorted (args_sorted1 _) (by
    unfold Builtin.«sorted»
    refine wpAny_bind (m := checkCount "sorted" 1 1 _) (wpAny_pure (wpAny_bind (PySem.W.kdx_collect (knd := mixKind X.prog X.w) (kvs := vs) (ep := ep) (I1.ok.hd hc) ⟨_, Heap.get?_push_size _ rfl, rfl, rfl⟩ (hat.push _) (by omega) fun h1 tk as hk hl hG => ?_)))
    refine wpAny_bind (wpAny_newList ?_ (by rw [List.length_map, hl]; omega))
    -- the pairs' tuples: at as
    have nd : as.Nodup := hG.rise.imp fun {a b} h => Nat.ne_of_lt h
    have lz : (as.zip l).map (·.1) = as := List.map_fst_zip (by omega)
    have zx : ∀ (j : Nat) (a : Addr), as[j]? = some a → ∃ (q : PI) (t u : Tok), l[j]? = some q ∧ pzAt (as.zip l) a = some q ∧ h1.get? a = some { cls := .type "tuple", data := .seq #[.int q.a t, .int q.b u] } := fun j a h => by
      obtain ⟨key, k, x, e1, e2, e3⟩ := hG.pairs j a h
      have jl : j < l.length := by have := (List.getElem?_eq_some_iff.mp h).1; omega
      have lj : l[j]? = some l[j] := List.getElem?_eq_getElem jl
      obtain ⟨y, e4, e5, e6⟩ := LiI.paired_get kv (dI_get jl)
      rw [e1] at e4
      have e4 := Option.some.inj e4
      subst e4
      obtain ⟨i, tk1, e7, rfl⟩ | ⟨z, tk1, e7, _⟩ := keyIs_shape (show keyIs k key = true from e2)
      · have e5 : Sum.inl l[j].a = k := e5
        rw [e7] at e5
        have e5 := Sum.inl.inj e5
        subst e5
        obtain ⟨tk2, e6⟩ := (show RelV (.int l[j].b) x from e6)
        subst e6
        exact ⟨l[j], tk1, tk2, lj, pzAt_ix (zs := as.zip l) (by rw [lz]; exact nd) (j := j) (z := (a, l[j])) (List.getElem?_zip_eq_some.mpr ⟨h, lj⟩), e3⟩
      · have e5 : Sum.inl l[j].a = k := e5
        rw [e7] at e5
        cases e5
    have zm : ∀ a ∈ as, ∃ (q : PI) (t u : Tok), pzAt (as.zip l) a = some q ∧ h1.get? a = some { cls := .type "tuple", data := .seq #[.int q.a t, .int q.b u] } := fun a m => by
      obtain ⟨j, hj⟩ := List.getElem?_of_mem m
      obtain ⟨q, t, u, _, h2, h3⟩ := zx j a hj
      exact ⟨q, t, u, h2, h3⟩
    have lm : as.map (fun a => (pzAt (as.zip l) a).getD ⟨0, 0⟩) = l := by
      refine List.ext_getElem? fun j => ?_
      rw [List.getElem?_map]
      cases hj : as[j]? with
      | none =>
        have := List.getElem?_eq_none_iff.mp hj
        exact (List.getElem?_eq_none_iff.mpr (by omega)).symm
      | some a =>
        obtain ⟨q, t, u, h1, h2, _⟩ := zx j a hj
        rw [h1, Option.map_some, h2]; rfl
    generalize ezs : as.zip l = zs at zx zm lm lz
    have s12 : (s1.heap.push { cls := .type "dict_items", data := .fields #[.ref d] }).objs.size ≤ h1.objs.size := by
      have := Heap.lt_size (hk _ _ (Heap.get?_push_size s1.heap rfl))
      rw [Heap.size_push]; exact this
    have Bn : h1.objs.size ∉ as := fun z => Nat.lt_irrefl _ (hG.there z)
    let kk : Value → Int × Int := fun v => (((pzAt zs (adOf v)).getD ⟨0, 0⟩).a, ((pzAt zs (adOf v)).getD ⟨0, 0⟩).b)
    have ho : (h1.push { cls := .type "list", data := .seq (as.map Value.ref).toArray }).get? h1.objs.size = some (seqObj "list" (as.map Value.ref).toArray 0) := Heap.get?_push_size _ rfl
    refine wpAny_bind (wpAny_holding (wpAny_call_entry slot_list_sort ⟨_, ho, rfl⟩ entry_list_sort (SrtO.list_sort_ord (ltv := fun v u => SrtO.lexB (kk v) (kk u)) (SrtO.swo_lex kk) ho (by rw [List.length_map, hl]; omega) (fun h2 => ?_) fun out hso hbo => ⟨_, rfl, wpAny_pure ⟨_, rfl, ?_⟩⟩) (args_list_sort _)))
    · refine SrtO.pairs_sortableO (k := kk) (by omega) (fun v m => ?_) fun o e => ?_
      · obtain ⟨a, ma, rfl⟩ := List.mem_map.mp m
        obtain ⟨q, t, u, h1', h2'⟩ := zm a ma
        refine ⟨a, _, t, u, 0, rfl, Heap.get?_push_of_some _ h2', rfl, ?_⟩
        show _ = Data.seq #[.int ((pzAt zs a).getD ⟨0, 0⟩).a t, .int ((pzAt zs a).getD ⟨0, 0⟩).b u] 0
        rw [h1']
        rfl
      · rw [ho] at e
        cases e
        intro c
        exact absurd (Value.type.inj c) (by decide)
    · have outp : out.Perm (as.map Value.ref) := hbo.perm
      have oe : out = (out.map adOf).map Value.ref := by
        rw [List.map_map]
        refine (List.map_id out).symm.trans (List.map_congr_left fun v m => ?_)
        obtain ⟨a, _, rfl⟩ := List.mem_map.mp (outp.mem_iff.mp m)
        rfl
      have yp : (out.map adOf).Perm as := by
        have := outp.map adOf
        rw [List.map_map] at this
        have e : as.map (adOf ∘ Value.ref) = as := (List.map_congr_left fun a _ => rfl).trans (List.map_id as)
        rw [e] at this; exact this
      generalize out.map adOf = ys at oe yp
      have lo : out.length ≤ sizeLine := by rw [oe, List.length_map, yp.length_eq, hl]; omega
      obtain ⟨ep3, h3B⟩ := sortedHeap_at (vs := as.map Value.ref) (out := out.toArray) ho
      have h3o : ∀ b o, h1.get? b = some o → (sortedHeap (h1.push { cls := .type "list", data := .seq (as.map Value.ref).toArray }) h1.objs.size (as.map Value.ref) out.toArray).get? b = some o := fun b o e => by
        have bl := Heap.lt_size e
        rw [sortedHeap_old (Nat.ne_of_lt bl) (by rw [Heap.size_push]; exact Nat.lt_succ_of_lt bl)]
        exact Heap.get?_push_of_some _ e
      have tB : trk H1 h1.objs.size (.lst (ys.map V.ref)) zs h1.objs.size = some (.lst (ys.map V.ref)) := by unfold trk; rw [if_pos rfl]
      have tT : ∀ a ∈ as, ∀ q, pzAt zs a = some q → trk H1 h1.objs.size (.lst (ys.map V.ref)) zs a = some (.tup [.int q.a, .int q.b]) := fun a m q e => by
        unfold trk
        rw [if_neg (fun z => Bn (by rw [← z]; exact m)), e]
      have tO : ∀ b, b ≠ h1.objs.size → b ∉ as → trk H1 h1.objs.size (.lst (ys.map V.ref)) zs b = H1 b := fun b n m => by
        unfold trk
        rw [if_neg n, pzAt_no (by rw [lz]; exact m)]
      have big : ∀ a ∈ h1.objs.size :: as, (s1.heap.push { cls := .type "dict_items", data := .fields #[.ref d] }).objs.size ≤ a := fun a m => by
        rcases List.mem_cons.mp m with rfl | m
        · exact s12
        · exact Nat.le_of_lt (hG.above a m)
      have J := inv_many (tk := tk) (H' := trk H1 h1.objs.size (.lst (ys.map V.ref)) zs) (h' := sortedHeap (h1.push { cls := .type "list", data := .seq (as.map Value.ref).toArray }) h1.objs.size (as.map Value.ref) out.toArray) (as := h1.objs.size :: as) I2 (fun b o e => h3o b o (hk b o e)) big
          (fun b m => tO b (fun z => m (by rw [z]; exact List.mem_cons_self)) (fun z => m (List.mem_cons_of_mem _ z))) (fun b m o e => by
        by_cases hb : b = h1.objs.size
        · subst hb
          rw [tB] at e
          cases e
          refine ⟨by rw [List.length_map, yp.length_eq, hl]; omega, out, ep3, ?_, h3B⟩
          rw [oe]
          exact LiI.vals_refs ys
        · have m := (List.mem_cons.mp m).resolve_left hb
          obtain ⟨q, t, u, e1, e2⟩ := zm b m
          rw [tT b m q e1] at e
          cases e
          exact ⟨two_le, [.int q.a t, .int q.b u], .cons ⟨_, rfl⟩ (.cons ⟨_, rfl⟩ .nil), ⟨_, h3o b _ e2, rfl, _, rfl⟩⟩)
      have fr1 : ∀ a ∈ h1.objs.size :: as, H1 a = none := fun a m => I2.hok.fresh (big a m)
      have ym : ∀ a, a ∈ ys ↔ a ∈ as := fun a => yp.mem_iff
      refine ⟨.ref h1.objs.size, _, J, rfl, q _ _ ys (fun b o e => ?_) (fr1 _ List.mem_cons_self) (fun t m => fr1 t (List.mem_cons_of_mem _ ((ym t).mp m))) (fun z => Bn ((ym _).mp z)) (fun b n m => tO b n fun z => m ((ym b).mpr z)) tB ?_⟩
      · rw [tO b (fun z => by rw [z, fr1 _ List.mem_cons_self] at e; cases e) (fun z => by rw [fr1 b (List.mem_cons_of_mem _ z)] at e; cases e)]
        exact e
      · have es : ys.map (fun a => (pzAt zs a).getD ⟨0, 0⟩) = srt l := by
          refine srt_of ?_ (by rw [← lm]; exact yp.map _)
          rw [oe] at hso
          have hso := List.pairwise_map.mp hso
          refine List.pairwise_map.mpr (hso.imp fun {x y} h => ?_)
          have h := SrtO.lexB_no.mp h
          exact leP_iff.mpr (by simp only [kk, adOf] at h; omega)
        rw [← es]
        refine ⟨by rw [List.length_map], fun i x y h1 h2 => ?_⟩
        rw [List.getElem?_map, h1] at h2
        cases h2
        have m := (ym x).mp (List.mem_of_getElem? h1)
        obtain ⟨q, t, u, e1, e2⟩ := zm x m
        rw [tT x m q e1]
        show _ = some (HO.tup [V.int ((pzAt zs x).getD ⟨0, 0⟩).a, V.int ((pzAt zs x).getD ⟨0, 0⟩).b])
        rw [e1]
        rfl)
theorem sitems {F H : Hp} {d : Addr} {l : List PI} {Q : VK} (sF : Same F H) (hd : H d = some (.dK (dI l))) (q : ∀ (F' H' : Hp) (p : Addr) (xs : List V), Gr mu0 F H F' H' → Ow H F' H' p (.lst xs) → IsAll F' xs (srt l) → Q (.ref p) H') : rSortIt (.ref d) H Q := by
  unfold rSortIt
  refine ⟨d, l, rfl, hd, fun H' p ys s n nt pn off hp al => ?_⟩
  have fy : ∀ b ∈ ys, F b = none := fun b m => sF.free (nt b m)
  have s' : Same F (fun b => if b ∈ ys then H' b else F b) := fun b o e => by
    by_cases m : b ∈ ys
    · rw [fy b m] at e; cases e
    · simp only [m, if_false]; exact e
  have e2 : ∀ b, b ∈ ys → (if b ∈ ys then H' b else F b) = H' b := fun b m => if_pos m
  refine q (fun b => if b ∈ ys then H' b else F b) H' p (ys.map V.ref) ⟨s', fun b o e => ?_, fun b o e => ?_, fun b o e _ => s b o e, fun b e => s.free e⟩ ⟨n, ?_, hp⟩ ⟨by rw [List.length_map]; exact al.1, fun i x y h1 h2 => ?_⟩
  · by_cases m : b ∈ ys
    · simp only [m, if_true] at e; exact e
    · simp only [m, if_false] at e; exact s b o (sF b o e)
  · by_cases m : b ∈ ys
    · exact .inr (nt b m)
    · simp only [m, if_false] at e; exact .inl e
  · show (if p ∈ ys then H' p else F p) = none
    rw [if_neg pn]; exact sF.free n
  · rw [List.getElem?_map] at h1
    cases e : ys[i]? with
    | none => rw [e] at h1; cases h1
    | some t =>
      rw [e] at h1
      cases h1
      refine ⟨t, _, _, rfl, ?_, rfl, rfl⟩
      show (if t ∈ ys then H' t else F t) = _
      rw [if_pos (List.mem_of_getElem? e)]
      exact al.2 i t y e h2
end
/-! ### sum of a tuple; a tuple not at all or once -/
section
open PySem.Spec PyProof.Rows
variable {X : Cx}
def rSumT (K : PySem.W.Frag) : List V → Hp → VK → Prop := fun vs H Q => ∃ (a : Addr) (ns : List Int), vs = [V.ref a] ∧ SqT K H a (ns.map V.int) ∧ Q (.int ns.sum) H
theorem cr_sumT (hc : X.calm = true) : CallR X (.builtin "sum") (rSumT X.K) := by
  intro pins s σ H vs us Q I r h
  obtain ⟨a, ns, rfl, ht, q⟩ := h
  obtain ⟨its, rv, ⟨o, ho, hcl, n, hd⟩, _⟩ := I.tuple ht
  have hi := rv.ints
  obtain ⟨xs, e⟩ := hi.allInts.items
  have hn : numsOf (intItems xs).toList = ns := by rw [← e]; exact hi.numsOf
  rw [nums_intItems] at hn
  rw [e] at hd
  rw [Vals.ref1 r]
  refine PySem.W.ktm_sumG (I.ok.hd hc) ⟨o, ho, hcl, n, hd⟩ fun h' tk t' hk => ?_
  rw [preSum_eq, List.take_of_length_le (by simp), hn]
  exact ⟨.int _, H, I.kept hk, ⟨_, rfl⟩, q⟩
theorem tup_mul1 (l : Addr) (items : Array Value) (n : Nat) (dd : Option Addr) (sl : Array (Option Value)) (u : Tok) (hne : items.isEmpty = false) :
    Meets (Builtin.«tuple.__mul__» ⟨[.ref l, .int 1 u], []⟩) (fun _ R s => s.heap.get? l = some { cls := .type "tuple", dict := dd, data := .seq items n, slots := sl } ∧ R (.ok (.ret (Value.ref l))) s) :=
  .of_wp fun prog w A R s h => by
    obtain ⟨hp, g, d, tk, os⟩ := s
    obtain ⟨hl, h⟩ := h
    have f1 := AutoSeq1.idx_int
    wp_walk using wpAny_loadPart' hl
    exact ⟨_, rfl, h⟩
theorem tup_mul0 (l : Addr) (items : Array Value) (n : Nat) (dd : Option Addr) (sl : Array (Option Value)) (u : Tok) (hne : items.isEmpty = false) :
    Meets (Builtin.«tuple.__mul__» ⟨[.ref l, .int 0 u], []⟩) (fun _ R s => s.heap.get? l = some { cls := .type "tuple", dict := dd, data := .seq items n, slots := sl } ∧
      R (.ok (.ret (Value.ref s.heap.objs.size))) { s with heap := s.heap.push { cls := Value.type "tuple", data := Data.seq #[] }, toks := s.toks }) :=
  .of_wp fun prog w A R s h => by
    obtain ⟨hp, g, d, tk, os⟩ := s
    obtain ⟨hl, h⟩ := h
    have f1 := AutoSeq1.idx_int
    wp_walk using wpAny_loadPart' hl
    exact ⟨_, rfl, h⟩
def rRep01 (K : PySem.W.Frag) : R2 := fun x y H Q => ∃ l k xs, x = .ref l ∧ y = .int k ∧ SqT K H l xs ∧ xs ≠ [] ∧ ((k = 1 ∧ Q (.ref l) H) ∨ (k = 0 ∧ ∀ p, H p = none → Q (.ref p) (upd H p (.tup []))))
theorem op_rep01 : OpR X (binaryOp .Mult) (rRep01 X.K) := by
  intro pins s σ H x y v u Q I rx ry h
  obtain ⟨l, k, xs, rfl, rfl, hT, hne, h⟩ := h
  cases rx
  obtain ⟨tk, rfl⟩ := ry
  obtain ⟨its, r, ⟨⟨cls, dd, data, sl⟩, ho, hc, n, hd⟩, hs⟩ := I.tuple hT
  simp only at hc hd
  subst hc hd
  have hi : its.toArray.isEmpty = false := by
    cases its with
    | nil => have := r.length; exact absurd (List.eq_nil_of_length_eq_zero this) hne
    | cons a b => rfl
  rcases h with ⟨rfl, q⟩ | ⟨rfl, q⟩
  · refine wpAny_binaryOp_repeat_ref (T := "tuple") (U := "int") (by decide) ⟨_, ho, rfl⟩ (fun s' => typeIs_int s' 1 tk) noFill_tuple_mul F.fills_int_mul F.slot_int_rmul repeat_tuple F.slot_int_index.lookup
      (call_meets F.slot_int_rmul (typeIs_int s 1 tk) F.entry_int_rmul (F.args_int_rmul_2 _ _) (int_rmul_tuple 1 tk l its.toArray n dd sl)
        ⟨ho, rfl, ⟨_, ho, rfl⟩, call_meets F.slot_tuple_mul ⟨_, ho, rfl⟩ F.entry_tuple_mul (F.args_tuple_mul_2 _ _) (tup_mul1 l its.toArray n dd sl tk hi) ⟨ho, ?_⟩⟩)
    exact ⟨.ref l, H, I, rfl, q⟩
  · refine wpAny_binaryOp_repeat_ref (T := "tuple") (U := "int") (by decide) ⟨_, ho, rfl⟩ (fun s' => typeIs_int s' 0 tk) noFill_tuple_mul F.fills_int_mul F.slot_int_rmul repeat_tuple F.slot_int_index.lookup
      (call_meets F.slot_int_rmul (typeIs_int s 0 tk) F.entry_int_rmul (F.args_int_rmul_2 _ _) (int_rmul_tuple 0 tk l its.toArray n dd sl)
        ⟨ho, rfl, ⟨_, ho, rfl⟩, call_meets F.slot_tuple_mul ⟨_, ho, rfl⟩ F.entry_tuple_mul (F.args_tuple_mul_2 _ _) (tup_mul0 l its.toArray n dd sl tk hi) ⟨ho, ?_⟩⟩)
    refine ⟨.ref s.heap.objs.size, _, I.laid (t' := s.toks) (o := .tup []) (fun b ob q => Heap.get?_push_of_some _ q) (Nat.le_refl _) ?_, rfl, q _ (I.hok.fresh (Nat.le_refl _))⟩
    exact ⟨nil_le, _, .nil, IsTup.new _ _⟩
end
/-! slices of tuples, +: the ways -/
@[irreducible] def rSlQ (K : PySem.W.Frag) : V → Option Int → Option Int → Hp → VK → Prop := rSlA K
theorem sl_tupQ {X : Cx} : SlR X (rSlQ X.K) := by
  unfold rSlQ
  exact sl_tupA
@[irreducible] def rCatQ (K : PySem.W.Frag) : R2 := rCatA K
theorem op_catQ {X : Cx} : OpR X (binaryOp .Add) (rCatQ X.K) := by
  unfold rCatQ
  exact op_catA
theorem slA_all {K : PySem.W.Frag} {H : Hp} {a : Addr} {xs : List V} {lo hi : Option Int} {Q : VK} (h : SqT K H a xs) (w : HT.sIx xs.length 0 lo = 0 ∧ HT.sIx xs.length xs.length hi = xs.length) (q : Q (.ref a) H) : rSlQ K (.ref a) lo hi H Q := by
  unfold rSlQ
  exact ⟨a, xs, rfl, h, fun _ => q, fun n => absurd w n⟩
theorem slA_cut {K : PySem.W.Frag} {H : Hp} {a : Addr} {xs : List V} {lo hi : Option Int} {Q : VK} (h : SqT K H a xs) (w : ¬ (HT.sIx xs.length 0 lo = 0 ∧ HT.sIx xs.length xs.length hi = xs.length)) (q : ∀ p, H p = none → Q (.ref p) (upd H p (.tup (cutV xs lo hi)))) : rSlQ K (.ref a) lo hi H Q := by
  unfold rSlQ
  exact ⟨a, xs, rfl, h, fun n => absurd n w, fun _ => q⟩
theorem catA_nil {K : PySem.W.Frag} {H : Hp} {a b : Addr} {ys : List V} {Q : VK} (h : SqT K H a []) (h2 : SqT K H b ys) (l : ys.length ≤ sizeLine) (q : Q (.ref b) H) : rCatQ K (.ref a) (.ref b) H Q := by
  unfold rCatQ
  exact ⟨a, b, [], ys, rfl, rfl, h, h2, by simpa using l, fun _ => q, fun n => absurd rfl n, fun n => absurd rfl n⟩
theorem catA_new {K : PySem.W.Frag} {H : Hp} {a b : Addr} {xs ys : List V} {Q : VK} (h : SqT K H a xs) (h2 : SqT K H b ys) (l : xs.length + ys.length ≤ sizeLine) (n1 : xs ≠ []) (n2 : ys ≠ []) (q : ∀ p, H p = none → Q (.ref p) (upd H p (.tup (xs ++ ys)))) : rCatQ K (.ref a) (.ref b) H Q := by
  unfold rCatQ
  exact ⟨a, b, xs, ys, rfl, rfl, h, h2, l, fun e => absurd e n1, fun _ e => absurd e n2, fun _ _ => q⟩
/-! ### enumerate(tuple); sorted(dict) of int keys, of any length -/
section
open PySem.Spec PyProof.Rows
set_option maxHeartbeats 8000000 in
theorem enT_new (t : Addr) (zs : Array Value) : Meets (Builtin.«enumerate.__new__» ⟨[.type "enumerate", .ref t], []⟩) (fun _ R s => s.heap.IsTuple t zs ∧
    R (.ok (.ret (.ref (s.heap.push { cls := .type "tuple_iterator", data := .fields #[.ref t, .int 0 0] }).objs.size)))
      { s with heap := (s.heap.push { cls := .type "tuple_iterator", data := .fields #[.ref t, .int 0 0] }).push { cls := .type "enumerate", data := .fields #[.none, .bool false, .ref s.heap.objs.size, rawInt 0, .none, .none] } }) :=
  .of_wp fun prog w A R s z => by
    obtain ⟨hp, gs, dr, tk, os⟩ := s
    obtain ⟨hz, z⟩ := z
    have sub := sub_enumerate
    have step : ∀ {A' : Around} {E : Value → Shared → Prop} {Q : Value → Shared → Prop}, Q (.ref hp.objs.size) ⟨hp.push { cls := .type "tuple_iterator", data := .fields #[.ref t, .int 0 0] }, gs, dr, tk, os⟩ → wpAny (model prog w) A' (pyIter (.ref t)) Q E ⟨hp, gs, dr, tk, os⟩ :=
      fun q => (begins_tuple t zs).iter prog w _ _ ⟨hp, gs, dr, tk, os⟩ _ hz q
    wp_walk using step
    refine wpAny_stack_any fun st => wpAny_pure ?_
    split
    · rename_i c _ _ _ _ _
      cases (c == Value.type "enumerate")
      · wp_walk using step
        exact ⟨_, rfl, z⟩
      · wp_walk using step
        exact ⟨_, rfl, z⟩
    · wp_walk using step
      exact ⟨_, rfl, z⟩
section
variable {prog : Program} {w : World} {A : Around} {E : Value → Shared → Prop} {s : Shared}
theorem enT_call {t : Addr} {zs : Array Value} {Q : Value → Shared → Prop} (ht : s.heap.IsTuple t zs)
    (k : ∀ h', IsEnum h' (s.heap.objs.size + 1) s.heap.objs.size 0 .none → h'.IsTupleIter s.heap.objs.size t 0 → h'.objs.size = s.heap.objs.size + 2 →
      (∀ b o, s.heap.get? b = some o → h'.get? b = some o) → Q (.ref (s.heap.objs.size + 1)) { s with heap := h' }) :
    wpAny (model prog w) A (call (.type "enumerate") [.ref t]) Q E s := by
  refine callType_new F.called_enumerate (by decide) (F.typeCall_enumerate_1 _) (F.newCall_enumerate_1 _) (fun obj => F.args_object_init_2 obj _) F.entry_enumerate_new (enT_new t zs) ⟨ht, ?_⟩
  have ez : (s.heap.push { cls := .type "tuple_iterator", data := .fields #[.ref t, .int 0 0] }).objs.size = s.heap.objs.size + 1 := Heap.size_push ..
  show _ ∧ _
  rw [ez]
  have en : IsEnum ((s.heap.push { cls := .type "tuple_iterator", data := .fields #[.ref t, .int 0 0] }).push { cls := .type "enumerate", data := .fields #[.none, .bool false, .ref s.heap.objs.size, rawInt 0, .none, .none] })
      (s.heap.objs.size + 1) s.heap.objs.size 0 .none := by
    have y := Heap.get?_push_size (s.heap.push { cls := .type "tuple_iterator", data := .fields #[.ref t, .int 0 0] }) (o := { cls := .type "enumerate", data := .fields #[.none, .bool false, .ref s.heap.objs.size, rawInt 0, .none, .none] }) rfl
    rw [ez] at y; exact y
  exact ⟨⟨_, en, rfl⟩, k _ en ⟨_, Heap.get?_push_of_some _ (Heap.get?_push_size _ rfl), rfl, rfl⟩ (by rw [Heap.size_push, ez]) fun b o x => Heap.get?_push_of_some _ (Heap.get?_push_of_some _ x)⟩
theorem enT_end {e it t : Addr} {i : Nat} {zs : Array Value} {old : Value} {Q : Option Value → Shared → Prop} (hh : A.handled = none) (he : IsEnum s.heap e it i old) (hit : s.heap.IsTupleIter it t i) (ht : s.heap.IsTuple t zs) (hx : zs.size ≤ i)
    (k : ∀ h', Heap.ExtBut it s.heap h' → Q none { s with heap := h' }) : wpAny (model prog w) A (pyNext (.ref e)) Q E s := by
  have hT : s.TypeIs (.ref e) "enumerate" := ⟨_, he, rfl⟩
  unfold pyNext
  refine wpAny_bind (wpAny_attempt (wpAny_callSpecial?_slot (name := Str.ofString "__next__") hT F.slot_enumerate_next (wpAny_call_entry F.slot_enumerate_next hT F.entry_enumerate_next ?_ (F.args_enumerate_next_1 _))))
  show wpAny _ _ (field (.ref e) 2 >>= _) _ _ _
  refine wpAny_bind (wpAny_field he rfl (x := .ref it) rfl (wpAny_bind (wpAny_nextOf_tuple_end (show A.in1.handled = none from hh) hit ht (Array.getElem?_eq_none hx) fun h' x eb hx' => ?_)))
  obtain ⟨o, ho, hc⟩ := hx'
  exact wpAny_bind (wpAny_isInstance (T := "StopIteration") (b := true) ⟨o, ho, hc⟩ isSubtype_stop (wpAny_pure (k _ eb)))
end
/-- the tuple at a, each item in a new pair with its place -/
def Iet (K : PySem.W.Frag) (a : Addr) : It :=
  ⟨fun i H => ∃ (xs : List V) (x : V), SqT K H a xs ∧ xs[i]? = some x, fun i H v H' => ∃ T x, v = .ref T ∧ H T = none ∧ H' = upd H T (.tup [.int (i : Nat), x]) ∧ ∀ xs, SqT K H a xs → xs[i]? = some x, fun i H => ∃ xs : List V, SqT K H a xs ∧ xs.length ≤ i⟩
theorem turn_enT {P : Program} {w : World} {K : PySem.W.Frag} {elts : List PySem.Expr} {kk : Nat} {tpos : Pos} (a e it : Addr) (ae : a ≠ e) (ai : a ≠ it) :
    Turn P w K (.Tuple elts kk tpos) (Iet K a) [e, it] e (fun i h => (∃ old, IsEnum h e it ((i : Nat) : Int) old) ∧ h.IsTupleIter it a i ∧ e ≠ it) where
  mem := List.mem_cons_self ..
  obj := fun i h st b hb => by
    obtain ⟨⟨old, he⟩, ⟨o, ho, hc, hd⟩, _⟩ := st
    rcases List.mem_cons.mp hb with z | z
    · rw [z]; exact ⟨_, he, fun v q => nomatch q⟩
    · rw [List.mem_singleton.mp z]; exact ⟨o, ho, fun v q => by rw [hd] at q; cases q⟩
  keep := fun i h h' st k => by
    obtain ⟨⟨old, he⟩, hi, hne⟩ := st
    exact ⟨⟨old, k e (List.mem_cons_self ..) _ he⟩, hi.at fun o q => k it (List.mem_cons_of_mem _ (List.mem_singleton.mpr rfl)) o q, hne⟩
  item := by
    intro X hP hw hK hc i pins s σ H E I hf st hg
    subst hP hw hK
    obtain ⟨⟨old, he⟩, hit, hne⟩ := st
    obtain ⟨xs, x, hq, hx⟩ := hg
    obtain ⟨its, rv, p, hz⟩ := I.tuple hq
    obtain ⟨u, hu, ru⟩ := rv.get hx
    have il : i < its.toArray.size := by
      have := (List.getElem?_eq_some_iff.mp hu).1
      rw [List.size_toArray]; exact this
    have hel : e < s.heap.objs.size := Heap.lt_size he
    have hil : it < s.heap.objs.size := by obtain ⟨_, q, _⟩ := hit; exact Heap.lt_size q
    have D := Draws.tuple (prog := X.prog) (w := X.w) (A := X.A.in1) (show X.A.in1.handled = none from I.ok.hd hc) it a ai its.toArray
    refine wpAny_pyNext_enum_itemD D he ⟨hit, p⟩ il hne (fun m => by
      rcases List.mem_cons.mp m with m | m
      · exact hne m
      · exact ae (List.mem_singleton.mp m).symm) fun x' h' tk px ho hst' hT hsz hk => ?_
    have eu : x' = u := by
      have y : its.toArray[i]? = some u := by rw [List.getElem?_toArray]; exact hu
      rw [px] at y
      exact Option.some.inj y
    subst eu
    refine ⟨_, rfl, wpAny_letOwnedTupleGo_enum (s := { s with heap := h', toks := tk + 1 }) ho fun h'' he' sb => ?_⟩
    have hT2 : h''.get? s.heap.objs.size = some { cls := .type "tuple", data := .seq #[.int i tk, x'] } := (sb.2 _ (Nat.ne_of_gt hel)).trans hT
    have new : ObjOk X.prog X.w (upd H s.heap.objs.size (.tup [.int (i : Nat), x])) h'' s.heap.objs.size (.tup [.int (i : Nat), x]) :=
      ⟨two_le, [.int i tk, x'], .cons ⟨_, rfl⟩ (.cons ru .nil), ⟨_, hT2, rfl, _, rfl⟩⟩
    have J : Inv X pins σ (upd H s.heap.objs.size (.tup [.int (i : Nat), x])) { s with heap := h'', toks := tk + 1 } :=
      I.turnedNew (ch := [e, it]) (fun b ob hb q => (sb.2 b (fun z => hb (z ▸ List.mem_cons_self ..))).trans (hk b ob (fun z => hb (z ▸ List.mem_cons_self ..)) (fun z => hb (z ▸ List.mem_cons_of_mem _ (List.mem_singleton.mpr rfl))) q)) hf (Nat.le_refl _) new
    refine ⟨.ref s.heap.objs.size, _, J, rfl, ⟨_, x, rfl, I.hok.fresh (Nat.le_refl _), rfl, fun ys hy => by rw [I.tuple_inj hy hq]; exact hx⟩, ⟨⟨x', ?_⟩, hst'.1.at fun o q => (sb.2 it (Ne.symm hne)).trans q, hne⟩, fun b hb => ?_⟩
    · rw [show ((i + 1 : Nat) : Int) = (i : Int) + 1 by omega]; exact he'
    · have lb : b < s.heap.objs.size := by
        rcases List.mem_cons.mp hb with z | z
        · rw [z]; exact hel
        · rw [List.mem_singleton.mp z]; exact hil
      rw [upd_ne (Nat.ne_of_lt lb)]
      exact (hf b hb).1
  done := by
    intro X hP hw hK hc i pins s σ H E I hf st hg
    subst hP hw hK
    obtain ⟨⟨old, he⟩, hit, hne⟩ := st
    obtain ⟨xs, hq, hx⟩ := hg
    obtain ⟨its, rv, p, hz⟩ := I.tuple hq
    obtain ⟨f0, f1, f2, f3, f4, f5⟩ := hf it (List.mem_cons_of_mem _ (List.mem_singleton.mpr rfl))
    have hl := rv.length
    exact enT_end (I.ok.hd hc) he hit p (by rw [List.size_toArray]; omega) fun h' eb => ⟨rfl, I.turned (t' := s.toks) (fun b o hb q => eb b o hb q) f0 f1 f3 f4 f5⟩
  self := fun A i s Q E st h => by
    obtain ⟨⟨_, he⟩, _⟩ := st
    exact wpAny_pyIter_enum he h
def iEnT (K : PySem.W.Frag) (ta : TA) : TI := fun σ H R => ta σ H fun vs H1 => ∃ a xs, vs = [.ref a] ∧ SqT K H1 a xs ∧ R (Iet K a) H1
theorem pi_enT {X : Cx} {e : PySem.Expr} {ta : TA} {p pos tpos : Pos} {elts : List PySem.Expr} {kk : Nat} (hg : Gl X "enumerate") (hm : X.mg "enumerate" = none) (ha : PA X [e] ta) (hs : starEach [e] X.env = [(false, eval e X.env)] := by rfl) :
    L2.PI X (.Tuple elts kk tpos) (.Call (.Name "enumerate" p) [e] [] pos) (iEnT X.K ta) := by
  refine ⟨fun pins s σ H R I h => Call_ (ld_blt I hg hm boot_enumerate (PyProof.Rows.callWith_type1 (thn (ha.run pos pins s σ H _ I h) fun us s1 ⟨vs, H1, J, r1, q1⟩ => ?_) hs rfl))⟩
  obtain ⟨a, xs, ex, hq, q⟩ := q1
  subst ex
  cases r1 with
  | cons r rr =>
    cases rr
    cases r
    obtain ⟨its, rv, p', hz⟩ := J.tuple hq
    have la : a < s1.heap.objs.size := p'.lt
    refine enT_call p' fun h' he hit hsz hk => wpAny_pyIter_enum he ?_
    have J2 : Inv X pins σ H1 { s1 with heap := h' } := J.kept (t' := s1.toks) hk
    refine ⟨s1.heap.objs.size + 1, [s1.heap.objs.size + 1, s1.heap.objs.size], _, _, H1, rfl, J2, turn_enT a (s1.heap.objs.size + 1) s1.heap.objs.size (Nat.ne_of_lt (Nat.lt_succ_of_lt la)) (Nat.ne_of_lt la), ⟨⟨.none, he⟩, hit, Nat.succ_ne_self _⟩, fun b hb => ?_, q⟩
    have lb : s1.heap.objs.size ≤ b := by
      rcases List.mem_cons.mp hb with z | z
      · rw [z]; exact Nat.le_add_right _ _
      · rw [List.mem_singleton.mp z]; exact Nat.le_refl _
    exact J.fpOk lb (J.hok.fresh lb)
theorem walk_enT {K : PySem.W.Frag} {a : Addr} {xs : List V} : Walk (Iet K a) xs.length (fun H => SqT K H a xs) (YPair (fun i => some (.int (i : Nat))) (fun i => xs[i]?)) := by
  refine ⟨fun i _ hi q => ⟨xs, xs[i], q, List.getElem?_eq_getElem hi⟩, fun _ q => ⟨xs, q, Nat.le_refl _⟩, fun i H v H' _ q y => ?_⟩
  obtain ⟨T, x, h1, h2, h3, h4⟩ := y
  exact ⟨T, .int (i : Nat), x, h1, h2, h3, rfl, h4 xs q⟩
/-- sorted(d) of a dict whose keys are ints -/
@[irreducible] def rSortDI : List V → Hp → VK → Prop := fun xs H Q => ∃ (a : Addr) (kvs : List (Key × V)) (ks : List Int), xs = [.ref a] ∧ Rd H a (.dK kvs) ∧ kvs.map (·.1) = ks.map Sum.inl ∧
  ∀ (ys : List Int) (p : Addr), ys.Perm ks → ys.Pairwise (· ≤ ·) → H p = none → Q (.ref p) (upd H p (.lst (ys.map V.int)))
theorem ints_at : ∀ {vs : List Value} {ns : List Int}, vs.length = ns.length → (∀ (j : Nat) (v : Value), vs[j]? = some v → ∃ i t, ns[j]? = some i ∧ v = Value.int i t) → IntsAre vs ns
  | [], [], _, _ => .nil
  | v :: vs, n :: ns, l, h => by
    obtain ⟨i, t, e, rfl⟩ := h 0 v rfl
    cases (show some n = some i from e)
    exact .cons n t (ints_at (by simpa using l) fun j u z => h (j + 1) u z)
  | [], _ :: _, l, _ => by simp at l
  | _ :: _, [], l, _ => by simp at l
theorem call_sortDI {X : Cx} (hc : X.calm = true) : CallR X (.builtin "sorted") rSortDI := by
  intro pins s σ H xs us Q I r q
  unfold rSortDI at q
  obtain ⟨a, kvs, ks, rfl, hd, hks, q⟩ := q
  rw [Vals.ref1 r]
  obtain ⟨z, lo, vs, rel, dd⟩ := dk_rd I.hok hd
  obtain ⟨ep, hat⟩ := dd.dictAt
  have hkeys : vs.map (·.1) = ks.map Sum.inl := rel.keys.symm.trans hks
  have hl : vs.length = ks.length := by
    have e := congrArg List.length hkeys
    rw [List.length_map, List.length_map] at e; exact e
  have hz : vs.length ≤ sizeLine := by rw [← rel.length]; exact z
  refine Calls.call_function_entry PyProof.Rows.kind_sorted PyProof.Rows.plain_sorted PyProof.Rows.entry_sorted (PyProof.Rows.args_sorted1 _) ?_
  unfold Builtin.«sorted»
  refine wpAny_bind (m := checkCount "sorted" 1 1 _) (wpAny_pure (wpAny_bind (PySem.W.kdu_collect (A := X.A.in1) (PySem.W.kdl_dict (knd := mixKind X.prog X.w) (kvs := vs) (ep := ep) lo) (I.ok.hd hc) hat hz fun h' tk acc hk hacc => ?_)))
  have hal : acc.toList.length = ks.length := by rw [Array.length_toList, hacc.1, hl]
  have hS : IntsAre acc.toList ks := ints_at hal fun j v e => by
    obtain ⟨k, x, e1, e2⟩ := hacc.2 j v (by rw [← Array.getElem?_toList]; exact e)
    have e3 : (vs.map (·.1))[j]? = some k := by rw [List.getElem?_map, e1]; rfl
    rw [hkeys, List.getElem?_map] at e3
    cases e4 : ks[j]? with
    | none => rw [e4] at e3; cases e3
    | some y =>
      rw [e4] at e3
      have e5 : Sum.inl y = k := Option.some.inj e3
      subst e5
      rcases keyIs_shape (show keyIs (Sum.inl y) v = true from e2) with ⟨i, t, ek, ev⟩ | ⟨w', t, ek, ev⟩
      · cases ek; exact ⟨y, t, rfl, ev⟩
      · cases ek
  have J : Inv X pins σ H { s with heap := h', toks := tk } := I.kept hk
  refine wpAny_bind (wpAny_newList ?_ (by rw [hal, ← hl]; exact hz))
  have hoL : (h'.push (seqObj "list" acc.toList.toArray 0)).get? h'.objs.size = some (seqObj "list" acc.toList.toArray 0) := Heap.get?_push_size _ rfl
  show wpAny _ _ _ _ _ { s with heap := h'.push (seqObj "list" acc.toList.toArray 0), toks := tk }
  refine wpAny_bind (wpAny_holding (wpAny_call_entry PyProof.Rows.slot_list_sort ⟨_, hoL, rfl⟩ PyProof.Rows.entry_list_sort
    (SrtO.list_sort_ord (s := { s with heap := h'.push (seqObj "list" acc.toList.toArray 0), toks := tk }) SrtO.swo_int hoL (by rw [hal, ← hl]; exact hz) (fun h2 => SrtO.ints_sortable hS h2) fun out k1 k2 => ⟨_, rfl, ?_⟩) (PyProof.Rows.args_list_sort _)))
  obtain ⟨g1, g2, g3⟩ := SrtO.ints_out hS k1 k2
  obtain ⟨e', he'⟩ := PyProof.Rows.sortedHeap_at (vs := acc.toList) (out := out.toArray) hoL
  have hlen : ((out.map SrtO.iv).map V.int).length ≤ sizeLine := by rw [List.length_map, g2.length_eq, ← hl]; exact hz
  refine wpAny_pure ⟨_, rfl, .ref h'.objs.size, upd H h'.objs.size (.lst ((out.map SrtO.iv).map V.int)), J.laid (t' := tk) (fun b u e => ?_) (Nat.le_refl _)
    (show ObjOk X.prog X.w _ _ _ (.lst ((out.map SrtO.iv).map V.int)) from ⟨hlen, out, e', vals_of_ints g1, he'⟩), rfl, q _ _ g2 g3 (J.hok.fresh (Nat.le_refl _))⟩
  have hb : b < h'.objs.size := Heap.lt_size e
  rw [PyProof.Rows.sortedHeap_old (Nat.ne_of_lt hb) (by rw [Heap.size_push]; exact Nat.lt_succ_of_lt hb)]
  exact Heap.get?_push_of_some _ e
end
/-! ### dicts keyed by data: tuples in tuples -/
section
open PySem.Spec PyProof.Rows
mutual
def keyD : PyData → NestedKey
  | .int i => .num i
  | .str x => .text x
  | .tuple xs => .tup (keyDs xs)
  | _ => .none
def keyDs : List PyData → List NestedKey
  | [] => []
  | d :: ds => keyD d :: keyDs ds
end
mutual
def kable : PyData → Bool
  | .none => true
  | .int _ => true
  | .str _ => true
  | .tuple xs => kables xs
  | _ => false
def kables : List PyData → Bool
  | [] => true
  | d :: ds => kable d && kables ds
end
mutual
theorem keyD_eqv : ∀ a b : PyData, kable a = true → kable b = true → (keyD a = keyD b ↔ PyData.eqv a b = true)
  | .none, b, _, hb => by cases b <;> simp_all [keyD, PyData.eqv, kable]
  | .int i, b, _, hb => by cases b <;> simp_all [keyD, PyData.eqv, kable]
  | .str x, b, _, hb => by cases b <;> simp_all [keyD, PyData.eqv, kable]
  | .tuple xs, .tuple ys, ha, hb => by
    rw [keyD, keyD, PyData.eqv, NestedKey.tup.injEq]
    exact keyDs_eqv xs ys (by rw [kable] at ha; exact ha) (by rw [kable] at hb; exact hb)
  | .tuple xs, .none, _, _ => by simp [keyD, PyData.eqv]
  | .tuple xs, .int _, _, _ => by simp [keyD, PyData.eqv]
  | .tuple xs, .str _, _, _ => by simp [keyD, PyData.eqv]
  | .tuple xs, .bool _, _, hb => by simp [kable] at hb
  | .tuple xs, .list _, _, hb => by simp [kable] at hb
  | .tuple xs, .dict _, _, hb => by simp [kable] at hb
  | .bool _, _, ha, _ => by simp [kable] at ha
  | .list _, _, ha, _ => by simp [kable] at ha
  | .dict _, _, ha, _ => by simp [kable] at ha
theorem keyDs_eqv : ∀ a b : List PyData, kables a = true → kables b = true → (keyDs a = keyDs b ↔ PyData.eqvAll a b = true)
  | [], [], _, _ => by simp [keyDs, PyData.eqvAll]
  | [], _ :: _, _, _ => by simp [keyDs, PyData.eqvAll]
  | _ :: _, [], _, _ => by simp [keyDs, PyData.eqvAll]
  | a :: as, b :: bs, ha, hb => by
    rw [kables, Bool.and_eq_true] at ha hb
    rw [keyDs, keyDs, PyData.eqvAll, Bool.and_eq_true, List.cons.injEq, keyD_eqv a b ha.1 hb.1, keyDs_eqv as bs ha.2 hb.2]
end
mutual
theorem keyD_depth : ∀ d : PyData, (keyD d).depth ≤ d.depth
  | .none => by simp [keyD, NestedKey.depth]
  | .int _ => by simp [keyD, NestedKey.depth]
  | .str _ => by simp [keyD, NestedKey.depth]
  | .bool _ => by simp [keyD, NestedKey.depth]
  | .list _ => by simp [keyD, NestedKey.depth]
  | .dict _ => by simp [keyD, NestedKey.depth]
  | .tuple xs => by
    rw [keyD, NestedKey.depth, PyData.depth]
    exact Nat.succ_le_succ (keyDs_depth xs)
theorem keyDs_depth : ∀ ds : List PyData, NestedKey.depthAll (keyDs ds) ≤ PyData.depthAll ds
  | [] => by simp [keyDs, NestedKey.depthAll]
  | d :: ds => by
    have h1 := keyD_depth d
    have h2 := keyDs_depth ds
    rw [keyDs, NestedKey.depthAll, PyData.depthAll]
    omega
end
section
variable {X : Cx} {pins : List (Addr × Obj)} {σ : L2.St} {H : Hp} {s : Shared}
mutual
theorem key_at (I : Inv X pins σ H s) : ∀ (d : PyData) (v : V) (u : Value), kable d = true → Dp X.K H v d → RelV v u → NestedIs s.heap (keyD d) u
  | .none, _, _, _, hd, r => by cases hd; cases r; exact .none
  | .int i, _, _, _, hd, r => by cases hd; obtain ⟨t, rfl⟩ := r; exact .int _ _
  | .str x, _, _, _, hd, r => by cases hd; obtain ⟨t, rfl⟩ := r; exact .text _ _
  | .tuple ds, _, _, hk, hd, r => by
    cases hd with
    | tup hs ha =>
      cases r
      obtain ⟨its, rv, ⟨o, ho, hc, n, hdt⟩, _⟩ := I.tuple hs
      exact .tup ho hc hdt (by simpa using keys_at I ds _ its (by rw [kable] at hk; exact hk) ha rv)
  | .bool _, _, _, hk, _, _ => by simp [kable] at hk
  | .list _, _, _, hk, _, _ => by simp [kable] at hk
  | .dict _, _, _, hk, _, _ => by simp [kable] at hk
theorem keys_at (I : Inv X pins σ H s) : ∀ (ds : List PyData) (vs : List V) (us : List Value), kables ds = true → DpAll X.K H vs ds → Vals vs us → NestedAll s.heap (keyDs ds) us
  | [], _, _, _, hd, r => by cases hd; cases r; exact .nil
  | d :: ds, _, _, hk, hd, r => by
    rw [kables, Bool.and_eq_true] at hk
    cases hd with
    | cons h1 h2 =>
      cases r with
      | cons r1 r2 => exact .cons (key_at I d _ _ hk.1 h1 r1) (keys_at I ds _ _ hk.2 h2 r2)
end
end
/-- a key, the place of its tuple, the value -/
abbrev Ne := NestedKey × Addr × V
def RelN : List Ne → List (NestedKey × Addr × Value) → Prop := Paired fun p q => p.1 = q.1 ∧ p.2.1 = q.2.1 ∧ RelV p.2.2 q.2.2
def NOk (P : Program) (w : World) (a : Addr) (xs : List Ne) (h : Heap) : Prop := xs.length ≤ sizeLine ∧ (a == sysModules) = false ∧ ∃ ys, RelN xs ys ∧
  ∃ o es ep, h.get? a = some o ∧ o.ExactDict ∧ o.data = .dict es ep ∧ es.toList = ys.map (entryOfKey (nestedKind P w)) ∧ (ys.map (·.1)).Nodup
/-- a dict of such keys -/
def DictN (P : Program) (w : World) (a : Addr) (xs : List Ne) : HO := .ext (NOk P w a xs)
theorem NOk.obj {P : Program} {w : World} {a : Addr} {xs : List Ne} {h : Heap} {H : Hp} (x : NOk P w a xs h) : ObjOk P w H h a (DictN P w a xs) := by
  refine ⟨x, ?_, fun h1 h2 y k => ?_⟩
  · obtain ⟨_, _, _, _, o, _, _, e, _⟩ := x
    exact ⟨o, e⟩
  · obtain ⟨z1, z2, ys, r, o, es, ep, e, c⟩ := y
    exact ⟨z1, z2, ys, r, o, es, ep, k _ e, c⟩
def valN (xs : List Ne) (k : NestedKey) : Option V := (xs.find? fun x => decide (x.1 = k)).map (·.2.2)
def putN (xs : List Ne) (k : NestedKey) (b : Addr) (v : V) : List Ne := if (valN xs k).isSome then xs.map (fun x => if x.1 = k then (x.1, x.2.1, v) else x) else xs ++ [(k, b, v)]
theorem RelN.val {xs : List Ne} {ys : List (NestedKey × Addr × Value)} (r : RelN xs ys) (k : NestedKey) : RelO (valN xs k) ((atKey ys k).map (·.2)) := by
  induction r with
  | nil => exact True.intro
  | @cons p q ps qs h t ih =>
    obtain ⟨h1, h2, h3⟩ := h
    unfold valN atKey at ih ⊢
    rw [List.find?_cons, List.find?_cons]
    by_cases e : p.1 = k
    · rw [decide_eq_true e, decide_eq_true (h1 ▸ e)]
      exact h3
    · rw [decide_eq_false e, decide_eq_false (h1 ▸ e)]
      exact ih
theorem RelN.put {xs : List Ne} {ys : List (NestedKey × Addr × Value)} (r : RelN xs ys) (k : NestedKey) (b : Addr) {v : V} {u : Value} (rv : RelV v u) : RelN (putN xs k b v) (storedH ys k b u) := by
  have e : (valN xs k).isSome = (atKey ys k).isSome := by
    rw [(r.val k).isSome_eq, Option.isSome_map]
  unfold putN storedH
  rw [e]
  by_cases h : (atKey ys k).isSome = true
  · rw [if_pos h, if_pos h]
    clear e h
    induction r with
    | nil => exact .nil
    | @cons p q ps qs hpq t ih =>
      obtain ⟨h1, h2, h3⟩ := hpq
      refine .cons ?_ ih
      unfold putAt
      dsimp only
      by_cases e : p.1 = k
      · rw [if_pos e, if_pos (h1 ▸ e)]; exact ⟨h1, h2, rv⟩
      · rw [if_neg e, if_neg (h1 ▸ e)]; exact ⟨h1, h2, h3⟩
  · rw [if_neg h, if_neg h]
    clear e h
    induction r with
    | nil => exact .cons ⟨rfl, rfl, rv⟩ .nil
    | cons hpq t ih => exact .cons hpq ih
/-- the keys stand yet -/
def KeysN (K : PySem.W.Frag) (H : Hp) (xs : List Ne) : Prop := ∀ t ∈ xs, ∃ d, keyD d = t.1 ∧ kable d = true ∧ d.depth ≤ 8 ∧ Dp K H (.ref t.2.1) d
section
variable {X : Cx} {pins : List (Addr × Obj)} {σ : L2.St} {H : Hp} {s : Shared} {a : Addr} {xs : List Ne}
theorem n_of (I : Inv X pins σ H s) (e : H a = some (DictN X.prog X.w a xs)) (hk : KeysN X.K H xs) : xs.length ≤ sizeLine ∧ (a == sysModules) = false ∧ ∃ ys, RelN xs ys ∧ s.heap.DictOfH (nestedKind X.prog X.w) a ys := by
  obtain ⟨⟨z1, z2, ys, r, o, es, ep, e1, e2, e3, e4, e5⟩, _⟩ := (show ObjOk X.prog X.w H s.heap a (DictN X.prog X.w a xs) from I.hok a _ e)
  refine ⟨z1, z2, ys, r, o, es, ep, e1, e2, e3, e4, ?_, e5⟩
  have all : ∀ {xs : List Ne} {ys : List (NestedKey × Addr × Value)}, RelN xs ys → KeysN X.K H xs → ∀ x ∈ ys, (nestedKind X.prog X.w).is s.heap x.1 x.2.1 := by
    intro xs ys r
    induction r with
    | nil => intro _ x hx; exact nomatch hx
    | @cons p q ps qs h t ih =>
      intro hk x hx
      obtain ⟨h1, h2, h3⟩ := h
      rcases List.mem_cons.mp hx with e | hx
      · subst e
        obtain ⟨d, k1, k2, k3, k4⟩ := hk p (List.mem_cons_self ..)
        rw [← h1, ← h2, ← k1]
        exact ⟨key_at I d _ _ k2 k4 rfl, Nat.le_trans (keyD_depth d) k3⟩
      · exact ih (fun t m => hk t (List.mem_cons_of_mem _ m)) x hx
  exact all r hk
end
/-- what the dict at a holds at the key y -/
def NGet (X : Cx) (H : Hp) (a : Addr) (y : V) (o : Option V) : Prop := ∃ xs b d, H a = some (DictN X.prog X.w a xs) ∧ KeysN X.K H xs ∧ y = .ref b ∧ Dp X.K H y d ∧ kable d = true ∧ d.depth ≤ 8 ∧ o = valN xs (keyD d)
def NPut (X : Cx) (H : Hp) (a : Addr) (y v : V) (H' : Hp) : Prop := ∃ xs b d, H a = some (DictN X.prog X.w a xs) ∧ KeysN X.K H xs ∧ y = .ref b ∧ Dp X.K H y d ∧ kable d = true ∧ d.depth ≤ 8 ∧ xs.length < sizeLine ∧ H' = upd H a (DictN X.prog X.w a (putN xs (keyD d) b v))
theorem putN_len (xs : List Ne) (k : NestedKey) (b : Addr) (v : V) : (putN xs k b v).length ≤ xs.length + 1 := by
  unfold putN
  split
  · rw [List.length_map]; omega
  · rw [List.length_append]; exact Nat.le_refl _
section
variable {X : Cx} {pins : List (Addr × Obj)} {σ : L2.St} {H : Hp} {s : Shared} {a : Addr} {y v : V} {u r : Value} {o : Option V} {A : Around} {E : Value → Shared → Prop}
theorem n_in {Q : Value → Shared → Prop} (hu : A.units + 9 < cLine) (I : Inv X pins σ H s) (g : NGet X H a y o) (ry : RelV y u) (h : ∀ s', Inv X pins σ H s' → Q (.bool o.isSome) s') : wpAny (model X.prog X.w) A (compareOp .In u (.ref a)) Q E s := by
  obtain ⟨xs, b, d, e, hk, rfl, hd, kd, dd, l⟩ := g
  cases (show u = Value.ref b from ry)
  obtain ⟨z, zd, ys, rel, D⟩ := n_of I e hk
  refine wpAny_in_heap (knd := nestedKind X.prog X.w) (show A.units + 1 + 8 < cLine by omega) ⟨key_at I d _ _ kd hd rfl, Nat.le_trans (keyD_depth d) dd⟩ zd D ?_
  have q := (rel.val (keyD d)).isSome_eq
  rw [Option.isSome_map] at q
  rw [← q, ← l]
  exact h _ (I.tok _)
theorem n_notIn {Q : Value → Shared → Prop} (hu : A.units + 9 < cLine) (I : Inv X pins σ H s) (g : NGet X H a y o) (ry : RelV y u) (h : ∀ s', Inv X pins σ H s' → Q (.bool (!o.isSome)) s') : wpAny (model X.prog X.w) A (compareOp .NotIn u (.ref a)) Q E s := by
  obtain ⟨xs, b, d, e, hk, rfl, hd, kd, dd, l⟩ := g
  cases (show u = Value.ref b from ry)
  obtain ⟨z, zd, ys, rel, D⟩ := n_of I e hk
  refine wpAny_notIn_heap (knd := nestedKind X.prog X.w) (show A.units + 1 + 8 < cLine by omega) ⟨key_at I d _ _ kd hd rfl, Nat.le_trans (keyD_depth d) dd⟩ zd D ?_
  have q := (rel.val (keyD d)).isSome_eq
  rw [Option.isSome_map] at q
  rw [← q, ← l]
  exact h _ (I.tok _)
theorem n_item {Q : Value → Shared → Prop} (hu : A.units + 9 < cLine) (I : Inv X pins σ H s) (g : NGet X H a y (some v)) (ry : RelV y u) (h : ∀ w' s', Inv X pins σ H s' → RelV v w' → Q w' s') : wpAny (model X.prog X.w) A (getItem (.ref a) u) Q E s := by
  obtain ⟨xs, b, d, e, hk, rfl, hd, kd, dd, l⟩ := g
  cases (show u = Value.ref b from ry)
  obtain ⟨z, zd, ys, rel, D⟩ := n_of I e hk
  obtain ⟨w', hw, rw'⟩ := RelO.some_of (v := v) (o := (atKey ys (keyD d)).map (·.2)) (by rw [l]; exact rel.val _)
  obtain ⟨p, hp, hp2⟩ := Option.map_eq_some_iff.mp hw
  refine wpAny_getItem_heap (knd := nestedKind X.prog X.w) (show A.units + 1 + 8 < cLine by omega) ⟨key_at I d _ _ kd hd rfl, Nat.le_trans (keyD_depth d) dd⟩ D hp ?_
  rw [hp2]
  exact h w' _ (I.tok _) rw'
theorem n_set {H' : Hp} {Q : Unit → Shared → Prop} (hu : A.units + 9 < cLine) (I : Inv X pins σ H s) (g : NPut X H a y v H') (ry : RelV y u) (rv : RelV v r) (h : ∀ s', Inv X pins σ H' s' → Q () s') : wpAny (model X.prog X.w) A (setItem (.ref a) u r) Q E s := by
  obtain ⟨xs, b, d, e, hk, rfl, hd, kd, dd, l, rfl⟩ := g
  cases (show u = Value.ref b from ry)
  obtain ⟨z, zd, ys, rel, D⟩ := n_of I e hk
  have hz : ys.length ≤ sizeLine := by rw [← Paired.length rel]; exact z
  have hl : (putN xs (keyD d) b v).length ≤ sizeLine := by have := putN_len xs (keyD d) b v; omega
  refine wpAny_setItem_heap (hsz := hz) (knd := nestedKind X.prog X.w) (show A.units + 1 + 8 < cLine by omega) ⟨key_at I d _ _ kd hd rfl, Nat.le_trans (keyD_depth d) dd⟩ D fun h' D' hs => h _ ?_
  obtain ⟨q, es, ep, hq, h2, h3, h4, _, h5⟩ := D'
  exact d_write I (by rw [e]; exact True.intro) hs ⟨q, hq⟩ (NOk.obj ⟨hl, zd, _, rel.put _ b rv, q, es, ep, hq, h2, h3, h4, h5⟩)
end
/-! the rules -/
def tNNew (P : Program) (w : World) : TE := fun _ H Q => ∀ p, H p = none → Q (.ref p) (upd H p (DictN P w p []))
def tNIn (X : Cx) (n : Bool) (ty td : TE) : TE := fun σ H Q => ty σ H fun y H1 => td σ H1 fun x H2 => ∃ a o, x = .ref a ∧ NGet X H2 a y o ∧ Q (.bl (if n then !o.isSome else o.isSome)) H2
def tNGet (X : Cx) (td ty : TE) : TE := fun σ H Q => td σ H fun x H1 => ty σ H1 fun y H2 => ∃ a v, x = .ref a ∧ NGet X H2 a y (some v) ∧ Q v H2
def sNPut (X : Cx) (td ty tv : TE) : TS := fun D σ H => tv σ H fun v H1 => td σ H1 fun x H2 => ty σ H2 fun y H3 => ∃ a H4, x = .ref a ∧ NPut X H3 a y v H4 ∧ D.nx σ H4
section
variable {X : Cx} {o i value : PySem.Expr} {pos pos' : Pos} {td ty tv : TE}
theorem pe_nnew : PE X (.Dict [] [] pos) (tNNew X.prog X.w) := ⟨fun pins s σ H Q I h => by
  refine wpAny_Dict_empty ⟨.ref s.heap.objs.size, _, I.laid (a := s.heap.objs.size) (o := DictN X.prog X.w s.heap.objs.size []) (t' := s.toks) (fun _ _ q => Heap.get?_push_of_some _ q) (Nat.le_refl _) ?_, rfl, h _ (I.hok.fresh (Nat.le_refl _))⟩
  exact NOk.obj ⟨Nat.zero_le _, beq_eq_false_iff_ne.mpr (Ne.symm (Nat.ne_of_lt I.big)), [], .nil, _, #[], 0, Heap.get?_push_size _ rfl, ⟨rfl, rfl, rfl⟩, rfl, rfl, List.nodup_nil⟩⟩
theorem pc_nin (hu : X.A.units + 9 < cLine) (hi : PE X i ty) (ho : PE X o td) : PC X .In i o (tNIn X false ty td) := by
  refine ⟨fun pins s σ H Q I h => thn (hi.run pins s σ H _ I h) fun iv s1 ⟨y, H1, J1, ry, q1⟩ => thn (ho.run pins s1 σ H1 _ J1 q1) fun u s2 ⟨x, H2, J2, rx, a, ov, ex, g, q2⟩ => ?_⟩
  subst ex
  obtain rfl : u = Value.ref a := rx
  exact n_in hu J2 g ry fun s3 J3 => ⟨.bl ov.isSome, H2, J3, rfl, q2⟩
theorem pc_nnotin (hu : X.A.units + 9 < cLine) (hi : PE X i ty) (ho : PE X o td) : PC X .NotIn i o (tNIn X true ty td) := by
  refine ⟨fun pins s σ H Q I h => thn (hi.run pins s σ H _ I h) fun iv s1 ⟨y, H1, J1, ry, q1⟩ => thn (ho.run pins s1 σ H1 _ J1 q1) fun u s2 ⟨x, H2, J2, rx, a, ov, ex, g, q2⟩ => ?_⟩
  subst ex
  obtain rfl : u = Value.ref a := rx
  exact n_notIn hu J2 g ry fun s3 J3 => ⟨.bl (!ov.isSome), H2, J3, rfl, q2⟩
theorem ps_nput (hu : X.A.units + 9 < cLine) (ho : PE X o td) (hi : PE X i ty) (hv : PE X value tv) (hs : swapsWith value (some (.Subscript o i pos')) pos.line X.env = pure false) : PS X (.Assign [.Subscript o i pos'] value pos) (sNPut X td ty tv) := by
  refine ⟨fun pins s σ H D I h => wpAny_Assign_Subscript (thn (hv.run pins s σ H _ I h) fun r s1 ⟨v, H1, J1, rv, q1⟩ => thn (ho.run pins s1 σ H1 _ J1 q1) fun u s2 ⟨x, H2, J2, rx, q2⟩ => thn (hi.run pins s2 σ H2 _ J2 q2) fun iv s3 ⟨y, H3, J3, ry, a, H4, ex, g, q3⟩ => ?_) hs⟩
  subst ex
  obtain rfl : u = Value.ref a := rx
  exact n_set hu J3 g ry rv fun s4 J4 => ⟨σ, H4, J4, q3⟩
end
/-! the same, of typed data -/
abbrev DL (α : Type) := List (Addr × α × V)
def neL {α : Type} [Dat α] (l : DL α) : List Ne := l.map fun t => (keyD (Dat.py t.2.1), t.1, t.2.2)
def DictD (P : Program) (w : World) {α : Type} [Dat α] (a : Addr) (l : DL α) : HO := DictN P w a (neL l)
def hasD {α : Type} [DecidableEq α] (l : DL α) (x : α) : Bool := l.any fun t => decide (t.2.1 = x)
def putD {α : Type} [DecidableEq α] (l : DL α) (b : Addr) (x : α) (v : V) : DL α := if hasD l x = true then l.map (fun t => if t.2.1 = x then (t.1, t.2.1, v) else t) else l ++ [(b, x, v)]
def KeysD {α : Type} [Dat α] (H : Hp) (l : DL α) : Prop := ∀ t ∈ l, Is H (.ref t.1) t.2.1
class Kd (α : Type) [Dat α] : Prop where
  k : ∀ d : α, kable (Dat.py d) = true
instance : Kd Int := ⟨fun _ => by show kable (.int _) = true; rw [kable]⟩
theorem kd_all {α : Type} [Dat α] [Kd α] : ∀ l : List α, kables (l.map Dat.py) = true
  | [] => by rw [List.map_nil, kables]
  | d :: l => by rw [List.map_cons, kables, Kd.k, kd_all l]; rfl
instance {α : Type} [Dat α] [Kd α] : Kd (Tup α) := ⟨fun d => by show kable (.tuple (d.l.map Dat.py)) = true; rw [kable]; exact kd_all d.l⟩
instance {α β : Type} [Dat α] [Dat β] [Kd α] [Kd β] : Kd (T2 α β) := ⟨fun d => by
  show kable (.tuple [Dat.py d.a, Dat.py d.b]) = true
  rw [kable, kables, kables, kables, Kd.k, Kd.k]; rfl⟩
instance {α β γ : Type} [Dat α] [Dat β] [Dat γ] [Kd α] [Kd β] [Kd γ] : Kd (T3 α β γ) := ⟨fun d => by
  show kable (.tuple [Dat.py d.a, Dat.py d.b, Dat.py d.c]) = true
  rw [kable, kables, kables, kables, kables, Kd.k, Kd.k, Kd.k]; rfl⟩
section
variable {α : Type} [Dat α] [DecidableEq α] [Kd α]
theorem keyD_inj (a b : α) : (keyD (Dat.py a) = keyD (Dat.py b)) = (a = b) := propext ((keyD_eqv _ _ (Kd.k a) (Kd.k b)).trans (Dat.eqv a b))
theorem KeysD.n {K : PySem.W.Frag} {H : Hp} {l : DL α} (h : KeysD H l) (hl : Dat.dep α ≤ 8) : KeysN K H (neL l) := fun t m => by
  obtain ⟨x, mx, rfl⟩ := List.mem_map.mp m
  exact ⟨Dat.py x.2.1, rfl, Kd.k _, Nat.le_trans (Dat.depth _) hl, Dat.dp (h x mx)⟩
theorem KeysD.up {H H' : Hp} {l : DL α} (h : KeysD H l) (s : Same H H') : KeysD H' l := fun t m => Is.up (h t m) s
theorem valN_neL (x : α) : ∀ l : DL α, (valN (neL l) (keyD (Dat.py x))).isSome = hasD l x
  | [] => rfl
  | t :: l => by
    have ih := valN_neL x l
    unfold valN neL hasD at ih ⊢
    rw [List.map_cons, List.find?_cons, List.any_cons]
    simp only [keyD_inj] at ih ⊢
    by_cases e : t.2.1 = x
    · rw [decide_eq_true e]; rfl
    · rw [decide_eq_false e, Bool.false_or]; exact ih
theorem putN_neL (l : DL α) (b : Addr) (x : α) (v : V) : putN (neL l) (keyD (Dat.py x)) b v = neL (putD l b x v) := by
  unfold putN putD
  rw [valN_neL]
  by_cases h : hasD l x = true
  · rw [if_pos h, if_pos h]
    unfold neL
    rw [List.map_map, List.map_map]
    congr 1
    funext t
    simp only [Function.comp, keyD_inj]
    by_cases e : t.2.1 = x
    · rw [if_pos e, if_pos e]
    · rw [if_neg e, if_neg e]
  · rw [if_neg h, if_neg h]
    unfold neL
    rw [List.map_append]; rfl
theorem NGet.d {X : Cx} {P : Program} {w : World} {H : Hp} {a b : Addr} {l : DL α} {x : α} (h : H a = some (DictD P w a l)) (k : KeysD H l) (hx : Is H (.ref b) x) (hP : X.prog = P := by rfl) (hw : X.w = w := by rfl) (hl : Dat.dep α ≤ 8 := by decide) : NGet X H a (.ref b) (valN (neL l) (keyD (Dat.py x))) := by
  subst hP hw
  exact ⟨neL l, b, Dat.py x, h, k.n hl, rfl, Dat.dp hx, Kd.k x, Nat.le_trans (Dat.depth x) hl, rfl⟩
theorem NPut.d {X : Cx} {P : Program} {w : World} {H : Hp} {a b : Addr} {l : DL α} {x : α} {v : V} (h : H a = some (DictD P w a l)) (k : KeysD H l) (hx : Is H (.ref b) x) (z : l.length < sizeLine) (hP : X.prog = P := by rfl) (hw : X.w = w := by rfl) (hl : Dat.dep α ≤ 8 := by decide) : NPut X H a (.ref b) v (upd H a (DictD P w a (putD l b x v))) := by
  subst hP hw
  exact ⟨neL l, b, Dat.py x, h, k.n hl, rfl, Dat.dp hx, Kd.k x, Nat.le_trans (Dat.depth x) hl, by unfold neL; rw [List.length_map]; exact z, by rw [putN_neL]; rfl⟩
theorem hasD_put (l : DL α) (b : Addr) (x y : α) (v : V) : hasD (putD l b x v) y = (decide (x = y) || hasD l y) := by
  unfold putD
  by_cases h : hasD l x = true
  · rw [if_pos h]
    have e : hasD (l.map fun t => if t.2.1 = x then (t.1, t.2.1, v) else t) y = hasD l y := by
      unfold hasD
      rw [List.any_map]
      congr 1
      funext t
      show decide ((if t.2.1 = x then (t.1, t.2.1, v) else t).2.1 = y) = _
      split <;> rfl
    rw [e]
    by_cases c : x = y
    · subst c; rw [h, Bool.or_true]
    · rw [decide_eq_false c, Bool.false_or]
  · rw [if_neg h]
    unfold hasD
    rw [List.any_append, List.any_cons, List.any_nil, Bool.or_false, Bool.or_comm]
theorem KeysD.put {H : Hp} {l : DL α} {b : Addr} {x : α} {v : V} (h : KeysD H l) (hx : Is H (.ref b) x) : KeysD H (putD l b x v) := fun t m => by
  unfold putD at m
  by_cases c : hasD l x = true
  · rw [if_pos c] at m
    obtain ⟨t0, m0, rfl⟩ := List.mem_map.mp m
    have z := h t0 m0
    show Is H (.ref (if t0.2.1 = x then (t0.1, t0.2.1, v) else t0).1) (if t0.2.1 = x then (t0.1, t0.2.1, v) else t0).2.1
    split <;> exact z
  · rw [if_neg c] at m
    rcases List.mem_append.mp m with m | m
    · exact h t m
    · rw [List.mem_singleton.mp m]; exact hx
theorem putD_len (l : DL α) (b : Addr) (x : α) (v : V) : (putD l b x v).length ≤ l.length + 1 := by
  unfold putD
  split
  · rw [List.length_map]; omega
  · rw [List.length_append]; exact Nat.le_refl _
end
theorem units9 {k : Nat} {A : Around} (r : Room k A) : A.units + 9 < cLine := by have := r.un; omega
end
/-! ### sorted(..) of data; of a dict keyed by data -/
section
open PySem.Spec PyProof.Rows PySem.W
/-- any two compare -/
class Lk (α : Type) [Dat α] : Prop where
  k : ∀ a b : α, alike (Dat.py a) (Dat.py b) = true
instance : Lk Int := ⟨fun a b => by show alike (.int a) (.int b) = true; rw [alike]⟩
theorem lk_all {α : Type} [Dat α] [Lk α] : ∀ xs ys : List α, alikeAll (xs.map Dat.py) (ys.map Dat.py) = true
  | [], _ => by rw [List.map_nil, alikeAll]
  | _ :: _, [] => by rw [List.map_nil, List.map_cons, alikeAll]
  | x :: xs, y :: ys => by rw [List.map_cons, List.map_cons, alikeAll, Lk.k x y, lk_all xs ys]; rfl
instance {α : Type} [Dat α] [Lk α] : Lk (Tup α) := ⟨fun a b => by show alike (.tuple (a.l.map Dat.py)) (.tuple (b.l.map Dat.py)) = true; rw [alike]; exact lk_all a.l b.l⟩
instance {α : Type} [Dat α] [Lk α] : Lk (List α) := ⟨fun a b => by show alike (.list (a.map Dat.py)) (.list (b.map Dat.py)) = true; rw [alike]; exact lk_all a b⟩
instance {α β : Type} [Dat α] [Dat β] [Lk α] [Lk β] : Lk (T2 α β) := ⟨fun a b => by
  show alike (.tuple [Dat.py a.a, Dat.py a.b]) (.tuple [Dat.py b.a, Dat.py b.b]) = true
  rw [alike, alikeAll, alikeAll, alikeAll, Lk.k, Lk.k]; rfl⟩
instance {α β γ : Type} [Dat α] [Dat β] [Dat γ] [Lk α] [Lk β] [Lk γ] : Lk (T3 α β γ) := ⟨fun a b => by
  show alike (.tuple [Dat.py a.a, Dat.py a.b, Dat.py a.c]) (.tuple [Dat.py b.a, Dat.py b.b, Dat.py b.c]) = true
  rw [alike, alikeAll, alikeAll, alikeAll, alikeAll, Lk.k, Lk.k, Lk.k]; rfl⟩
/-- all tuples that hold something, or none a tuple -/
class So (α : Type) [Dat α] : Prop where
  k : (∀ a : α, ∃ x r, Dat.py a = .tuple (x :: r)) ∨ ∀ a : α, Dat.py a ≠ .none ∧ ∀ xs, Dat.py a ≠ .tuple xs
instance : So Int := ⟨.inr fun _ => ⟨(fun e => nomatch e), fun _ e => nomatch e⟩⟩
instance {α : Type} [Dat α] : So (List α) := ⟨.inr fun _ => ⟨(fun e => nomatch e), fun _ e => nomatch e⟩⟩
instance {α β : Type} [Dat α] [Dat β] : So (T2 α β) := ⟨.inl fun _ => ⟨_, _, rfl⟩⟩
instance {α β γ : Type} [Dat α] [Dat β] [Dat γ] : So (T3 α β γ) := ⟨.inl fun _ => ⟨_, _, rfl⟩⟩
/-- Python's sorted -/
def sortD {α : Type} [Dat α] (l : List α) : List α := l.mergeSort (dataLe false Dat.py)
theorem sortD_perm {α : Type} [Dat α] (l : List α) : (sortD l).Perm l := List.mergeSort_perm _ _
theorem each_of {α : Type} [Dat α] {H : Hp} : ∀ {xs : List V} {its : List Value} {ds : List α}, Vals xs its → IsAll H xs ds → EachIs (fun u d => ∃ v, RelV v u ∧ Is H v d) its ds
  | _, _, [], .nil, _ => .nil
  | _, _, d :: ds, .nil, h => by have := h.1; simp at this
  | _, _, [], .cons _ _, h => by have := h.1; simp at this
  | x :: xs, u :: us, d :: ds, .cons r rs, h => .cons ⟨x, r, h.2 0 x d rfl rfl⟩ (each_of rs ⟨by have := h.1; simpa using this, fun i a b p q => h.2 (i + 1) a b (by simpa using p) (by simpa using q)⟩)
theorem each_back {α : Type} [Dat α] {H : Hp} : ∀ {its : List Value} {ds : List α}, EachIs (fun u d => ∃ v, RelV v u ∧ Is H v d) its ds → ∃ xs, Vals xs its ∧ IsAll H xs ds
  | _, _, .nil => ⟨[], .nil, All2.nil⟩
  | _, _, .cons ⟨v, r, i⟩ t => by
    obtain ⟨xs, rs, al⟩ := each_back t
    exact ⟨v :: xs, .cons r rs, All2.cons i al⟩
/-- sorted(xs), xs a list of data -/
@[irreducible] def rSortN (K : PySem.W.Frag) : List V → Hp → VK → Prop := fun vs H Q => ∃ (α : Type) (_ : Dat α) (_ : Lk α) (_ : So α) (F : Hp) (a : Addr) (xs : List V) (ds : List α), vs = [.ref a] ∧ Same F H ∧ SqL K H a xs ∧ IsAll F xs ds ∧ Dat.dep α ≤ 64 ∧
  ∀ (ys : List V) (p : Addr), IsAll F ys (sortD ds) → H p = none → Q (.ref p) (upd H p (.lst ys))
theorem rSortN.mk {α : Type} [Dat α] [Lk α] [So α] {K : PySem.W.Frag} {F H : Hp} {Q : VK} {a : Addr} {xs : List V} {ds : List α} (sF : Same F H) (h : SqL K H a xs) (al : IsAll F xs ds) (q : ∀ (ys : List V) (p : Addr), IsAll F ys (sortD ds) → H p = none → Q (.ref p) (upd H p (.lst ys))) (hd : Dat.dep α ≤ 64 := by decide) : rSortN K [.ref a] H Q := by
  unfold rSortN
  exact ⟨α, inferInstance, inferInstance, inferInstance, F, a, xs, ds, rfl, sF, h, al, hd, q⟩
/-- sorted(d), d a dict keyed by data -/
@[irreducible] def rSortDN (X : Cx) : List V → Hp → VK → Prop := fun vs H Q => ∃ (α : Type) (_ : Dat α) (_ : Lk α) (_ : So α) (F : Hp) (a : Addr) (l : DL α), vs = [.ref a] ∧ Same F H ∧ H a = some (DictD X.prog X.w a l) ∧ KeysD F l ∧ Dat.dep α ≤ 64 ∧
  ∀ (ys : List V) (p : Addr), IsAll F ys (sortD (l.map (·.2.1))) → H p = none → Q (.ref p) (upd H p (.lst ys))
theorem rSortDN.mk {α : Type} [Dat α] [Lk α] [So α] {X : Cx} {P : Program} {w : World} {F H : Hp} {Q : VK} {a : Addr} {l : DL α} (sF : Same F H) (h : H a = some (DictD P w a l)) (k : KeysD F l) (q : ∀ (ys : List V) (p : Addr), IsAll F ys (sortD (l.map (·.2.1))) → H p = none → Q (.ref p) (upd H p (.lst ys))) (hd : Dat.dep α ≤ 64 := by decide) (hP : X.prog = P := by rfl) (hw : X.w = w := by rfl) : rSortDN X [.ref a] H Q := by
  have h' : H a = some (DictD X.prog X.w a l) := by rw [hP, hw]; exact h
  unfold rSortDN
  exact ⟨α, inferInstance, inferInstance, inferInstance, F, a, l, rfl, sF, h', k, hd, q⟩
theorem rel_at : ∀ {xs : List Ne} {ys : List (NestedKey × Addr × Value)}, RelN xs ys → ∀ {j : Nat} {x : Ne}, xs[j]? = some x → ∃ y, ys[j]? = some y ∧ (x.1 = y.1 ∧ x.2.1 = y.2.1 ∧ RelV x.2.2 y.2.2)
  | _, _, .nil, j, x, e => by cases e
  | _, _, .cons h t, 0, x, e => by cases e; exact ⟨_, rfl, h⟩
  | _, _, .cons h t, j + 1, x, e => rel_at t (show _ = some x from e)
theorem vals_refs {α : Type} : ∀ l : DL α, Vals (l.map fun t => V.ref t.1) (l.map fun t => Value.ref t.1)
  | [] => .nil
  | t :: l => .cons rfl (vals_refs l)
theorem acc_eq {P : Program} {w : World} {α : Type} [Dat α] {l : DL α} {ys0 : List (NestedKey × Addr × Value)} {es : Array DictEntry} {acc : Array Value} (rel : RelN (neL l) ys0) (hes : es.toList = ys0.map (entryOfKey (nestedKind P w))) (hn : acc.size = es.size)
    (h : ∀ (i : Nat) (v : Value), acc[i]? = some v → ∃ hi : i < es.size, v = es[i].key) : acc.toList = l.map fun t => Value.ref t.1 := by
  have l0 : ys0.length = l.length := by
    have := Paired.length rel
    unfold neL at this
    rw [List.length_map] at this
    exact this.symm
  have l1 : es.size = l.length := by rw [← Array.length_toList, hes, List.length_map, l0]
  refine List.ext_getElem (by rw [Array.length_toList, hn, l1, List.length_map]) fun j h1 h2 => ?_
  have h1' : j < acc.size := by rw [Array.length_toList] at h1; exact h1
  have h2' : j < l.length := by rw [List.length_map] at h2; exact h2
  have hy : j < ys0.length := by omega
  have z := h j acc[j] (Array.getElem?_eq_getElem h1')
  have jn : (neL l)[j]? = some (keyD (Dat.py l[j].2.1), l[j].1, l[j].2.2) := by
    unfold neL
    rw [List.getElem?_map, List.getElem?_eq_getElem h2']; rfl
  have y := rel_at rel jn
  rw [List.getElem?_eq_getElem hy] at y
  have ry := y.choose_spec
  have ey : ys0[j] = y.choose := Option.some.inj ry.1
  have he : es.toList[j]? = some (entryOfKey (nestedKind P w) ys0[j]) := by rw [hes, List.getElem?_map, List.getElem?_eq_getElem hy]; rfl
  rw [Array.getElem?_toList, Array.getElem?_eq_getElem (by omega)] at he
  rw [Array.getElem_toList, List.getElem_map, z.choose_spec, Option.some.inj he]
  show Value.ref ys0[j].2.1 = Value.ref l[j].1
  rw [ey, ← ry.2.2.1]
theorem sort_new {prog : Program} {w : World} {A : Around} {E : Value → Shared → Prop} {s : Shared} {β : Type} {vs : List Value} {bs : List β} {enc : β → PyData} {R : Value → β → Prop} {a : Addr} {n : Nat} {P : PySem.Fin → Shared → Prop}
    (ho : s.heap.get? a = some (seqObj "list" vs.toArray n)) (e : EachIs R vs bs) (er' : EachIs (fun v b => ∃ as, Reads (sortingHeap s.heap a vs) v (enc b) as) vs bs) (hal : AllAlike (bs.map enc)) (hk : Sortable (bs.map enc)) (hL : vs.length ≤ sizeLine) (hu : ∀ b, b ∈ bs → A.units + (enc b).depth < cLine)
    (h : ∀ out : List Value, out.length = bs.length → EachIs R out (bs.mergeSort (dataLe false enc)) → P (.done (.ret .none)) { s with heap := sortedHeap s.heap a vs out.toArray }) : wpAny (model prog w) A (Builtin.«list.sort» ⟨[.ref a], []⟩) P E s :=
  list_sort_vals (κ := dataKind (sortingHeap s.heap a vs) (bs.map enc)) ho (SortsAt.data (s := { s with heap := sortingHeap s.heap a vs }) (each_map (R := fun v d => ∃ as, Reads (sortingHeap s.heap a vs) v d as) enc er') hal hk (bound_map hu)) hL
    (h _ (by rw [sortVals_length false rfl]; exact e.length) (sortVals_data false e er' hal))
section
variable {X : Cx}
theorem call_sortN (hu : X.A.units + 66 < cLine) : CallR X (.builtin "sorted") (rSortN X.K) := by
  intro pins s σ H vs us Q I r h
  unfold rSortN at h
  obtain ⟨α, i1, i2, i3, F, a, xs, ds, rfl, sF, hs, al, hd, q⟩ := h
  obtain ⟨its, rv, hl, hz⟩ := I.list hs
  rw [Vals.ref1 r]
  have e := each_of rv al
  have er : EachIs (fun u d => ∃ as, Reads s.heap u (Dat.py d) as) its ds := e.mono fun u d ⟨v, r1, i⟩ => Dp.reads I _ v u (Dat.dp (Is.up i sF)) r1
  refine sorted_data (enc := Dat.py) hl.isList e er (AllAlike.of Lk.k) ?_ (by rw [← al.1]; exact hz) (fun d _ => by have := Dat.depth d; omega) fun out ol eo => ?_
  · rcases So.k (α := α) with h | h
    · exact Sortable.tuples h
    · exact Sortable.others h
  · obtain ⟨ys, r2, al2⟩ := each_back eo
    obtain ⟨n, hn⟩ := sortedAll_at s.heap its (List.toArray out)
    have ly : ys.length ≤ sizeLine := by rw [r2.length, ol, ← al.1]; exact hz
    exact ⟨.ref (s.heap.objs.size + 1), upd H (s.heap.objs.size + 1) (.lst ys), I.laid (t' := s.toks) (fun b o e => sortedAll_old e) (Nat.le_succ _) ⟨ly, out, n, r2, hn⟩, rfl, q ys _ al2 (I.hok.fresh (Nat.le_succ _))⟩
theorem call_sortDN (hc : X.calm = true) (hu : X.A.units + 66 < cLine) : CallR X (.builtin "sorted") (rSortDN X) := by
  intro pins s σ H vs us Q I r h
  unfold rSortDN at h
  obtain ⟨α, i1, i2, i3, F, a, l, rfl, sF, hH, hk, hd, q⟩ := h
  rw [Vals.ref1 r]
  obtain ⟨⟨hz, lo, ys0, rel, o, es, ep, ho, hx, hdat, hes, hnd⟩, _, _⟩ := I.hok a _ hH
  have esz : es.size = (neL l).length := by rw [← Array.length_toList, hes, List.length_map, ← Paired.length rel]
  have raw : s.heap.DictRaw a es ep := ⟨o, ho, hx, hdat⟩
  refine Calls.call_function_entry PyProof.Rows.kind_sorted PyProof.Rows.plain_sorted PyProof.Rows.entry_sorted (PyProof.Rows.args_sorted1 _) ?_
  unfold Builtin.«sorted»
  refine wpAny_bind (m := checkCount "sorted" 1 1 _) (wpAny_pure (wpAny_bind (kdu_collect (A := X.A.in1) (KdlSrc.rawDict lo) (I.ok.hd hc) raw (by rw [esz]; exact hz) fun h' tk acc hk' hacc => ?_)))
  have J : Inv X pins σ H { s with heap := h', toks := tk } := I.kept hk'
  have eacc : acc.toList = l.map fun t => Value.ref t.1 := acc_eq rel hes hacc.1 hacc.2
  have rv : Vals (l.map fun t => V.ref t.1) acc.toList := by rw [eacc]; exact vals_refs l
  have al : IsAll F (l.map fun t => V.ref t.1) (l.map fun t => t.2.1) := ⟨by rw [List.length_map, List.length_map], fun i x y hx hy => by
    rw [List.getElem?_map] at hx hy
    obtain ⟨t, ht, rfl⟩ := Option.map_eq_some_iff.mp hx
    obtain ⟨t', ht', rfl⟩ := Option.map_eq_some_iff.mp hy
    cases ht.symm.trans ht'
    exact hk t (List.mem_of_getElem? ht)⟩
  have hlen : acc.toList.length ≤ sizeLine := by rw [eacc, List.length_map]; unfold neL at hz; rw [List.length_map] at hz; exact hz
  have e := each_of rv al
  have er : EachIs (fun u d => ∃ as, Reads h' u (Dat.py d) as) acc.toList (l.map fun t => t.2.1) := e.mono fun u d ⟨v, r1, i⟩ => Dp.reads J _ v u (Dat.dp (Is.up i sF)) r1
  refine wpAny_bind (wpAny_newList ?_ hlen)
  have hoL : (h'.push (seqObj "list" acc.toList.toArray 0)).get? h'.objs.size = some (seqObj "list" acc.toList.toArray 0) := Heap.get?_push_size _ rfl
  show wpAny _ _ _ _ _ { s with heap := h'.push (seqObj "list" acc.toList.toArray 0), toks := tk }
  have er' : EachIs (fun u d => ∃ as, Reads (sortingHeap (h'.push (seqObj "list" acc.toList.toArray 0)) h'.objs.size acc.toList) u (Dat.py d) as) acc.toList (l.map fun t => t.2.1) := er.mono fun _ _ ⟨as, r⟩ => ⟨as, Reads.keeps (fun b o e => sortingHeap_old (Nat.ne_of_lt (Heap.lt_size e)) (Heap.get?_push_of_some _ e)) r⟩
  refine wpAny_bind (wpAny_holding (wpAny_call_entry PyProof.Rows.slot_list_sort ⟨_, hoL, rfl⟩ PyProof.Rows.entry_list_sort
    (sort_new (s := { s with heap := h'.push (seqObj "list" acc.toList.toArray 0), toks := tk }) (enc := Dat.py) hoL e er' (AllAlike.of Lk.k) ?_ hlen (fun d _ => ?_) fun out ol so => ⟨_, rfl, ?_⟩) (PyProof.Rows.args_list_sort _)))
  · rcases So.k (α := α) with h | h
    · exact Sortable.tuples h
    · exact Sortable.others h
  · have := Dat.depth d
    show X.A.units + 2 + _ < cLine
    omega
  · obtain ⟨ys, r2, al2⟩ := each_back so
    obtain ⟨e', he'⟩ := PyProof.Rows.sortedHeap_at (vs := acc.toList) (out := out.toArray) hoL
    have ly : ys.length ≤ sizeLine := by rw [r2.length, ol, ← e.length]; exact hlen
    refine wpAny_pure ⟨_, rfl, .ref h'.objs.size, upd H h'.objs.size (.lst ys), J.laid (t' := tk) (fun b u e => ?_) (Nat.le_refl _) (show ObjOk X.prog X.w _ _ _ (.lst ys) from ⟨ly, out, e', r2, he'⟩), rfl, q ys _ al2 (J.hok.fresh (Nat.le_refl _))⟩
    have hb : b < h'.objs.size := Heap.lt_size e
    rw [PyProof.Rows.sortedHeap_old (Nat.ne_of_lt hb) (by rw [Heap.size_push]; exact Nat.lt_succ_of_lt hb)]
    exact Heap.get?_push_of_some _ e
end
end
theorem units66 {k : Nat} {A : Around} (r : Room k A) : A.units + 66 < cLine := by have := r.un; omega
/-! ### dicts keyed by data: displays of one key, walks of the keys, list(d); d.copy() of ints -/
section
open PySem.Spec PyProof.Rows
section
variable {X : Cx} {pins : List (Addr × Obj)} {σ : L2.St} {H : Hp} {s : Shared} {d : Addr} {o : Obj}
theorem inv_frzN {xs : List Ne} (I : Inv X pins σ H s) (h : H d = some (.frz o (DictN X.prog X.w d xs))) :
    (d == sysModules) = false ∧ s.heap.get? d = some o ∧ o.ExactDict ∧ ∃ (es : Array DictEntry) (ep : Nat), o.data = .dict es ep ∧ es.size = xs.length ∧
      ∀ (i : Nat) (x : Ne), xs[i]? = some x → ∃ en : DictEntry, es[i]? = some en ∧ en.key = .ref x.2.1 := by
  obtain ⟨hd, ⟨z, hs, ys, rel, o', es, ep, ho, hx, hdt, he, hnd⟩, _⟩ := I.hok d _ h
  rw [hd] at ho
  cases ho
  refine ⟨hs, hd, hx, es, ep, hdt, ?_, fun i x e => ?_⟩
  · rw [← Array.length_toList, he, List.length_map, ← Paired.length rel]
  · obtain ⟨y, hy, e1, e2, e3⟩ := rel_at rel e
    refine ⟨entryOfKey (nestedKind X.prog X.w) y, ?_, ?_⟩
    · rw [← Array.getElem?_toList, he, List.getElem?_map, hy]; rfl
    · show Value.ref y.2.1 = _
      rw [e2]
end
def ItN (P : Program) (w : World) (d : Addr) (o : Obj) (xs : List Ne) : It :=
  ⟨fun i H => H d = some (.frz o (DictN P w d xs)) ∧ i < xs.length, fun i H x H' => H' = H ∧ ∃ t, xs[i]? = some t ∧ x = .ref t.2.1, fun i H => H d = some (.frz o (DictN P w d xs)) ∧ xs.length ≤ i⟩
theorem walk_keysN {P : Program} {w : World} {d : Addr} {o : Obj} {xs : List Ne} : Walk (ItN P w d o xs) xs.length (fun H => H d = some (.frz o (DictN P w d xs))) (fun i H x H' => H' = H ∧ ∃ t, xs[i]? = some t ∧ x = .ref t.2.1) :=
  ⟨fun _ _ hi q => ⟨q, hi⟩, fun _ q => ⟨q, Nat.le_refl _⟩, fun _ _ _ _ _ _ y => y⟩
theorem turn_keysN {P : Program} {w : World} {K : PySem.W.Frag} {tg : Expr} {d : Addr} {o : Obj} {es : Array DictEntry} {ep : Nat} {xs : List Ne} (it : Addr) (hod : o.data = .dict es ep) : Turn P w K tg (ItN P w d o xs) [it] it (fun i h => h.IsKeyIter it d i xs.length ep) where
  mem := by simp
  obj := fun i h st b hb => by
    have e : b = it := by simpa using hb
    subst e
    obtain ⟨oi, e, c, dd⟩ := st
    exact ⟨oi, e, fun v z => by rw [dd] at z; cases z⟩
  keep := fun i h h' st k => st.at fun oi e => k it (by simp) oi e
  item := by
    intro X hP hw hK hc i pins s σ H E I hf st hg
    subst hP hw hK
    obtain ⟨hd, hi⟩ := hg
    obtain ⟨f0, f1, f2, f3, f4, f5⟩ := hf it (by simp)
    obtain ⟨hs, hgd, hx, es', ep', hdt, hsz, ent⟩ := inv_frzN I hd
    obtain ⟨rfl, rfl⟩ := dict_ep hod hdt
    obtain ⟨en, hen, hkey⟩ := ent i xs[i] (List.getElem?_eq_getElem hi)
    refine next_key_item st hgd hdt hsz hen fun h' st' sb => ?_
    have I1 : Inv X pins σ H { s with heap := h' } := I.turned (t' := s.toks) (fun b ob hb e => (sb.2 b hb).trans e) f0 f1 f3 f4 f5
    obtain ⟨oi, e, c, dd⟩ := id st'
    exact ⟨en.key, rfl, go_of (s := { s with heap := h' }) e c dd (by decide) ⟨.ref xs[i].2.1, H, I1, hkey, ⟨rfl, xs[i], List.getElem?_eq_getElem hi, rfl⟩, st', fun b hb => (hf b hb).1⟩⟩
  done := by
    intro X hP hw hK hc i pins s σ H E I hf st hg
    subst hP hw hK
    obtain ⟨hd, hi⟩ := hg
    obtain ⟨f0, f1, f2, f3, f4, f5⟩ := hf it (by simp)
    obtain ⟨hs, hgd, hx, es', ep', hdt, hsz, ent⟩ := inv_frzN I hd
    obtain ⟨rfl, rfl⟩ := dict_ep hod hdt
    exact next_key_end (I.ok.hd hc) st hgd hdt hsz hi fun h' eb => ⟨rfl, I.turned (t' := s.toks) (fun b ob hb e => eb b ob hb e) f0 f1 f3 f4 f5⟩
  self := fun A i s Q E st h => wpAny_pyIter_keyiter st h
/-- for x in d, d keyed by data and locked -/
def iKeysN (P : Program) (w : World) (td : TE) : TI := fun σ H R => td σ H fun x H1 => ∃ d o xs, x = .ref d ∧ H1 d = some (.frz o (DictN P w d xs)) ∧ R (ItN P w d o xs) H1
section
variable {X : Cx} {tg e k v : PySem.Expr} {pos : Pos} {td tk tv : TE}
theorem pi_keysN (he : PE X e td) : L2.PI X tg e (iKeysN X.prog X.w td) := by
  refine ⟨fun pins s σ H R I h => ?_⟩
  refine thn (he.run pins s σ H _ I h) fun u s1 ⟨x, H1, I1, rx, d, o, xs, ex, hd, q⟩ => ?_
  subst ex
  obtain rfl : u = Value.ref d := rx
  obtain ⟨hs, hgd, hx, es, ep, hdt, hsz, ent⟩ := inv_frzN I1 hd
  refine iter_keys hs hgd hx hdt (pi_one (tk := s1.toks) I1 _ (turn_keysN _ hdt) ⟨_, Heap.get?_push_size _ rfl, rfl, ?_⟩ q)
  rw [hsz] <;> rfl
/-- {k: v}, k of data -/
def tDispN (X : Cx) (tk tv : TE) : TE := fun σ H Q => ∀ p, H p = none → tk σ (upd H p (DictN X.prog X.w p [])) fun y H1 => tv σ H1 fun v H2 => H2 p = some (DictN X.prog X.w p []) ∧ ∃ b d, y = .ref b ∧ Dp X.K H2 y d ∧ kable d = true ∧ d.depth ≤ 8 ∧ Q (.ref p) (upd H2 p (DictN X.prog X.w p [(keyD d, b, v)]))
theorem pe_dispN (hu : X.A.units + 9 < cLine) (hk : PE X k tk) (hv : PE X v tv) : PE X (.Dict [some k] [v] pos) (tDispN X tk tv) := ⟨fun pins s σ H Q I h => by
  have hn := I.hok.fresh (Nat.le_refl s.heap.objs.size)
  have hbig : (s.heap.objs.size == sysModules) = false := beq_eq_false_iff_ne.mpr (Ne.symm (Nat.ne_of_lt I.big))
  have I1 := I.laid (a := s.heap.objs.size) (o := DictN X.prog X.w s.heap.objs.size []) (h' := s.heap.push { cls := .type "dict", data := .dict #[] }) (t' := s.toks) (fun _ _ q => Heap.get?_push_of_some _ q) (Nat.le_refl _)
    (NOk.obj ⟨Nat.zero_le _, hbig, [], .nil, _, #[], 0, Heap.get?_push_size _ rfl, ⟨rfl, rfl, rfl⟩, rfl, rfl, List.nodup_nil⟩)
  have e0 : eval (.Dict [some k] [v] pos) X.env = (do standAt pos; let d ← subDict [(eval k X.env, (do let x ← eval v X.env; standAt pos; pure x : Sem Value))]; pure (Value.ref d) : Sem Value) := by
    rw [arm_eval_Dict]
    show (do standAt pos; dictDisplay ([(eval k X.env, (do let x ← eval v X.env; standAt pos; pure x : Sem Value))].map fun p => (some p.1, p.2)) : Sem Value) = _
    rw [dictDisplay_pairs _ (by simp) (by simp)]
  rw [e0]
  refine wpAny_bind (wpAny_standAt (wpAny_bind (wpAny_subDictH (knd := nestedKind X.prog X.w) (show X.A.units + 8 < cLine by omega) (by simp) ?_)))
  unfold evalPairs
  refine wpAny_bind (thn (hk.run pins _ σ _ _ I1 (h _ hn)) fun kv s1 ⟨y, H1, J1, ry, q1⟩ => ?_)
  refine wpAny_bind (wpAny_holding (wpAny_bind (thn (hv.run pins s1 σ H1 _ J1 q1) fun vv s2 ⟨v', H2, J2, rv, e, b, d, ey, hd, kd, dd, q2⟩ => wpAny_bind (wpAny_standAt (wpAny_pure ?_)))))
  subst ey
  obtain rfl : kv = Value.ref b := ry
  unfold evalPairs
  refine wpAny_bind (wpAny_holding (wpAny_pure (wpAny_pure ?_)))
  obtain ⟨z, zd, ys, rel, D⟩ := n_of J2 e (fun t m => nomatch m)
  cases rel
  refine ⟨[(keyD d, b, vv)], ⟨rfl, rfl, ⟨key_at J2 d _ _ kd hd rfl, Nat.le_trans (keyD_depth d) dd⟩, trivial⟩, D, fun h' tk D' hs => wpAny_pure ⟨.ref s.heap.objs.size, _, ?_, rfl, q2⟩⟩
  obtain ⟨q, es, ep, hq, h2, h3, h4, _, h5⟩ := D'
  exact d_write J2 (by rw [e]; exact True.intro) hs ⟨q, hq⟩ (NOk.obj ⟨by rw [List.length_singleton, sizeLine_eq]; omega, zd, _, .cons ⟨rfl, rfl, rv⟩ .nil, q, es, ep, hq, h2, h3, h4, h5⟩)⟩
end
section
variable {X : Cx}
theorem vals_refsN : ∀ l : List Ne, Vals (l.map fun t => V.ref t.2.1) (l.map fun t => Value.ref t.2.1)
  | [] => .nil
  | t :: l => .cons rfl (vals_refsN l)
@[irreducible] def rListDN (X : Cx) : List V → Hp → VK → Prop := fun xs H Q => ∃ (a : Addr) (l : List Ne), xs = [.ref a] ∧ H a = some (DictN X.prog X.w a l) ∧ ∀ p, H p = none → Q (.ref p) (upd H p (.lst (l.map fun t => .ref t.2.1)))
theorem rListDN.mk {X : Cx} {P : Program} {w : World} {H : Hp} {Q : VK} {a : Addr} {l : List Ne} (h : H a = some (DictN P w a l)) (q : ∀ p, H p = none → Q (.ref p) (upd H p (.lst (l.map fun t => .ref t.2.1)))) (hP : X.prog = P := by rfl) (hw : X.w = w := by rfl) : rListDN X [.ref a] H Q := by
  subst hP hw
  unfold rListDN
  exact ⟨a, l, rfl, h, q⟩
theorem call_listDN (hcalm : X.calm = true) : CallR X (.type "list") (rListDN X) := by
  intro pins s σ H xs us Q I r q
  unfold rListDN at q
  obtain ⟨a, l, ex, hd, q⟩ := q
  subst ex
  obtain ⟨u, eu, rx⟩ := vals1 r
  subst eu
  cases rx
  obtain ⟨⟨hz, lo, ys0, rel, o, es, ep, ho, hx, hdat, hes, hnd⟩, _, _⟩ := (show ObjOk X.prog X.w H s.heap a (DictN X.prog X.w a l) from I.hok a _ hd)
  have esz : es.size = l.length := by rw [← Array.length_toList, hes, List.length_map, ← Paired.length rel]
  have raw : s.heap.DictRaw a es ep := ⟨o, ho, hx, hdat⟩
  refine PySem.W.kdl_call (KdlSrc.rawDict lo) (I.ok.hd hcalm) raw (by rw [esz]; exact hz) fun h' tk acc c' hk hD hacc => ?_
  have hv : Vals (l.map fun t => V.ref t.2.1) acc.toList := by
    have e1 : acc.toList = l.map fun t => Value.ref t.2.1 := by
      refine List.ext_getElem (by rw [Array.length_toList, hacc.1, esz, List.length_map]) fun j h1 h2 => ?_
      have h1' : j < acc.size := by rw [Array.length_toList] at h1; exact h1
      have h2' : j < l.length := by rw [List.length_map] at h2; exact h2
      obtain ⟨hi, z⟩ := hacc.2 j acc[j] (Array.getElem?_eq_getElem h1')
      obtain ⟨y, hy, _, e2, _⟩ := rel_at rel (List.getElem?_eq_getElem h2')
      have q1 : es[j]? = some (entryOfKey (nestedKind X.prog X.w) y) := by
        rw [← Array.getElem?_toList, hes, List.getElem?_map, hy]; rfl
      rw [Array.getElem?_eq_getElem hi] at q1
      rw [Array.getElem_toList, z, Option.some.inj q1, List.getElem_map, e2]
      rfl
    rw [e1]
    exact vals_refsN l
  exact ⟨.ref s.heap.objs.size, upd H s.heap.objs.size (.lst (l.map fun t => .ref t.2.1)), I.laid (t' := tk) hk (Nat.le_refl _)
    (show ObjOk X.prog X.w _ _ _ (.lst (l.map fun t => .ref t.2.1)) from ⟨by rw [List.length_map]; exact hz, acc.toList, c', hv, by rw [Array.toArray_toList]; exact hD⟩), rfl, q _ (I.hok.fresh (Nat.le_refl _))⟩
end
def rDCopy : V → List V → Hp → VK → Prop := fun x vs H Q => ∃ (a : Addr) (kvs : List (Key × V)), x = .ref a ∧ vs = [] ∧ H a = some (.dK kvs) ∧ ∀ p, H p = none → Q (.ref p) (upd H p (.dK kvs))
theorem mtd_copy {X : Cx} : MtR X "dict.copy" rDCopy := by
  intro pins s σ H x vs v us Q I rx rv h
  obtain ⟨a, kvs, ex, ev, e, q⟩ := h
  subst ex
  subst ev
  obtain rfl : v = Value.ref a := rx
  have hus := rv.zero
  subst hus
  obtain ⟨z, hd, ws, rel, dd⟩ := dk_of I.hok e
  refine call_meetsIn F.slot_dict_copy dd.typeIs F.entry_dict_copy (F.args_dict_copy_1 _) (meets_dict_copy (mixKind X.prog X.w) a hd) ⟨ws, dd, by rw [← rel.length]; exact z, fun h' dd' _ hk => ?_⟩
  exact ⟨.ref s.heap.objs.size, _, I.laid (t' := s.toks) hk (Nat.le_refl _) (dk_new z (beq_eq_false_iff_ne.mpr (Ne.symm (Nat.ne_of_lt I.big))) rel dd'), rfl, q _ (I.hok.fresh (Nat.le_refl _))⟩
end
/-! ### exceptions kept in a name beyond their suite -/
section
open PySem.Spec PyProof.Rows
/-- an exception that was caught: its class, its dict -/
def Kp (a : Addr) (cls : Value) (d : Option Addr) : HO := .ext fun h => ∃ oe : Obj, h.get? a = some oe ∧ Zc cls d oe ∧ ∃ vs, oe.data = .fields vs
section
variable {X : Cx} {pins : List (Addr × Obj)} {σ : L2.St} {H : Hp} {s sI : Shared} {a : Addr} {oe : Obj} {cls : Value} {d : Option Addr} {B : Heap}
/-- what is in hand may be tracked -/
theorem kp_track (I : Inv X pins σ H s) (he : s.heap.get? a = some oe) (hz : Zc cls d oe) (hf : ∃ vs, oe.data = .fields vs) (na : H a = none) (nL : a ≠ X.env.locals) (n0 : X.s_0.heap.get? a = none ∨ a ∈ X.ex) (np : ∀ p ∈ X.pn ++ pins, p.1 ≠ a) :
    Inv X pins σ (upd H a (Kp a cls d)) s where
  ok := I.ok
  os := I.os
  bare := I.bare
  base :=
    { keep := I.base.keep
      slot := I.base.slot
      free := fun b o e n x => by
        have nb : b ≠ a := by
          rintro rfl
          rcases n0 with z | z
          · rw [z] at e; cases e
          · exact x z
        rw [upd_ne nb]; exact I.base.free b o e n x
      there := I.base.there
      tups := fun b xs q => by have z := I.base.tups b xs q; rw [upd_ne (ne_of_none z na)]; exact z
      frzs := fun b o u q => by have z := I.base.frzs b o u q; rw [upd_ne (ne_of_none z na)]; exact z
      tbls := fun b ps q => by
        obtain ⟨m, z⟩ := I.base.tbls b ps q
        exact ⟨m, by rw [upd_ne (ne_of_none z na)]; exact z⟩ }
  loc := I.loc
  cell := I.cell
  free := by rw [upd_ne (Ne.symm nL)]; exact I.free
  freeC := fun x c q => by
    have nc : c ≠ a := by
      rintro rfl
      obtain ⟨v, o, ho, hd⟩ := I.cell x _ q
      obtain ⟨vs, hv⟩ := hf
      rw [he] at ho; cases ho
      rw [hv] at hd; cases hd
    rw [upd_ne nc]; exact I.freeC x c q
  pin := fun p hp => by
    obtain ⟨z1, z2, z3⟩ := I.pin p hp
    exact ⟨z1, by rw [upd_ne (np p hp)]; exact z2, z3⟩
  hok := fun b u q => by
    by_cases hb : b = a
    · subst hb
      rw [upd_same] at q; cases q
      exact ⟨⟨oe, he, hz, hf⟩, ⟨oe, he⟩, fun _ _ ⟨o, z, r⟩ k => ⟨o, k o z, r⟩⟩
    · rw [upd_ne hb] at q
      exact (I.hok b u q).stay (fun _ _ _ z => z) (fun c z => by rw [upd_ne (ne_of_none z na)]; exact z) fun c xs z => by rw [upd_ne (ne_of_none z na)]; exact z
  len := I.len
/-- what came into being on the way stands apart from all that was there -/
theorem kp_new (J : Inv X pins σ H sI) (nb : ∀ b o, sI.heap.get? b = some o → b ∉ frs X.stack → B.get? b = some o) (hB : B.get? a = none) (nf : a ∉ frs X.stack) :
    (X.s_0.heap.get? a = none ∨ a ∈ X.ex) ∧ ∀ p ∈ X.pn ++ pins, p.1 ≠ a := by
  have gone : ∀ o, ¬ sI.heap.get? a = some o := fun o e => by
    have z := nb a o e nf
    rw [hB] at z; cases z
  refine ⟨?_, fun p hp z => ?_⟩
  · by_cases hx : a ∈ X.ex
    · exact .inr hx
    · cases e : X.s_0.heap.get? a with
      | none => exact .inl rfl
      | some o =>
        obtain ⟨o', e'⟩ := J.base.there a o e hx
        exact absurd e' (gone o')
  · have e := (J.pin p hp).1
    rw [z] at e
    exact gone _ e
end
/-- what 'except x as n' wishes of an exception that it always catches: behind the suite it is tracked -/
def wKp (K : PySem.W.Frag) (c : Value) (i : Nat) (ts : Addr → Value → Option Addr → TS) (D : Ends) : WX := fun cls d σ H =>
  PySem.W.exmOne K cls c = some true ∧ ∀ a, H a = none → ts a cls d { nx := fun σ' H' => D.nx (σ'.set i none) (upd H' a (Kp a cls d)), rt := D.rt, bk := fun σ' H' => D.bk (σ'.set i none) H', ct := fun σ' H' => D.ct (σ'.set i none) H' } (σ.set i (some (.ref a))) H
section
variable {X : Cx} {x n : Str} {c : Value} {i : Nat} {body suite : List Stmt} {b0 : Stmt} {np pos pos' : Pos} {tb : WX → TS} {ts : Addr → Value → Option Addr → TS}
theorem ps_try_kp (hst : X.stack = X.env :: X.outer) (hfr : X.env.frame = some X.env.locals) (hN : X.N.Nodup) (hi : X.N[i]? = some n) (hl : X.env.kindOf n = some .local) (hc : Names X x c)
    (hb : ∀ (W : WX) (pn : List (Addr × Obj)) (xe : Value → Shared → Prop), Takes (X.tr pn xe) W → PassesOwn (model X.prog X.w) X.A X.env xe → PSs (X.tr pn xe) body (tb W))
    (hsu : ∀ (a : Addr) (oe : Obj) (cls : Value) (d : Option Addr) (pn : List (Addr × Obj)), Zc cls d oe → (∃ vs, oe.data = .fields vs) → PSs (X.suite a ((a, oe) :: pn)) (b0 :: suite) (ts a cls d)) :
    PS X (.Try body [.ExceptHandler (some (.Name x np)) (some n) (b0 :: suite) pos'] [] [] pos) (fun D σ H => tb (wKp X.K c i ts D) D σ H) := by
  refine ⟨fun pins s σ H D I h => ?_⟩
  have ok := I.ok
  have hA : X.A.frames = some (X.env :: X.outer) := ok.frames.trans (congrArg some hst)
  refine wpAny_Try_except (wpAny_mono
    ((hb (wKp X.K c i ts D) (X.pn ++ pins) _ (fun u s' q => ?_) PassesOwn.looking).run [] s σ H D (I.toTry _) h)
    (fun f s1 hsp => ?_) (fun _ _ q => q))
  · obtain ⟨a, B, sI, pi, σ1, H1, cls, d, rfl, J0, nb, up, sky, na, os, ag, hb1, hyes⟩ := q
    have J := J0.ofTry ok
    rw [show (X.tr (X.pn ++ pins) _).stack = X.env :: X.outer from hst] at sky
    show wpAny (model X.prog X.w) X.A (noteFrame (.ref a) X.env) _ _ _
    refine Sky.land Zc.steady hA hfr sky fun hp fl up1 => ?_
    have J1 : Inv X pins σ1 H1 { s' with heap := hp } := J.landed nb fl.1 (up.trans up1) os ag
    obtain ⟨o1, vs1, e1, z1, d1⟩ := fl.there
    have off : a ∉ frs (X.env :: X.outer) := fun hm => by
      obtain ⟨_, o', e', nof⟩ := fl.2.2.1.mem hm
      rw [e1] at e'; cases e'
      exact nof _ d1
    have nL : a ≠ X.env.locals := by
      rintro rfl
      exact off (List.mem_filterMap.mpr ⟨X.env, List.mem_cons_self, hfr⟩)
    have nF : a ∉ X.fs := fun hm => by
      obtain ⟨v, hv, q⟩ := List.mem_filterMap.mp hm
      exact off (List.mem_filterMap.mpr ⟨v, List.mem_cons_of_mem _ hv, q⟩)
    obtain ⟨n0, np0⟩ := kp_new J nb fl.2.1 (by rw [hst]; exact off)
    have K1 := J1.suite e1 d1 na nL nF
    refine wpAny_handleBy_cons (codeAny_handlers_test ?_) (fun z => nomatch z)
    have lt : PySem.W.Looks (model X.prog X.w) hp (typeOf (.ref a)) cls := fun A Q E s k q => wpAny_typeOf_ref (k _ _ e1) (by rw [z1.1]; exact q)
    have lm := PySem.W.exm_one (M := model X.prog X.w) J1.kIn lt hb1
    have nm : ∀ {Q : Value → Shared → Prop} {E : Value → Shared → Prop}, Q c { s' with heap := hp } → wpAny (model X.prog X.w) (X.A.mark (some (.ref a))) (eval (.Name x np) X.env) Q E { s' with heap := hp } := fun q => by
      obtain ⟨g1, g2, g3 | ⟨g3, g4, g5⟩⟩ := hc
      · exact ld_glob (X := X.suite a ((a, o1) :: (X.pn ++ pins))) K1 g1 g3 q g2
      · exact ld_blt (X := X.suite a ((a, o1) :: (X.pn ++ pins))) K1 g1 g3 g4 q g5 g2
    refine nm (lm.here (codeAny_handlers_suite_as (HandSPX.lands_againZ fl fun hq fm up2 => ?_)))
    have J2 : Inv X pins σ1 H1 { s' with heap := hq } := J.landed nb fm.1 ((up.trans up1).trans up2) os ag
    obtain ⟨o2, vs2, e2, z2, d2⟩ := fm.there
    have K2 := J2.suite e2 d2 na nL nF
    refine store_ok (X := X.suite a ((a, o2) :: (X.pn ++ pins))) (v := .ref a) K2 hN hi (.inl hl) rfl (fun s5 K5 => ?_) (.inr hl)
    refine wpAny_mono ((hsu a o2 cls d (X.pn ++ pins) z2 ⟨_, d2⟩).run [] s5 _ H1 _ K5 (hyes a na)) (fun f s6 hsp => ?_) (fun _ _ z => False.elim z)
    cases f with
    | next =>
      obtain ⟨σ6, H6, K6, q6⟩ := hsp
      obtain ⟨e6, n6, _⟩ := K6.pin (a, o2) (List.mem_append_left _ List.mem_cons_self)
      exact gone_ok (kp_track (K6.unsuite ok) e6 z2 ⟨_, d2⟩ n6 nL n0 np0) hN hi hl fun s7 J7 => ⟨_, _, J7, q6⟩
    | brk =>
      obtain ⟨σ6, H6, K6, q6⟩ := hsp
      exact gone_ok (K6.unsuite ok) hN hi hl fun s7 J7 => ⟨_, _, J7, q6⟩
    | cont =>
      obtain ⟨σ6, H6, K6, q6⟩ := hsp
      exact gone_ok (K6.unsuite ok) hN hi hl fun s7 J7 => ⟨_, _, J7, q6⟩
    | ret u =>
      obtain ⟨v6, σ6, H6, K6, r6, q6⟩ := hsp
      exact gone_ok (K6.unsuite ok) hN hi hl fun s7 J7 => ⟨_, _, _, J7, r6, q6⟩
  · cases f with
    | next =>
      obtain ⟨σ6, H6, K6, q6⟩ := hsp
      exact wpAny_execs_nil ⟨σ6, H6, K6.ofTry ok, q6⟩
    | brk =>
      obtain ⟨σ6, H6, K6, q6⟩ := hsp
      exact ⟨σ6, H6, K6.ofTry ok, q6⟩
    | cont =>
      obtain ⟨σ6, H6, K6, q6⟩ := hsp
      exact ⟨σ6, H6, K6.ofTry ok, q6⟩
    | ret u =>
      obtain ⟨v6, σ6, H6, K6, r6, q6⟩ := hsp
      exact ⟨v6, σ6, H6, K6.ofTry ok, r6, q6⟩
end
/-- isinstance(e, c), e a kept exception of the class at D without a dict of its own -/
@[irreducible] def rIsK (K : PySem.W.Frag) : List V → Hp → VK → Prop := fun xs H Q => ∃ (a D : Addr) (c : V) (cv : Value) (b : Bool), xs = [.ref a, c] ∧ H a = some (Kp a (.ref D) none) ∧ ExcC K D ∧ (∀ u, RelV c u → u = cv) ∧ PySem.W.kitOne K (.ref D) cv = some b ∧ Q (.bl b) H
theorem rIsK.mk {K : PySem.W.Frag} {H : Hp} {Q : VK} {a D : Addr} {c : V} {cv : Value} {b : Bool} (h : H a = some (Kp a (.ref D) none)) (hC : ExcC K D) (hc : ∀ u, RelV c u → u = cv) (e : PySem.W.kitOne K (.ref D) cv = some b) (q : Q (.bl b) H) : rIsK K [.ref a, c] H Q := by
  unfold rIsK; exact ⟨a, D, c, cv, b, rfl, h, hC, hc, e, q⟩
theorem kp_inst {X : Cx} {pins : List (Addr × Obj)} {σ : L2.St} {H : Hp} {s : Shared} {a D : Addr} (I : Inv X pins σ H s) (h : H a = some (Kp a (.ref D) none)) : ∃ oe, PySem.W.InstAt s.heap a oe D none := by
  obtain ⟨⟨oe, he, ⟨z1, z2⟩, vs, hv⟩, _⟩ := I.hok a _ h
  obtain ⟨oc, od, oda, osl⟩ := oe
  dsimp only at z1 z2 hv
  subst z1 z2 hv
  exact ⟨_, he, rfl, rfl, trivial⟩
theorem call_isK {X : Cx} : CallR X (.builtin "isinstance") (rIsK X.K) := by
  intro pins s σ H xs us Q I r h
  unfold rIsK at h
  obtain ⟨a, D, c, cv, b, rfl, hH, C, hcv, e, q⟩ := h
  cases r with
  | cons rx rr =>
    cases rr with
    | cons rt rr =>
      cases rr
      cases rx
      obtain rfl := hcv _ rt
      obtain ⟨oe, J⟩ := kp_inst I hH
      exact PySem.W.kia_one (PySem.W.handS_kitx_exc C.hg C.hk C.hs C.hd C.ha C.hn C.ht C.hm) I.kIn J e (fun z => nomatch z) fun tk => ⟨.bl b, H, I.kept (t' := tk) fun _ _ z => z, rfl, q⟩
/-- isinstance(None, ..) and of other things: the list layer's rule, or a kept exception -/
@[irreducible] def rIsB (K : PySem.W.Frag) : List V → Hp → VK → Prop := fun xs H Q => rIsK K xs H Q ∨ rIsi K xs H Q
theorem call_isB {X : Cx} : CallR X (.builtin "isinstance") (rIsB X.K) := by
  intro pins s σ H xs us Q I r h
  unfold rIsB at h
  rcases h with h | h
  · exact call_isK pins s σ H xs us Q I r h
  · exact call_isi pins s σ H xs us Q I r h
theorem rIsB.k {K : PySem.W.Frag} {H : Hp} {Q : VK} {xs : List V} (h : rIsK K xs H Q) : rIsB K xs H Q := by unfold rIsB; exact .inl h
theorem rIsB.i {K : PySem.W.Frag} {H : Hp} {Q : VK} {xs : List V} (h : rIsi K xs H Q) : rIsB K xs H Q := by unfold rIsB; exact .inr h
/-- whether an instance of t is one of C; of a built-in class -/
theorem kit_own {K : PySem.W.Frag} {t : Value} {C : Addr} {b : Bool} (i : PySem.W.isClsIn K C = true) (ty : PySem.W.typeIn K (.ref C) = some (.type "type")) (s : PySem.W.subIn K t (.ref C) = some b) (se : PySem.W.subIn K (.ref C) (.ref C) = some true) : PySem.W.kitOne K t (.ref C) = some b := by
  unfold PySem.W.kitOne
  by_cases e : (t == Value.ref C) = true
  · rw [if_pos e]
    have e' : t = .ref C := eq_of_beq e
    rw [e', se] at s
    exact s
  · rw [if_neg e]
    have i' : (PySem.W.clsIn K C).isSome = true := i
    show (if ((PySem.W.clsIn K C).isSome && PySem.W.typeIn K (.ref C) == some (.type "type")) = true then PySem.W.subIn K t (.ref C) else none) = some b
    rw [if_pos (by rw [i', ty]; rfl)]
    exact s
theorem kit_blt {K : PySem.W.Frag} {D : Addr} {T : String} {b : Bool} (s : PySem.W.subIn K (.ref D) (.type T) = some b) (m : PySem.W.kitMeta T = true := by decide +kernel) : PySem.W.kitOne K (.ref D) (.type T) = some b := by
  unfold PySem.W.kitOne
  rw [if_neg (by
    intro e
    have e' : Value.ref D = .type T := eq_of_beq e
    cases e')]
  show (if PySem.W.kitMeta T = true then PySem.W.subIn K (.ref D) (.type T) else none) = some b
  rw [if_pos m]
  exact s
/-- isinstance(e, (C1, C2, ..)) -/
@[irreducible] def rIsKT (K : PySem.W.Frag) : List V → Hp → VK → Prop := fun xs H Q => ∃ (a D tp : Addr) (cs : List V) (us : List Value) (b : Bool), xs = [.ref a, .ref tp] ∧ H a = some (Kp a (.ref D) none) ∧ ExcC K D ∧ H tp = some (.tup cs) ∧ Paired ClsV cs us ∧ PySem.W.kitAny K (.ref D) us = some b ∧ Q (.bl b) H
theorem rIsKT.mk {K : PySem.W.Frag} {H : Hp} {Q : VK} {a D tp : Addr} {cs : List V} {us : List Value} {b : Bool} (h : H a = some (Kp a (.ref D) none)) (hC : ExcC K D) (ht : H tp = some (.tup cs)) (hc : Paired ClsV cs us) (e : PySem.W.kitAny K (.ref D) us = some b) (q : Q (.bl b) H) : rIsKT K [.ref a, .ref tp] H Q := by
  unfold rIsKT; exact ⟨a, D, tp, cs, us, b, rfl, h, hC, ht, hc, e, q⟩
theorem call_isKT {X : Cx} : CallR X (.builtin "isinstance") (rIsKT X.K) := by
  intro pins s σ H xs us0 Q I r h
  unfold rIsKT at h
  obtain ⟨a, D, tp, cs, us, b, rfl, hH, C, hT, k, e, q⟩ := h
  obtain ⟨u1, u2, rfl, r1, r2⟩ := vals2 r
  cases r1
  cases r2
  obtain ⟨oe, J⟩ := kp_inst I hH
  obtain ⟨_, its, rv, o, h1, h2, n, h3⟩ := (show ObjOk X.prog X.w H s.heap tp (.tup cs) from I.hok tp _ hT)
  have e3 := ClsV.all k rv
  subst e3
  obtain ⟨oc, od, dt, sl⟩ := o
  simp only at h2 h3
  subst h2 h3
  exact PySem.W.kia_tup (PySem.W.handS_kitx_exc C.hg C.hk C.hs C.hd C.ha C.hn C.ht C.hm) I.kIn J h1 e (fun z => nomatch z) fun tk => ⟨.bl b, H, I.tok tk, rfl, q⟩
@[irreducible] def rIsBT (K : PySem.W.Frag) : List V → Hp → VK → Prop := fun xs H Q => rIsKT K xs H Q ∨ rIsiT K xs H Q
theorem call_isBT {X : Cx} : CallR X (.builtin "isinstance") (rIsBT X.K) := by
  intro pins s σ H xs us Q I r h
  unfold rIsBT at h
  rcases h with h | h
  · exact call_isKT pins s σ H xs us Q I r h
  · exact call_isiT pins s σ H xs us Q I r h
theorem rIsBT.k {K : PySem.W.Frag} {H : Hp} {Q : VK} {xs : List V} (h : rIsKT K xs H Q) : rIsBT K xs H Q := by unfold rIsBT; exact .inl h
theorem rIsBT.i {K : PySem.W.Frag} {H : Hp} {Q : VK} {xs : List V} (h : rIsiT K xs H Q) : rIsBT K xs H Q := by unfold rIsBT; exact .inr h
/-- a def that lets nothing out serves where something may be let out; two promises of one def -/
theorem FnOk.lift {P : Program} {w : World} {K : PySem.W.Frag} {mg : Str → Option Value} {base : Heap} {k : Nat} {f : Addr} {fd : FuncData} {ps : List Str} {sp : Sp} (F : FnOk P w K mg base CX0 k f fd ps sp) : FnOk P w K mg base (L2.CX P w) k f fd ps sp :=
  ⟨F.len, fun A outer s H args us vs Q E hr he hb hv hs => codeAny_mono (F.run A outer s H args us vs Q E hr he hb hv hs) fun r s' hq => by
    cases r with
    | error e => exact False.elim hq
    | ok fl =>
      cases fl with
      | ret u => exact hq
      | _ => exact False.elim hq⟩
theorem FnOk.or {P : Program} {w : World} {K : PySem.W.Frag} {mg : Str → Option Value} {base : Heap} {CX : CXT} {k : Nat} {f : Addr} {fd : FuncData} {ps : List Str} {sp sp' : Sp} (F : FnOk P w K mg base CX k f fd ps sp) (G : FnOk P w K mg base CX k f fd ps sp') :
    FnOk P w K mg base CX k f fd ps fun vs H Q E => sp vs H Q E ∨ sp' vs H Q E :=
  ⟨fun vs H Q E h => h.elim (F.len vs H Q E) (G.len vs H Q E), fun A outer s H args us vs Q E hr he hb hv hs => hs.elim (F.run A outer s H args us vs Q E hr he hb hv) (G.run A outer s H args us vs Q E hr he hb hv)⟩
end
/-! ### len of a dict keyed by data; zip within a comprehension -/
section
open PySem.Spec PyProof.Rows
@[irreducible] def rLenDN (X : Cx) : List V → Hp → VK → Prop := fun xs H Q => ∃ (a : Addr) (l : List Ne), xs = [.ref a] ∧ H a = some (DictN X.prog X.w a l) ∧ KeysN X.K H l ∧ Q (.int l.length) H
theorem call_lenDN {X : Cx} : CallR X (.builtin "len") (rLenDN X) := by
  intro pins s σ H xs us Q I r h
  unfold rLenDN at h
  obtain ⟨a, l, rfl, ha, hk, q⟩ := h
  obtain ⟨u, rfl, ru⟩ := vals1 r
  cases ru
  obtain ⟨z, zd, ys, rel, D⟩ := n_of I ha hk
  have hl : l.length = ys.length := Paired.length rel
  refine call_len_dictH zd D (by rw [← hl]; rw [sizeLine_eq] at z; omega) ?_
  rw [← hl]
  exact ⟨.int l.length, H, I.tok _, ⟨_, rfl⟩, q⟩
theorem rLenDN.mk {α : Type} [Dat α] [DecidableEq α] [Kd α] {X : Cx} {P : Program} {w : World} {F H : Hp} {Q : VK} {a : Addr} {L : DL α} (sF : Same F H) (h : H a = some (DictD P w a L)) (k : KeysD F L) (q : Q (.int L.length) H) (hl : Dat.dep α ≤ 8 := by decide) (hP : X.prog = P := by rfl) (hw : X.w = w := by rfl) : rLenDN X [.ref a] H Q := by
  subst hP hw
  unfold rLenDN
  refine ⟨a, neL L, rfl, h, (KeysD.up k sF).n hl, ?_⟩
  rw [show (neL L).length = L.length by unfold neL; rw [List.length_map]]
  exact q
theorem pi_zipK {X : Cx} {K : PySem.W.Frag} {e e2 : PySem.Expr} {ta : TA} {p pos tpos : Pos} {elts : List PySem.Expr} {kk : Nat} (eK : X.K = K) (hg : Gl X "zip") (hm : X.mg "zip" = none) (ha : PA X [e, e2] ta)
    (hs : starEach [e, e2] X.env = (false, eval e X.env) :: starEach [e2] X.env := by rfl) (hpl : (backTo pos (starEach [e2] X.env)).any (·.1) = false := by rfl) :
    L2.PI X (.Tuple elts kk tpos) (.Call (.Name "zip" p) [e, e2] [] pos) (iZip K ta) := by
  subst eK
  exact pi_zip hg hm ha hs hpl
end
def top (i : Nat) : Stmt := PySem.Challenge.pw_endnever_k50_shut_papers_looked_at.main.body.getD i (.Pass ⟨0, 0, 0, 0⟩)
abbrev s_L_mixed : Stmt := top 41
abbrev N_L_mixed : List Str := ["_law_cell", "_law_k", "_law_rest", "_law_number"]
theorem sc_L_mixed : FnScope ["_law_cell", "_law_k", "_law_rest", "_law_number"] ["_law_cell", "_law_k"] (defScope s_L_mixed) := ⟨rfl, rfl, rfl, by decide +kernel, rfl, by decide +kernel, by decide +kernel⟩
abbrev s_L_purse : Stmt := top 42
abbrev N_L_purse : List Str := ["_law_script", "_law_cells", "_law_number", "_law_k"]
theorem sc_L_purse : FnScope ["_law_script", "_law_cells", "_law_number", "_law_k"] ["_law_script"] (defScope s_L_purse) := ⟨rfl, rfl, rfl, by decide +kernel, rfl, by decide +kernel, by decide +kernel⟩
abbrev s_L_draw : Stmt := top 43
abbrev N_L_draw : List Str := ["_law_purse_here", "_law_out_of", "_law_drawn"]
theorem sc_L_draw : FnScope ["_law_purse_here", "_law_out_of", "_law_drawn"] ["_law_purse_here", "_law_out_of"] (defScope s_L_draw) := ⟨rfl, rfl, rfl, by decide +kernel, rfl, by decide +kernel, by decide +kernel⟩
abbrev s_L_machine : Stmt := top 44
abbrev N_L_machine : List Str := ["_law_purse_here", "_law_rows", "_law_signs", "_law_found", "_law_empty", "_law_row", "_law_entries", "_law_sign", "_law_entry"]
theorem sc_L_machine : FnScope ["_law_purse_here", "_law_rows", "_law_signs", "_law_found", "_law_empty", "_law_row", "_law_entries", "_law_sign", "_law_entry"] ["_law_purse_here", "_law_rows", "_law_signs"] (defScope s_L_machine) := ⟨rfl, rfl, rfl, by decide +kernel, rfl, by decide +kernel, by decide +kernel⟩
abbrev s_L_asked_by : Stmt := top 46
abbrev N_L_asked_by : List Str := ["_law_machine_here", "_law_middle", "_law_lefts", "_law_rights", "_law_left", "_law_row", "_law_sign", "_law_right", "_law_entry", "_law_put", "_law_way", "_law_goes", "_law_word", "_law_one"]
theorem sc_L_asked_by : FnScope ["_law_machine_here", "_law_middle", "_law_lefts", "_law_rights", "_law_left", "_law_row", "_law_sign", "_law_right", "_law_entry", "_law_put", "_law_way", "_law_goes", "_law_word", "_law_one"] ["_law_machine_here", "_law_middle", "_law_lefts", "_law_rights"] (defScope s_L_asked_by) := ⟨rfl, rfl, rfl, by decide +kernel, rfl, by decide +kernel, by decide +kernel⟩
abbrev s_L_grown : Stmt := top 50
abbrev N_L_grown : List Str := ["_law_machine_here", "_law_width", "_law_turns", "_law_noughts", "_law_lefts", "_law_rights", "_law_middles", "_law_turn", "_law_middle", "_law_asked_here", "_law_side", "_law_word", "_law_more", "_law_one"]
theorem sc_L_grown : FnScope ["_law_machine_here", "_law_width", "_law_turns", "_law_noughts", "_law_lefts", "_law_rights", "_law_middles", "_law_turn", "_law_middle", "_law_asked_here", "_law_side", "_law_word", "_law_more", "_law_one"] ["_law_machine_here", "_law_width", "_law_turns"] (defScope s_L_grown) := ⟨rfl, rfl, rfl, by decide +kernel, rfl, by decide +kernel, by decide +kernel⟩
abbrev s_L_copy : Stmt := top 45
abbrev N_L_copy : List Str := ["_law_machine_here", "_law_entries"]
theorem sc_L_copy : FnScope ["_law_machine_here", "_law_entries"] ["_law_machine_here"] (defScope s_L_copy) := ⟨rfl, rfl, rfl, by decide +kernel, rfl, by decide +kernel, by decide +kernel⟩
abbrev s_is_entry : Stmt := top 6
abbrev N_is_entry : List Str := ["entry", "rows", "signs"]
theorem sc_is_entry : FnScope ["entry", "rows", "signs"] ["entry", "rows", "signs"] (defScope s_is_entry) := ⟨rfl, rfl, rfl, by decide +kernel, rfl, by decide +kernel, by decide +kernel⟩
abbrev s_is_machine : Stmt := top 7
abbrev N_is_machine : List Str := ["machine", "rows", "signs", "row", "entry"]
theorem sc_is_machine : FnScope ["machine", "rows", "signs", "row", "entry"] ["machine"] (defScope s_is_machine) := ⟨rfl, rfl, rfl, by decide +kernel, rfl, by decide +kernel, by decide +kernel⟩
abbrev s_must_machine : Stmt := top 8
abbrev N_must_machine : List Str := ["machine"]
theorem sc_must_machine : FnScope ["machine"] ["machine"] (defScope s_must_machine) := ⟨rfl, rfl, rfl, by decide +kernel, rfl, by decide +kernel, by decide +kernel⟩
abbrev s_put_new : Stmt := top 17
abbrev N_put_new : List Str := ["found", "things", "new", "thing"]
theorem sc_put_new : FnScope ["found", "things", "new", "thing"] ["found", "things"] (defScope s_put_new) := ⟨rfl, rfl, rfl, by decide +kernel, rfl, by decide +kernel, by decide +kernel⟩
abbrev s_entry_for : Stmt := top 16
abbrev N_entry_for : List Str := ["machine", "middle"]
theorem sc_entry_for : FnScope ["machine", "middle"] ["machine", "middle"] (defScope s_entry_for) := ⟨rfl, rfl, rfl, by decide +kernel, rfl, by decide +kernel, by decide +kernel⟩
abbrev s_led_right : Stmt := top 14
abbrev N_led_right : List Str := ["middle", "put", "row", "rights", "left", "here", "sign", "right", "new_left", "found", "word"]
theorem sc_led_right : FnScope ["middle", "put", "row", "rights", "left", "here", "sign", "right", "new_left", "found", "word"] ["middle", "put", "row", "rights"] (defScope s_led_right) := ⟨rfl, rfl, rfl, by decide +kernel, rfl, by decide +kernel, by decide +kernel⟩
abbrev s_led_left : Stmt := top 15
abbrev N_led_left : List Str := ["middle", "put", "row", "lefts", "left", "here", "sign", "right", "new_right", "found", "word"]
theorem sc_led_left : FnScope ["middle", "put", "row", "lefts", "left", "here", "sign", "right", "new_right", "found", "word"] ["middle", "put", "row", "lefts"] (defScope s_led_left) := ⟨rfl, rfl, rfl, by decide +kernel, rfl, by decide +kernel, by decide +kernel⟩
abbrev s_grown : Stmt := top 18
abbrev N_grown : List Str := ["machine", "lefts", "rights", "middles", "new", "middle", "entry", "put", "way", "row", "word", "more"]
theorem sc_grown : FnScope ["machine", "lefts", "rights", "middles", "new", "middle", "entry", "put", "way", "row", "word", "more"] ["machine", "lefts", "rights", "middles"] (defScope s_grown) := ⟨rfl, rfl, rfl, by decide +kernel, rfl, by decide +kernel, by decide +kernel⟩
abbrev s_is_width : Stmt := top 13
abbrev N_is_width : List Str := ["machine", "width", "many", "k"]
theorem sc_is_width : FnScope ["machine", "width", "many", "k"] ["machine", "width"] (defScope s_is_width) := ⟨rfl, rfl, rfl, by decide +kernel, rfl, by decide +kernel, by decide +kernel⟩
abbrev s_are_words : Stmt := top 19
abbrev N_are_words : List Str := ["words", "width", "signs", "word", "sign"]
theorem sc_are_words : FnScope ["words", "width", "signs", "word", "sign"] ["words", "width", "signs"] (defScope s_are_words) := ⟨rfl, rfl, rfl, by decide +kernel, rfl, by decide +kernel, by decide +kernel⟩
abbrev s_are_middles : Stmt := top 20
abbrev N_are_middles : List Str := ["machine", "width", "middles", "signs", "left", "row", "sign", "right"]
theorem sc_are_middles : FnScope ["machine", "width", "middles", "signs", "left", "row", "sign", "right"] ["machine", "width", "middles"] (defScope s_are_middles) := ⟨rfl, rfl, rfl, by decide +kernel, rfl, by decide +kernel, by decide +kernel⟩
abbrev s_shows_shut : Stmt := top 21
abbrev N_shows_shut : List Str := ["machine", "paper", "kind", "width", "lefts", "rights", "middles", "signs", "noughts", "left_set", "right_set", "middle_set"]
theorem sc_shows_shut : FnScope ["machine", "paper", "kind", "width", "lefts", "rights", "middles", "signs", "noughts", "left_set", "right_set", "middle_set"] ["machine", "paper"] (defScope s_shows_shut) := ⟨rfl, rfl, rfl, by decide +kernel, rfl, by decide +kernel, by decide +kernel⟩
abbrev s_L_is_width : Stmt := top 47
abbrev N_L_is_width : List Str := ["_law_signs", "_law_width", "_law_many", "_law_k"]
theorem sc_L_is_width : FnScope ["_law_signs", "_law_width", "_law_many", "_law_k"] ["_law_signs", "_law_width"] (defScope s_L_is_width) := ⟨rfl, rfl, rfl, by decide +kernel, rfl, by decide +kernel, by decide +kernel⟩
abbrev s_L_word_fine : Stmt := top 48
abbrev N_L_word_fine : List Str := ["_law_word", "_law_width", "_law_signs", "_law_sign"]
theorem sc_L_word_fine : FnScope ["_law_word", "_law_width", "_law_signs", "_law_sign"] ["_law_word", "_law_width", "_law_signs"] (defScope s_L_word_fine) := ⟨rfl, rfl, rfl, by decide +kernel, rfl, by decide +kernel, by decide +kernel⟩
abbrev s_L_good : Stmt := top 49
abbrev N_L_good : List Str := ["_law_machine_here", "_law_paper", "_law_kind", "_law_width", "_law_lefts", "_law_rights", "_law_middles", "_law_signs", "_law_word", "_law_left", "_law_row", "_law_sign", "_law_right", "_law_noughts", "_law_middle", "_law_asked_here", "_law_side", "_law_more", "_law_one"]
theorem sc_L_good : FnScope ["_law_machine_here", "_law_paper", "_law_kind", "_law_width", "_law_lefts", "_law_rights", "_law_middles", "_law_signs", "_law_word", "_law_left", "_law_row", "_law_sign", "_law_right", "_law_noughts", "_law_middle", "_law_asked_here", "_law_side", "_law_more", "_law_one"] ["_law_machine_here", "_law_paper"] (defScope s_L_good) := ⟨rfl, rfl, rfl, by decide +kernel, rfl, by decide +kernel, by decide +kernel⟩
abbrev s_shows : Stmt := top 39
abbrev N_shows : List Str := ["machine", "paper"]
theorem sc_shows : FnScope ["machine", "paper"] ["machine", "paper"] (defScope s_shows) := ⟨rfl, rfl, rfl, by decide +kernel, rfl, by decide +kernel, by decide +kernel⟩
abbrev s_L_asked : Stmt := top 52
abbrev N_L_asked : List Str := ["_law_machine_here", "_law_paper", "_law_handed", "_law_given", "_law_found", "_law_due"]
theorem sc_L_asked : FnScope ["_law_machine_here", "_law_paper", "_law_handed", "_law_given", "_law_found", "_law_due"] ["_law_machine_here", "_law_paper"] (defScope s_L_asked) := ⟨rfl, rfl, rfl, by decide +kernel, rfl, by decide +kernel, by decide +kernel⟩
abbrev s_L_bent : Stmt := top 51
abbrev N_L_bent : List Str := ["_law_purse_here", "_law_machine_here", "_law_paper", "_law_kind", "_law_width", "_law_lefts", "_law_rights", "_law_middles", "_law_signs", "_law_way", "_law_word", "_law_k", "_law_at", "_law_to", "_law_more", "_law_odd"]
theorem sc_L_bent : FnScope ["_law_purse_here", "_law_machine_here", "_law_paper", "_law_kind", "_law_width", "_law_lefts", "_law_rights", "_law_middles", "_law_signs", "_law_way", "_law_word", "_law_k", "_law_at", "_law_to", "_law_more", "_law_odd"] ["_law_purse_here", "_law_machine_here", "_law_paper"] (defScope s_L_bent) := ⟨rfl, rfl, rfl, by decide +kernel, rfl, by decide +kernel, by decide +kernel⟩
abbrev s_law : Stmt := top 53
abbrev N_law : List Str := ["_law_script", "_law_purse_here", "_law_rows", "_law_signs", "_law_machine_here", "_law_width", "_law_turns", "_law_paper", "_law_turn"]
theorem sc_law : FnScope ["_law_script", "_law_purse_here", "_law_rows", "_law_signs", "_law_machine_here", "_law_width", "_law_turns", "_law_paper", "_law_turn"] ["_law_script"] (defScope s_law) := ⟨rfl, rfl, rfl, by decide +kernel, rfl, by decide +kernel, by decide +kernel⟩
/-- what the top has written: where each def stands, what the names hold -/
structure Tx (K : PySem.W.Frag) (mg : Str → Option Value) where
  a_L_mixed : Addr
  fd_L_mixed : FuncData
  F_L_mixed : Fun K "_law_mixed" "_law_mixed" s_L_mixed a_L_mixed fd_L_mixed
  b_L_mixed : Binds K fd_L_mixed ["_law_cell", "_law_k"] []
  m_L_mixed : mg "_law_mixed" = some (.ref a_L_mixed)
  a_L_purse : Addr
  fd_L_purse : FuncData
  F_L_purse : Fun K "_law_purse" "_law_purse" s_L_purse a_L_purse fd_L_purse
  b_L_purse : Binds K fd_L_purse ["_law_script"] []
  m_L_purse : mg "_law_purse" = some (.ref a_L_purse)
  a_L_draw : Addr
  fd_L_draw : FuncData
  F_L_draw : Fun K "_law_draw" "_law_draw" s_L_draw a_L_draw fd_L_draw
  b_L_draw : Binds K fd_L_draw ["_law_purse_here", "_law_out_of"] []
  m_L_draw : mg "_law_draw" = some (.ref a_L_draw)
  a_L_machine : Addr
  fd_L_machine : FuncData
  F_L_machine : Fun K "_law_machine" "_law_machine" s_L_machine a_L_machine fd_L_machine
  b_L_machine : Binds K fd_L_machine ["_law_purse_here", "_law_rows", "_law_signs"] []
  m_L_machine : mg "_law_machine" = some (.ref a_L_machine)
  a_L_asked_by : Addr
  fd_L_asked_by : FuncData
  F_L_asked_by : Fun K "_law_asked_by" "_law_asked_by" s_L_asked_by a_L_asked_by fd_L_asked_by
  b_L_asked_by : Binds K fd_L_asked_by ["_law_machine_here", "_law_middle", "_law_lefts", "_law_rights"] []
  m_L_asked_by : mg "_law_asked_by" = some (.ref a_L_asked_by)
  a_L_grown : Addr
  fd_L_grown : FuncData
  F_L_grown : Fun K "_law_grown" "_law_grown" s_L_grown a_L_grown fd_L_grown
  b_L_grown : Binds K fd_L_grown ["_law_machine_here", "_law_width", "_law_turns"] []
  m_L_grown : mg "_law_grown" = some (.ref a_L_grown)
  a_L_copy : Addr
  fd_L_copy : FuncData
  F_L_copy : Fun K "_law_copy" "_law_copy" s_L_copy a_L_copy fd_L_copy
  b_L_copy : Binds K fd_L_copy ["_law_machine_here"] []
  m_L_copy : mg "_law_copy" = some (.ref a_L_copy)
  a_is_entry : Addr
  fd_is_entry : FuncData
  F_is_entry : Fun K "is_entry" "is_entry" s_is_entry a_is_entry fd_is_entry
  b_is_entry : Binds K fd_is_entry ["entry", "rows", "signs"] []
  m_is_entry : mg "is_entry" = some (.ref a_is_entry)
  a_is_machine : Addr
  fd_is_machine : FuncData
  F_is_machine : Fun K "is_machine" "is_machine" s_is_machine a_is_machine fd_is_machine
  b_is_machine : Binds K fd_is_machine ["machine"] []
  m_is_machine : mg "is_machine" = some (.ref a_is_machine)
  a_must_machine : Addr
  fd_must_machine : FuncData
  F_must_machine : Fun K "must_machine" "must_machine" s_must_machine a_must_machine fd_must_machine
  b_must_machine : Binds K fd_must_machine ["machine"] []
  m_must_machine : mg "must_machine" = some (.ref a_must_machine)
  a_put_new : Addr
  fd_put_new : FuncData
  F_put_new : Fun K "put_new" "put_new" s_put_new a_put_new fd_put_new
  b_put_new : Binds K fd_put_new ["found", "things"] []
  m_put_new : mg "put_new" = some (.ref a_put_new)
  a_entry_for : Addr
  fd_entry_for : FuncData
  F_entry_for : Fun K "entry_for" "entry_for" s_entry_for a_entry_for fd_entry_for
  b_entry_for : Binds K fd_entry_for ["machine", "middle"] []
  m_entry_for : mg "entry_for" = some (.ref a_entry_for)
  a_led_right : Addr
  fd_led_right : FuncData
  F_led_right : Fun K "led_right" "led_right" s_led_right a_led_right fd_led_right
  b_led_right : Binds K fd_led_right ["middle", "put", "row", "rights"] []
  m_led_right : mg "led_right" = some (.ref a_led_right)
  a_led_left : Addr
  fd_led_left : FuncData
  F_led_left : Fun K "led_left" "led_left" s_led_left a_led_left fd_led_left
  b_led_left : Binds K fd_led_left ["middle", "put", "row", "lefts"] []
  m_led_left : mg "led_left" = some (.ref a_led_left)
  a_grown : Addr
  fd_grown : FuncData
  F_grown : Fun K "grown" "grown" s_grown a_grown fd_grown
  b_grown : Binds K fd_grown ["machine", "lefts", "rights", "middles"] []
  m_grown : mg "grown" = some (.ref a_grown)
  a_is_width : Addr
  fd_is_width : FuncData
  F_is_width : Fun K "is_width" "is_width" s_is_width a_is_width fd_is_width
  b_is_width : Binds K fd_is_width ["machine", "width"] []
  m_is_width : mg "is_width" = some (.ref a_is_width)
  a_are_words : Addr
  fd_are_words : FuncData
  F_are_words : Fun K "are_words" "are_words" s_are_words a_are_words fd_are_words
  b_are_words : Binds K fd_are_words ["words", "width", "signs"] []
  m_are_words : mg "are_words" = some (.ref a_are_words)
  a_are_middles : Addr
  fd_are_middles : FuncData
  F_are_middles : Fun K "are_middles" "are_middles" s_are_middles a_are_middles fd_are_middles
  b_are_middles : Binds K fd_are_middles ["machine", "width", "middles"] []
  m_are_middles : mg "are_middles" = some (.ref a_are_middles)
  a_shows_shut : Addr
  fd_shows_shut : FuncData
  F_shows_shut : Fun K "shows_shut" "shows_shut" s_shows_shut a_shows_shut fd_shows_shut
  b_shows_shut : Binds K fd_shows_shut ["machine", "paper"] []
  m_shows_shut : mg "shows_shut" = some (.ref a_shows_shut)
  a_L_is_width : Addr
  fd_L_is_width : FuncData
  F_L_is_width : Fun K "_law_is_width" "_law_is_width" s_L_is_width a_L_is_width fd_L_is_width
  b_L_is_width : Binds K fd_L_is_width ["_law_signs", "_law_width"] []
  m_L_is_width : mg "_law_is_width" = some (.ref a_L_is_width)
  a_L_word_fine : Addr
  fd_L_word_fine : FuncData
  F_L_word_fine : Fun K "_law_word_fine" "_law_word_fine" s_L_word_fine a_L_word_fine fd_L_word_fine
  b_L_word_fine : Binds K fd_L_word_fine ["_law_word", "_law_width", "_law_signs"] []
  m_L_word_fine : mg "_law_word_fine" = some (.ref a_L_word_fine)
  a_L_good : Addr
  fd_L_good : FuncData
  F_L_good : Fun K "_law_good" "_law_good" s_L_good a_L_good fd_L_good
  b_L_good : Binds K fd_L_good ["_law_machine_here", "_law_paper"] []
  m_L_good : mg "_law_good" = some (.ref a_L_good)
  a_shows : Addr
  fd_shows : FuncData
  F_shows : Fun K "shows" "shows" s_shows a_shows fd_shows
  b_shows : Binds K fd_shows ["machine", "paper"] []
  m_shows : mg "shows" = some (.ref a_shows)
  a_L_asked : Addr
  fd_L_asked : FuncData
  F_L_asked : Fun K "_law_asked" "_law_asked" s_L_asked a_L_asked fd_L_asked
  b_L_asked : Binds K fd_L_asked ["_law_machine_here", "_law_paper"] []
  m_L_asked : mg "_law_asked" = some (.ref a_L_asked)
  a_L_bent : Addr
  fd_L_bent : FuncData
  F_L_bent : Fun K "_law_bent" "_law_bent" s_L_bent a_L_bent fd_L_bent
  b_L_bent : Binds K fd_L_bent ["_law_purse_here", "_law_machine_here", "_law_paper"] []
  m_L_bent : mg "_law_bent" = some (.ref a_L_bent)
  a_law : Addr
  fd_law : FuncData
  F_law : Fun K "law" "law" s_law a_law fd_law
  b_law : Binds K fd_law ["_law_script"] []
  m_law : mg "law" = some (.ref a_law)
  C_NoMachine : Addr
  m_NoMachine : mg "NoMachine" = some (.ref C_NoMachine)
  tk_MOST_ROWS : Tok
  m_MOST_ROWS : mg "MOST_ROWS" = some (.int 4 tk_MOST_ROWS)
  tk_MOST_SIGNS : Tok
  m_MOST_SIGNS : mg "MOST_SIGNS" = some (.int 4 tk_MOST_SIGNS)
  tk_MOST_WORDS : Tok
  m_MOST_WORDS : mg "MOST_WORDS" = some (.int 16 tk_MOST_WORDS)
  n_range : mg "range" = none
  n_len : mg "len" = none
  n_list : mg "list" = none
  n_all : mg "all" = none
  n_min : mg "min" = none
  n_max : mg "max" = none
  n_isinstance : mg "isinstance" = none
  n_bool : mg "bool" = none
  n_tuple : mg "tuple" = none
section
variable {P : Program} {w : World} {K : PySem.W.Frag} {mg : Str → Option Value} {base : Heap}
/-! ### min(a, b), min(xs) of data; a list or a tuple walked -/
theorem pi_or {X : Cx} {tg e : Expr} {t1 t2 : TI} (h1 : L2.PI X tg e t1) (h2 : L2.PI X tg e t2) : L2.PI X tg e (fun σ H R => t1 σ H R ∨ t2 σ H R) :=
  ⟨fun pins s σ H R I h => h.elim (h1.run pins s σ H R I) (h2.run pins s σ H R I)⟩
section
open PySem.Spec PyProof.Rows PySem.W PySem.SeqAt
theorem toks_inj {x y : PyData} (h : alike x y = true) (e : keyToks x = keyToks y) : PyData.eqv x y = true := by
  cases k : PyData.eqv x y with
  | true => rfl
  | false =>
    have z := (toks_eqv x y h).2 k [.inl 0] [.inl 1]
    rw [e, lex_pre, lex_irrefl] at z
    have z2 : PyProof.Rows.lexLt itemOrd [(.inl 0 : Int ⊕ List Nat)] [.inl 1] = true := by decide
    rw [z2] at z
    cases z
variable {α : Type} [Dat α]
def ltD (a b : α) : Bool := dataLt (Dat.py a) (Dat.py b)
theorem ltD_irr (a : α) : ltD a a = false := lex_irrefl _
theorem ltD_neg {a b c : α} (h : ltD a c = true) : ltD a b = true ∨ ltD b c = true := lex_negTrans _ _ _ h
theorem ltD_tr {a b c : α} (h : ltD a b = true) (k : ltD b c = true) : ltD a c = true := lex_trans _ _ _ h k
theorem ltD_tot [Lk α] {a b : α} (h : ltD a b = false) (k : ltD b a = false) : a = b := (Dat.eqv a b).mp (toks_inj (Lk.k a b) (lex_total _ _ h k))
def minL (d : α) (ds : List α) : α := ds.foldl (fun a y => if ltD y a then y else a) d
theorem minL_mem : ∀ (ds : List α) (d : α), minL d ds ∈ d :: ds
  | [], d => List.mem_cons_self
  | y :: ds, d => by
    show minL (if ltD y d then y else d) ds ∈ _
    have ih := minL_mem ds (if ltD y d then y else d)
    rcases List.mem_cons.mp ih with e | m
    · rw [e]
      split
      · exact List.mem_cons_of_mem _ List.mem_cons_self
      · exact List.mem_cons_self
    · exact List.mem_cons_of_mem _ (List.mem_cons_of_mem _ m)
theorem minL_le : ∀ (ds : List α) (d : α), ∀ x ∈ d :: ds, ltD x (minL d ds) = false
  | [], d, x, m => by rw [List.mem_singleton.mp m]; exact ltD_irr _
  | y :: ds, d, x, m => by
    show ltD x (minL (if ltD y d then y else d) ds) = false
    have ih := minL_le ds (if ltD y d then y else d)
    have h0 := ih _ List.mem_cons_self
    have low : ∀ z, ltD z (if ltD y d then y else d) = false → ltD z (minL (if ltD y d then y else d) ds) = false := fun z hz => by
      cases k : ltD z (minL (if ltD y d then y else d) ds) with
      | false => rfl
      | true =>
        rcases ltD_neg (b := if ltD y d then y else d) k with k | k
        · rw [hz] at k; cases k
        · rw [h0] at k; cases k
    rcases List.mem_cons.mp m with rfl | m
    · refine low _ ?_
      split
      · rename_i c
        cases k : ltD x y with
        | false => rfl
        | true =>
          have := ltD_tr k c
          rw [ltD_irr] at this; cases this
      · exact ltD_irr _
    rcases List.mem_cons.mp m with rfl | m
    · refine low _ ?_
      split
      · exact ltD_irr _
      · rename_i c
        exact Bool.not_eq_true _ ▸ c
    · exact ih x (List.mem_cons_of_mem _ m)
/-- the least of all is one -/
theorem minL_uniq [Lk α] {d : α} {ds : List α} {m : α} (h : m ∈ d :: ds) (k : ∀ x ∈ d :: ds, ltD x m = false) : minL d ds = m :=
  ltD_tot (k _ (minL_mem ds d)) (minL_le ds d m h)
theorem minL_same [Lk α] {d d' : α} {ds ds' : List α} (h : ∀ x, x ∈ d :: ds ↔ x ∈ d' :: ds') : minL d ds = minL d' ds' :=
  minL_uniq ((h _).mpr (minL_mem ds' d')) fun x m => minL_le ds' d' x ((h x).mp m)
theorem minD_py (d : α) (ds : List α) : minD (Dat.py d) (ds.map Dat.py) = Dat.py (minL d ds) := by
  unfold minD minL
  induction ds generalizing d with
  | nil => rfl
  | cons y ds ih =>
    rw [List.map_cons, List.foldl_cons, List.foldl_cons, ← ih]
    congr 1
    show (if dataLt (Dat.py y) (Dat.py d) = true then _ else _) = Dat.py (if dataLt (Dat.py y) (Dat.py d) = true then y else d)
    split <;> rfl
theorem py_inj [Lk α] {a b : α} (h : Dat.py a = Dat.py b) : a = b := (Dat.eqv a b).mp (by rw [h]; exact eqv_refl_alike _ (Lk.k b b))
end
section
open PySem.Spec PyProof.Rows PySem.W PySem.SeqAt
variable {prog : Program} {w : World} {A : Around} {E : Value → Shared → Prop} {s : Shared}
/-- min(a, b) of data -/
theorem min_two_data {a b : Value} {x y : PyData} {as : List Addr} {Q : Value → Shared → Prop} (hh : A.handled = none) (hr : ReadsAll s.heap [a, b] [x, y] as) (ha : AlikeAll [x, y]) (hu : A.units + 1 + PyData.depthAll [x, y] < cLine)
    (h : ∀ (h' : Heap) (tk : Nat), (∀ c o, s.heap.get? c = some o → h'.get? c = some o) → Q (if dataLt y x = true then b else a) { s with heap := h', toks := tk }) :
    wpAny (model prog w) A (call (.builtin "min") [a, b]) Q E s := by
  have hname : (toString "min" ++ toString ".loop" : String) = "min.loop" := by decide
  refine call_function_tree F.kind_min F.plain_min F.entry_min (F.args_min2 _ _) ?_
  show wpAny _ A.in1 (Builtin.Builtins.bindParams "min" ["key", "default"] 0 ⟨[], []⟩ >>= _) _ _ s
  refine wpAny_bind (wpAny_of_eq (show Builtin.Builtins.bindParams "min" ["key", "default"] 0 ⟨[], []⟩ = pure [none, none] from rfl) ?_)
  show wpAny _ A.in1 (newTuple [a, b] >>= _) _ _ s
  refine wpAny_bind (wpAny_newObj_type ?_)
  have hT : (s.heap.push { cls := .type "tuple", data := .seq #[a, b] }).IsTuple s.heap.objs.size #[a, b] := ⟨_, Heap.get?_push_size _ rfl, rfl, 0, rfl⟩
  have k1 : ∀ c o, s.heap.get? c = some o → (s.heap.push { cls := .type "tuple", data := .seq #[a, b] }).get? c = some o := fun c o e => Heap.get?_push_of_some _ e
  refine wpAny_bind (iter_tupleW (A := A.in1) (s := { s with heap := s.heap.push { cls := .type "tuple", data := .seq #[a, b] } }) hh hT fun s₂ e W hst hfp hw hkeep => ?_)
  refine wpAny_bind (wpAny_newObj_type ?_)
  have hSf : s₂.heap.objs.size ∉ [(s.heap.push { cls := .type "tuple", data := .seq #[a, b] }).objs.size, s.heap.objs.size] := fun hm => Nat.lt_irrefl _ (hfp _ hm)
  have hr1 : ReadsAll (s.heap.push { cls := .type "tuple", data := .seq #[a, b] }) (#[a, b] : Array Value).toList [x, y] as := ReadsAll.keeps k1 hr
  rw [hname]
  refine wpAny_pure ⟨plainId_quiet F.plain_min_loop _, codeAny_min_loop_firstH W (s.heap.push { cls := .type "tuple", data := .seq #[a, b] }) hw _ (cmpIn_lt (A := A.in1) (s := { s with heap := s.heap.push { cls := .type "tuple", data := .seq #[a, b] } }) hr1 ha (by show A.units + 1 + _ < _; exact hu)) s₂.heap.objs.size hSf (fresh_in hkeep) _ (by show 0 < 2; decide) (fun b o e => Heap.get?_push_of_some _ (hkeep b o e)) (W.frame 0 s₂ _ s₂.toks hst (Nat.le_refl _) fun b _ o e => Heap.get?_push_of_some _ e) (Heap.get?_push_size _ rfl) fun v s' hP hm => ?_⟩
  obtain ⟨h', tk, rfl, hk'⟩ := moved_old e rfl (Moved.drop_new (tk := s₂.toks) hm (Nat.le_refl _))
  have z := h h' tk fun c o e => hk' c o (k1 c o e)
  have hv : v = if dataLt y x = true then b else a := by
    have hP : (#[a, b] : Array Value)[argBest (fun i j => dataLt ([x, y].getD i .none) ([x, y].getD j .none)) 1]? = some v := hP
    cases hc : dataLt y x with
    | true =>
      have e2 : argBest (fun i j => dataLt ([x, y].getD i .none) ([x, y].getD j .none)) 1 = 1 := by simp [argBest, hc]
      rw [e2] at hP
      exact (Option.some.inj hP).symm
    | false =>
      have e2 : argBest (fun i j => dataLt ([x, y].getD i .none) ([x, y].getD j .none)) 1 = 0 := by simp [argBest, hc]
      rw [e2] at hP
      exact (Option.some.inj hP).symm
  rw [hv]; exact z
end
section
open PySem.Spec PyProof.Rows PySem.W PySem.SeqAt
variable {X : Cx}
theorem not_non {α : Type} [Dat α] [So α] (a : α) : Dat.py a ≠ .none := by
  rcases So.k (α := α) with h | h
  · obtain ⟨x, r, e⟩ := h a
    rw [e]; exact fun z => nomatch z
  · exact (h a).1
/-- min(a, b) of data -/
@[irreducible] def rMin2N (K : PySem.W.Frag) : List V → Hp → VK → Prop := fun vs H Q => ∃ (α : Type) (_ : Dat α) (_ : Lk α) (_ : So α) (x y : V) (a b : α), vs = [x, y] ∧ Is H x a ∧ Is H y b ∧ Dat.dep α ≤ 64 ∧ Q (if ltD b a = true then y else x) H
theorem rMin2N.mk {α : Type} [Dat α] [Lk α] [So α] {K : PySem.W.Frag} {H : Hp} {Q : VK} {x y : V} {a b : α} (hx : Is H x a) (hy : Is H y b) (q : Q (if ltD b a = true then y else x) H) (hd : Dat.dep α ≤ 64 := by decide) : rMin2N K [x, y] H Q := by
  unfold rMin2N; exact ⟨α, inferInstance, inferInstance, inferInstance, x, y, a, b, rfl, hx, hy, hd, q⟩
theorem call_min2N (hc : X.calm = true) (hu : X.A.units + 66 < cLine) : CallR X (.builtin "min") (rMin2N X.K) := by
  intro pins s σ H vs us Q I r h
  unfold rMin2N at h
  obtain ⟨α, i1, i2, i3, x, y, a, b, rfl, hx, hy, hd, q⟩ := h
  obtain ⟨u, u', rfl, r1, r2⟩ := vals2 r
  obtain ⟨as, ra⟩ := Dp.reads I _ _ _ (Dat.dp (K := X.K) hx) r1
  obtain ⟨bs, rb⟩ := Dp.reads I _ _ _ (Dat.dp (K := X.K) hy) r2
  have da := Dat.depth a
  have db := Dat.depth b
  refine min_two_data (x := Dat.py a) (y := Dat.py b) (I.ok.hd hc) (ReadsAll.cons ra (ReadsAll.cons rb ReadsAll.nil)) ⟨fun p hp q hq => ?_, fun p hp => ?_⟩ ?_ fun h' tk k => ⟨_, H, I.kept k, ?_, q⟩
  · have e : ∀ p ∈ [Dat.py a, Dat.py b], ∃ c : α, p = Dat.py c := fun p hp => by
      rcases List.mem_cons.mp hp with rfl | hp
      · exact ⟨a, rfl⟩
      · exact ⟨b, List.mem_singleton.mp hp⟩
    obtain ⟨c, rfl⟩ := e p hp
    obtain ⟨d, rfl⟩ := e q hq
    exact Lk.k c d
  · rcases List.mem_cons.mp hp with rfl | hp
    · exact not_non a
    · rw [List.mem_singleton.mp hp]; exact not_non b
  · show X.A.units + 1 + max (Dat.py a).depth (max (Dat.py b).depth 0) < cLine
    omega
  · show RelV (if dataLt (Dat.py b) (Dat.py a) = true then y else x) (if dataLt (Dat.py b) (Dat.py a) = true then u' else u)
    split
    · exact r2
    · exact r1
/-- min(xs), xs a list of data that holds something -/
@[irreducible] def rMinN (K : PySem.W.Frag) : List V → Hp → VK → Prop := fun vs H Q => ∃ (α : Type) (_ : Dat α) (_ : Lk α) (_ : So α) (l : Addr) (xs : List V) (d : α) (ds : List α), vs = [.ref l] ∧ SqL K H l xs ∧ IsAll H xs (d :: ds) ∧ Dat.dep α ≤ 64 ∧
  ∀ (i : Nat) (y : V), xs[i]? = some y → (d :: ds)[i]? = some (minL d ds) → Q y H
theorem rMinN.mk {α : Type} [Dat α] [Lk α] [So α] {K : PySem.W.Frag} {H : Hp} {Q : VK} {l : Addr} {xs : List V} {d : α} {ds : List α} (h : SqL K H l xs) (al : IsAll H xs (d :: ds)) (q : ∀ (i : Nat) (y : V), xs[i]? = some y → (d :: ds)[i]? = some (minL d ds) → Q y H) (hd : Dat.dep α ≤ 64 := by decide) : rMinN K [.ref l] H Q := by
  unfold rMinN; exact ⟨α, inferInstance, inferInstance, inferInstance, l, xs, d, ds, rfl, h, al, hd, q⟩
theorem reads_all {α : Type} [Dat α] {pins : List (Addr × Obj)} {σ : L2.St} {H : Hp} {s : Shared} (I : Inv X pins σ H s) : ∀ {xs : List V} {us : List Value} {ds : List α}, Vals xs us → IsAll H xs ds → ∃ as, ReadsAll s.heap us (ds.map Dat.py) as
  | _, _, [], .nil, _ => ⟨[], .nil⟩
  | _, _, d :: ds, .nil, h => by have := h.1; simp at this
  | _, _, [], .cons _ _, h => by have := h.1; simp at this
  | x :: xs, u :: us, d :: ds, .cons r rs, h => by
    obtain ⟨as, ra⟩ := Dp.reads I _ _ _ (Dat.dp (K := X.K) (h.2 0 x d rfl rfl)) r
    obtain ⟨bs, rb⟩ := reads_all I rs ⟨by have := h.1; simpa using this, fun i a b p q => h.2 (i + 1) a b (by simpa using p) (by simpa using q)⟩
    exact ⟨_, ReadsAll.cons ra rb⟩
theorem call_minN (hc : X.calm = true) (hu : X.A.units + 66 < cLine) : CallR X (.builtin "min") (rMinN X.K) := by
  intro pins s σ H vs us Q I r h
  unfold rMinN at h
  obtain ⟨α, i1, i2, i3, l, xs, d, ds, rfl, hs, al, hd, q⟩ := h
  obtain ⟨its, rv, hl, hz⟩ := I.list hs
  rw [Vals.ref1 r]
  obtain ⟨as, ra⟩ := reads_all I rv al
  have dp := depth_all (d :: ds)
  refine min_list_data (vs := its.toArray) (x := Dat.py d) (xs := ds.map Dat.py) (I.ok.hd hc) hl.isList (by simpa using ra) ⟨fun p hp q hq => ?_, fun p hp => ?_⟩ ?_ fun i v h' tk bs hv hrd k => ?_
  · rw [← List.map_cons (f := Dat.py)] at hp hq
    obtain ⟨c, _, rfl⟩ := List.mem_map.mp hp
    obtain ⟨e, _, rfl⟩ := List.mem_map.mp hq
    exact Lk.k c e
  · rw [← List.map_cons (f := Dat.py)] at hp
    obtain ⟨c, _, rfl⟩ := List.mem_map.mp hp
    exact not_non c
  · rw [← List.map_cons (f := Dat.py)]
    omega
  · have hv : its[i]? = some v := by simpa using hv
    have J : Inv X pins σ H { s with heap := h', toks := tk } := I.kept k
    obtain ⟨hi, _⟩ := List.getElem?_eq_some_iff.mp hv
    have hx : xs[i]? = some _ := List.getElem?_eq_getElem (by rw [rv.length]; exact hi)
    generalize xs[i]'(by rw [rv.length]; exact hi) = y at hx
    obtain ⟨u, hu', ru⟩ := rv.get hx
    rw [hv] at hu'
    cases hu'
    obtain ⟨e, he, ie⟩ := al.get' hx
    obtain ⟨bs', re⟩ := Dp.reads J _ _ _ (Dat.dp (K := X.K) ie) ru
    rw [minD_py] at hrd
    have ee := py_inj (alike_unique _ _ _ _ _ (Lk.k _ _) hrd re)
    exact ⟨y, H, J, ru, q i y hx (by rw [ee]; exact he)⟩
end
instance : Lk Ent := ⟨fun a b => by
  cases a <;> cases b <;> simp [Dat.py, entP, PySem.W.alike, PySem.W.alikeAll]⟩
/-! ### draws -/
def sp_L_mixed : Sp := fun vs H Q _ => ∃ c k : Int, vs = [.int c, .int k] ∧ 0 ≤ k ∧ k < 1000 ∧ ∀ n : Int, 0 ≤ n → n < 2147483587 → Q (.int n) H
theorem ok_L_mixed (t : Tx K mg) : FnOk P w K mg base CX0 1 t.a_L_mixed t.fd_L_mixed ["_law_cell", "_law_k"] sp_L_mixed := by
  refine t.F_L_mixed.ok sc_L_mixed (fun vs H Q E h => ?_) (fun cdv A outer s H vs Q E hr h => ?_)
  · obtain ⟨c, k, rfl, _⟩ := h
    rfl
  · obtain ⟨c, k, rfl, k0, k1, q⟩ := h
    refine ⟨_, (pss_cons (ps_set (i := 2) sc_L_mixed.nd rfl (by first | exact Or.inl rfl | exact Or.inr rfl) (pe_op op_mod (pv 0) (pe_op op_pow pe_int pe_int)))
      (pss_cons (ps_set (i := 3) sc_L_mixed.nd rfl (by first | exact Or.inl rfl | exact Or.inr rfl) (pe_op op_mod (pe_op op_mul (pe_op op_add (pe_op op_add (pe_op op_add (pe_op op_mul (pv 2) (pv 2)) (pe_op op_mul pe_int (pv 2))) (pe_op op_mul pe_int (pv 1))) pe_int) pe_int) pe_int))
      (pss_cons (ps_set (i := 3) sc_L_mixed.nd rfl (by first | exact Or.inl rfl | exact Or.inr rfl) (pe_op op_mod (pe_op op_add (pe_op op_mul (pv 3) (pv 3)) pe_int) pe_int))
      (pss_one (ps_ret (pe_op op_mod (pe_op op_mul (pv 3) (pe_op op_add (pv 3) pe_int)) pe_int)))))), ?_⟩
    have e15 : (10 : Int) ^ (15 : Int).toNat = 1000000000000000 := by decide
    refine ⟨_, rfl, _, _, rfl, rfl, ⟨by decide, by decide, by decide⟩, _, _, rfl, rfl, (by show (0 : Int) < 10 ^ (15 : Int).toNat; decide), ?_⟩
    rw [e15]
    have h0 : (0 : Int) ≤ c % 1000000000000000 := Int.emod_nonneg _ (by decide)
    have h1 : c % 1000000000000000 < 1000000000000000 := Int.emod_lt_of_pos _ (by decide)
    generalize c % 1000000000000000 = r at h0 h1
    refine ⟨_, rfl, _, rfl, _, _, rfl, rfl, .inl ⟨by omega, by omega⟩, _, rfl, _, _, rfl, rfl, .inl ⟨by decide, by decide⟩, _, _, rfl, rfl, _, rfl, _, _, rfl, rfl, .inl ⟨by decide, by decide⟩, _, _, rfl, rfl, _, _, rfl, rfl,
      _, _, rfl, rfl, .inr ⟨by decide, by decide⟩, _, _, rfl, rfl, (by show (0 : Int) < 2147483629; decide), ?_⟩
    have g0 := Int.emod_nonneg ((r * r + 3 * r + 7919 * k + 1) * 48271) (show (2147483629 : Int) ≠ 0 by decide)
    have g1 := Int.emod_lt_of_pos ((r * r + 3 * r + 7919 * k + 1) * 48271) (show (0 : Int) < 2147483629 by decide)
    generalize (r * r + 3 * r + 7919 * k + 1) * 48271 % 2147483629 = n at g0 g1
    refine ⟨_, rfl, _, rfl, _, _, rfl, rfl, .inl ⟨by omega, by omega⟩, _, _, rfl, rfl, _, _, rfl, rfl, (by show (0 : Int) < 2147483587; decide), ?_⟩
    have f0 := Int.emod_nonneg (n * n + 7) (show (2147483587 : Int) ≠ 0 by decide)
    have f1 := Int.emod_lt_of_pos (n * n + 7) (show (0 : Int) < 2147483587 by decide)
    generalize (n * n + 7) % 2147483587 = m at f0 f1
    refine ⟨_, rfl, _, rfl, _, _, rfl, rfl, _, _, rfl, rfl, .inl ⟨by omega, by omega⟩, _, _, rfl, rfl, (by show (0 : Int) < 2147483563; decide), ?_⟩
    exact q _ (Int.emod_nonneg _ (by decide)) (by have := Int.emod_lt_of_pos (m * (m + 69621)) (show (0 : Int) < 2147483563 by decide); omega)
/-- the purse: two numbers that aren't below 0 -/
def PurseO (a b : Int) : HO := .lst [.int a, .int b]
def sp_L_purse (K : PySem.W.Frag) : Sp := fun vs H Q _ => ∃ (l : Addr) (ns : List Int), vs = [.ref l] ∧ SqL K H l (ns.map V.int) ∧ ns.length ≤ 63 ∧
  ∀ (a b : Int) (p : Addr) (H' : Hp), 0 ≤ a → 0 ≤ b → Same H H' → H p = none → H' p = some (PurseO a b) → Q (.ref p) H'
theorem ok_L_purse (t : Tx K mg) : FnOk P w K mg base CX0 2 t.a_L_purse t.fd_L_purse ["_law_script"] (sp_L_purse K) := by
  refine t.F_L_purse.ok sc_L_purse (fun vs H Q E h => ?_) (fun cdv A outer s H vs Q E hr h => ?_)
  · obtain ⟨l, ns, rfl, _⟩ := h
    rfl
  · obtain ⟨l, ns, rfl, hS, hn, q⟩ := h
    refine ⟨_, (pss_cons (ps_set (i := 1) sc_L_purse.nd rfl (by first | exact Or.inl rfl | exact Or.inr rfl) (pe_op op_cat (pe_slice sl_list (pv 0) po_none (po_some pe_int)) (pe_lst (pa_cons pe_int pa_nil))))
      (pss_cons (ps_set (i := 2) sc_L_purse.nd rfl (by first | exact Or.inl rfl | exact Or.inr rfl) pe_int)
      (pss_cons (ps_for PassesOwn.never rfl (pi_range1 (by rfl) t.n_range (pa_cons pe_int pa_nil)) (pg_name (i := 3) sc_L_purse.nd rfl (by first | exact Or.inl rfl | exact Or.inr rfl)) (pss_one (ps_set (i := 2) sc_L_purse.nd rfl (by first | exact Or.inl rfl | exact Or.inr rfl) (pe_op op_add (pe_op op_mul (pv 2) pe_int) (pe_call (ok_L_mixed t) (hr.mono (by decide)) (by rfl) t.m_L_mixed t.F_L_mixed.kp t.b_L_mixed .nil pass0 (pa_cons (pe_ix ix_list (pv 1) (pe_op op_mod (pv 3) (pe_callB (id := "len") call_lenQ (by rfl) t.n_len (by decide +kernel) (pa_cons (pv 1) pa_nil))) (fun _ _ => rfl)) (pa_cons (pv 3) pa_nil)))))))
      (pss_cons (ps_if (pt_cmpR op_ge (pe_ix ix_list (pv 1) pe_int (fun _ _ => rfl)) (pe_op op_pow pe_int pe_int) (nomark _)) (pss_one (ps_ret (pe_lst (pa_cons (pe_op op_fdivW (pe_ix ix_list (pv 1) pe_int (fun _ _ => rfl)) (pe_op op_pow pe_int pe_int)) (pa_cons (pv 2) pa_nil))))) pss_nil)
      (pss_one (ps_ret (pe_lst (pa_cons (pv 2) (pa_cons (pv 2) pa_nil))))))))), ?_⟩
    refine ⟨_, rfl, _, rfl, l, _, rfl, hS, fun p np => ?_⟩
    rw [cut_63 hn]
    have e0 : ([V.int 0] : List V) = [(0 : Int)].map V.int := rfl
    refine ⟨by show 1 ≤ sizeLine; decide, fun p2 np2 => ⟨p, p2, _, _, rfl, rfl, (by rw [upd_ne (ne_of_none upd_same np2)]; exact upd_same), upd_same, (by show _ + 1 ≤ _; rw [List.length_map]; exact Nat.le_trans (Nat.add_le_add_right hn 1) (by decide)), fun p3 np3 => ?_⟩⟩
    rw [e0, ← List.map_append]
    have s3 : Same H (upd (upd (upd H p (.lst (ns.map V.int))) p2 (.lst ([(0 : Int)].map V.int))) p3 (.lst ((ns ++ [0]).map V.int))) := sm_new (sm_new (sm_new (Same.refl H) np) np2) np3
    have hl : 0 < (ns ++ [0]).length := by simp
    generalize ec : ns ++ [0] = cs at s3 hl
    have h3 : (upd (upd (upd H p (.lst (ns.map V.int))) p2 (.lst ([(0 : Int)].map V.int))) p3 (.lst (cs.map V.int))) p3 = some (.lst (cs.map V.int)) := upd_same
    generalize upd (upd (upd H p (.lst (ns.map V.int))) p2 (.lst ([(0 : Int)].map V.int))) p3 (.lst (cs.map V.int)) = H3 at s3 h3
    refine ⟨150, rfl, by decide, by decide, for_range (lo := 0) (n := 150) (fun i σ H2 => ∃ (n : Int) (v : Option V), σ = [some (.ref l), some (.ref p3), some (.int n), v] ∧ H2 = H3 ∧ 0 ≤ n) ⟨1, none, rfl, rfl, by decide⟩ ?_ ?_⟩
    · rintro i σ H2 hi ⟨n, v, rfl, rfl, hn0⟩
      refine ⟨_, rfl, _, _, rfl, rfl, .inr ⟨by decide, by decide⟩, ?_⟩
      have hm := Int.emod_nonneg (0 + (i : Int)) (show ((cs.map V.int).length : Int) ≠ 0 by rw [List.length_map]; omega)
      have hm1 := Int.emod_lt_of_pos (0 + (i : Int)) (show (0 : Int) < ((cs.map V.int).length : Int) by rw [List.length_map]; omega)
      have hj : (((0 + (i : Int)) % ((cs.map V.int).length : Int)).toNat : Int) = (0 + (i : Int)) % ((cs.map V.int).length : Int) := Int.toNat_of_nonneg hm
      have hj1 : ((0 + (i : Int)) % ((cs.map V.int).length : Int)).toNat < cs.length := by rw [List.length_map] at hm1 ⊢; omega
      refine ⟨_, rfl, _, rfl, _, rfl, p3, _, rfl, .inl (SqL.of h3), _, _, rfl, rfl, (by rw [List.length_map]; omega), p3, _, _, _, rfl, rfl, SqL.of h3, at_of hj.symm (by rw [List.getElem?_map, List.getElem?_eq_getElem hj1]; rfl), ?_⟩
      refine ⟨_, rfl, _, _, rfl, by omega, by omega, fun m m0 m1 => ⟨_, _, rfl, rfl, ?_⟩⟩
      exact ⟨_, _, rfl, rfl, by omega⟩
    · rintro σ H2 ⟨n, v, rfl, rfl, hn0⟩
      have h0 : (cs.map V.int)[0]? = some (.int (cs[0])) := by rw [List.getElem?_map, List.getElem?_eq_getElem hl]; rfl
      refine ⟨_, rfl, p3, _, _, _, rfl, rfl, SqL.of h3, atI_nat (j := 0) h0, _, _, rfl, rfl, ⟨by decide, by decide, by decide⟩, _, _, rfl, rfl, _, rfl, ?_⟩
      refine ite2 (fun c => ?_) (fun c => ?_)
      · refine ⟨_, rfl, p3, _, _, _, rfl, rfl, SqL.of h3, atI_nat (j := 0) h0, _, _, rfl, rfl, ⟨by decide, by decide, by decide⟩, _, _, rfl, rfl, ⟨by decide, by decide⟩, _, rfl, by show 2 ≤ sizeLine; decide, fun q0 nq => ?_⟩
        have c : (10 : Int) ^ (18 : Int).toNat ≤ cs[0] := of_decide_eq_true c
        have e18 : (10 : Int) ^ (18 : Int).toNat = 1000000000000000000 := by decide
        rw [e18] at c
        exact q _ _ q0 _ (Int.ediv_nonneg (by omega) (by rw [e18]; decide)) hn0 (sm_new s3 nq) (s3.free nq) upd_same
      · refine ⟨_, rfl, _, rfl, by show 2 ≤ sizeLine; decide, fun q0 nq => ?_⟩
        exact q _ _ q0 _ hn0 hn0 (sm_new s3 nq) (s3.free nq) upd_same
def sp_L_draw : Sp := fun vs H Q _ => ∃ (p : Addr) (a b n : Int), vs = [.ref p, .int n] ∧ H p = some (PurseO a b) ∧ 0 ≤ a ∧ 0 ≤ b ∧ 0 < n ∧ n < 1267650600228229401496703205376 ∧
  ∀ d a' b' : Int, 0 ≤ d → d < n → 0 ≤ a' → 0 ≤ b' → Q (.int d) (upd H p (PurseO a' b'))
theorem ok_L_draw (t : Tx K mg) : FnOk P w K mg base CX0 1 t.a_L_draw t.fd_L_draw ["_law_purse_here", "_law_out_of"] sp_L_draw := by
  refine t.F_L_draw.ok sc_L_draw (fun vs H Q E h => ?_) (fun cdv A outer s H vs Q E hr h => ?_)
  · obtain ⟨p, a, b, n, rfl, _⟩ := h
    rfl
  · obtain ⟨p, a, b, n, rfl, hp, ha, hb, n0, n1, q⟩ := h
    refine ⟨_, (pss_cons (ps_if (pt_cmpR op_eq (pe_ix ix_list (pv 0) pe_int (fun _ _ => rfl)) pe_int (nomark _)) (pss_one (ps_asg (pe_ix ix_list (pv 0) pe_int (fun _ _ => rfl)) (pg_sub (pv 0) pe_int set_list))) pss_nil)
      (pss_cons (ps_set (i := 2) sc_L_draw.nd rfl (by first | exact Or.inl rfl | exact Or.inr rfl) (pe_op op_mod (pe_ix ix_list (pv 0) pe_int (fun _ _ => rfl)) (pv 1)))
      (pss_cons (ps_asg (pe_op op_fdivW (pe_ix ix_list (pv 0) pe_int (fun _ _ => rfl)) (pv 1)) (pg_sub (pv 0) pe_int set_list))
      (pss_one (ps_ret (pv 2)))))), ?_⟩
    refine ⟨_, rfl, p, _, _, _, rfl, rfl, SqL.of hp, atI_nat (j := 0) rfl, rfl, _, rfl, ?_⟩
    refine ite2 (fun c => ?_) (fun c => ?_)
    · refine ⟨_, rfl, p, _, _, _, rfl, rfl, SqL.of hp, atI_nat (j := 1) rfl, _, rfl, p, _, _, 0, rfl, rfl, hp, rfl, ?_⟩
      refine ⟨_, rfl, p, _, _, _, rfl, rfl, SqL.of upd_same, atI_nat (j := 0) rfl, _, rfl, _, _, rfl, rfl, n0, ?_⟩
      refine ⟨_, rfl, p, _, _, _, rfl, rfl, SqL.of upd_same, atI_nat (j := 0) rfl, _, rfl, _, _, rfl, rfl, wide_div n0 (b := 100) (by have e : (2 : Nat) ^ 100 = 1267650600228229401496703205376 := rfl; rw [e]; omega) (by decide) (by decide), _, rfl, p, _, _, 0, rfl, rfl, upd_same, rfl, _, rfl, ?_⟩
      rw [upd_upd]
      exact q _ _ _ (Int.emod_nonneg _ (by omega)) (Int.emod_lt_of_pos _ n0) (Int.ediv_nonneg hb (by omega)) hb
    · refine ⟨_, rfl, p, _, _, _, rfl, rfl, SqL.of hp, atI_nat (j := 0) rfl, _, rfl, _, _, rfl, rfl, n0, ?_⟩
      refine ⟨_, rfl, p, _, _, _, rfl, rfl, SqL.of hp, atI_nat (j := 0) rfl, _, rfl, _, _, rfl, rfl, wide_div n0 (b := 100) (by have e : (2 : Nat) ^ 100 = 1267650600228229401496703205376 := rfl; rw [e]; omega) (by decide) (by decide), _, rfl, p, _, _, 0, rfl, rfl, hp, rfl, _, rfl, ?_⟩
      exact q _ _ _ (Int.emod_nonneg _ (by omega)) (Int.emod_lt_of_pos _ n0) (Int.ediv_nonneg ha (by omega)) hb
/-! ### small things -/
theorem ln {H : Hp} {p q : Addr} {o u : HO} (n : H q = none) (h : H p = some o) : upd H q u p = some o := (upd_ne (ne_of_none h n)).trans h
theorem kt_int_int {K : PySem.W.Frag} : PySem.W.kitOne K (.type "int") (.type "int") = some true := kit_ty (by decide +kernel)
theorem kt_int_bool {K : PySem.W.Frag} : PySem.W.kitOne K (.type "int") (.type "bool") = some false := kit_ty (by decide +kernel)
theorem kt_tup {K : PySem.W.Frag} : PySem.W.kitOne K (.type "tuple") (.type "tuple") = some true := kit_ty (by decide +kernel)
theorem kt_list {K : PySem.W.Frag} : PySem.W.kitOne K (.type "list") (.type "list") = some true := kit_ty (by decide +kernel)
theorem gr_purse {H H1 : Hp} (s : Same H H1) : Gr mu0 H H H H1 := ⟨fun _ _ h => h, s, fun _ _ h => .inl h, fun c o h _ => s c o h, fun c h => s.free h⟩
theorem at_end {xs : List V} {k : Nat} {v : V} (l : xs.length = k + 1) (h : xs[k]? = some v) : atI xs (-1) = some v := by
  have e : ixN xs.length (-1) = some k := by
    unfold ixN
    rw [if_neg (by decide), if_pos (by omega)]
    congr 1
    omega
  unfold atI
  rw [e]
  exact h
theorem cut_all {xs : List V} {j : Nat} (h : xs.length ≤ j) : cutV xs none (some (j : Int)) = xs := by
  unfold cutV
  have e1 : HT.sIx xs.length 0 none = 0 := rfl
  have e2 : HT.sIx xs.length xs.length (some (j : Int)) = xs.length := by
    simp only [HT.sIx]
    rw [if_neg (by omega), Int.toNat_natCast]
    omega
  rw [e1, e2, List.drop_zero, Nat.sub_zero, List.take_length]
theorem map_take_succ {α β : Type} {f : α → β} {xs : List α} {i : Nat} {x : α} (h : xs[i]? = some x) : (xs.take (i + 1)).map f = (xs.take i).map f ++ [f x] := by
  rw [List.take_add_one, h, List.map_append]; rfl
theorem cut_1 {xs : List V} : cutV xs (some 1) none = xs.drop 1 := by
  unfold cutV
  have e2 : HT.sIx xs.length xs.length none = xs.length := rfl
  rw [e2]
  cases xs with
  | nil => simp
  | cons x xs =>
    have e1 : HT.sIx (x :: xs).length 0 (some 1) = 1 := by
      simp only [HT.sIx, List.length_cons]
      rw [if_neg (by decide), show (1 : Int).toNat = 1 from rfl]
      omega
    rw [e1]
    show (xs.take (xs.length + 1 - 1)) = xs
    rw [Nat.add_sub_cancel, List.take_length]
theorem cut32 : ¬ (HT.sIx 3 0 none = 0 ∧ HT.sIx 3 3 (some 2) = 3) := by decide
theorem Gr.frzS {mu : Addr → Prop} {F H F1 H1 : Hp} (g : Gr mu F H F1 H1) (P : Addr → Prop) [DecidablePred P] (h : ∀ c, P c → H c = none ∧ F1 c = none) : Gr mu F H (fun c => if P c then H1 c else F1 c) H1 ∧ Same F1 (fun c => if P c then H1 c else F1 c) := by
  have s : Same F1 (fun c => if P c then H1 c else F1 c) := fun c o e => by
    by_cases p : P c
    · rw [(h c p).2] at e; cases e
    · simp only [p, if_false]; exact e
  refine ⟨⟨fun c o e => s c o (g.ff c o e), fun c o e => ?_, fun c o e => ?_, g.fr, g.th⟩, s⟩
  · by_cases p : P c
    · simp only [p, if_true] at e; exact e
    · simp only [p, if_false] at e; exact g.fh c o e
  · by_cases p : P c
    · exact .inr (h c p).1
    · simp only [p, if_false] at e; exact g.nw c o e
/-! ### machines that are machines -/
structure EOk (R S : Nat) (e : Ent) : Prop where
  ok : ∀ p w r, e = .go p w r → (0 ≤ p ∧ p < S) ∧ (w = -1 ∨ w = 1) ∧ 0 ≤ r ∧ r < R
structure MOk (M : Mach) (R S : Nat) : Prop where
  r1 : 1 ≤ R
  r4 : R ≤ 4
  s2 : 2 ≤ S
  s4 : S ≤ 4
  len : M.length = R
  row : ∀ r ∈ M, r.length = S
  ent : ∀ r ∈ M, ∀ e ∈ r, EOk R S e
/-! ### machines drawn: lists that may be changed yet -/
structure MaO (H F1 H1 : Hp) (m : Addr) (rs : List Addr) (ess : List (List V)) (M : Mach) : Prop where
  ow : Ow H F1 H1 m (.lst (rs.map V.ref))
  nd : rs.Nodup
  ne : m ∉ rs
  len : rs.length = ess.length
  rows : ∀ (i : Nat) r es, rs[i]? = some r → ess[i]? = some es → Ow H F1 H1 r (.lst es)
  dat : All2 (fun es row => IsAll F1 es row) ess M
section
variable {mu mu' : Addr → Prop} {H F F1 H1 F2 H2 : Hp} {m : Addr} {rs : List Addr} {ess : List (List V)} {M : Mach}
theorem MaO.row (x : MaO H F1 H1 m rs ess M) {r : Addr} (h : r ∈ rs) : ∃ es, Ow H F1 H1 r (.lst es) := by
  obtain ⟨i, hi⟩ := List.getElem?_of_mem h
  have l := (List.getElem?_eq_some_iff.mp hi).1
  exact ⟨ess[i]'(by rw [← x.len]; exact l), x.rows i r _ hi (List.getElem?_eq_getElem _)⟩
theorem MaO.gr (x : MaO H F1 H1 m rs ess M) (g : Gr mu F1 H1 F2 H2) (k : ∀ c, mu c → c ≠ m ∧ c ∉ rs) : MaO H F2 H2 m rs ess M where
  ow := x.ow.call g fun z => (k m z).1 rfl
  nd := x.nd
  ne := x.ne
  len := x.len
  rows := fun i r es h1 h2 => (x.rows i r es h1 h2).call g fun z => (k r z).2 (List.mem_of_getElem? h1)
  dat := x.dat.imp fun es row z => z.up g.ff
theorem MaO.off (x : MaO H F1 H1 m rs ess M) {p : Addr} {o : HO} (h : H p = some o) : ∀ c, muP p c → c ≠ m ∧ c ∉ rs := fun c e => by
  rw [show c = p from e]
  refine ⟨fun z => ?_, fun z => ?_⟩
  · rw [z, x.ow.n] at h; cases h
  · obtain ⟨es, w⟩ := x.row z
    rw [w.n] at h; cases h
theorem MaO.offn (x : MaO H F1 H1 m rs ess M) {p : Addr} (h : H1 p = none) : p ≠ m ∧ p ∉ rs := by
  refine ⟨fun z => ?_, fun z => ?_⟩
  · rw [z, x.ow.h] at h; cases h
  · obtain ⟨es, w⟩ := x.row z
    rw [w.h] at h; cases h
/-- a row that is done comes in -/
theorem MaO.add (x : MaO H F1 H1 m rs ess M) {r : Addr} {es : List V} {row : List Ent} (w : Ow H F1 H1 r (.lst es)) (k : r ≠ m ∧ r ∉ rs) (d : IsAll F1 es row) : MaO H F1 (upd H1 m (.lst ((rs ++ [r]).map V.ref))) m (rs ++ [r]) (ess ++ [es]) (M ++ [row]) where
  ow := x.ow.set
  nd := nd_snoc x.nd k.2
  ne := fun z => by
    rcases List.mem_append.mp z with z | z
    · exact x.ne z
    · exact k.1 (List.mem_singleton.mp z).symm
  len := by rw [List.length_append, List.length_append, x.len]; rfl
  rows := fun i r' es' h1 h2 => by
    by_cases l : i < rs.length
    · rw [List.getElem?_append_left l] at h1
      rw [List.getElem?_append_left (by rw [← x.len]; exact l)] at h2
      exact (x.rows i r' es' h1 h2).other fun z => x.ne (by rw [← z]; exact List.mem_of_getElem? h1)
    · rw [List.getElem?_append_right (by omega)] at h1
      rw [List.getElem?_append_right (by rw [← x.len]; omega), ← x.len] at h2
      cases e : i - rs.length with
      | zero =>
        rw [e] at h1 h2
        cases h1; cases h2
        exact w.other k.1
      | succ n => rw [e] at h1; cases h1
  dat := x.dat.app (All2.one d)
/-- an entry of it is changed -/
theorem MaO.put (x : MaO H F1 H1 m rs ess M) {i j : Nat} {r : Addr} {es : List V} {row : List Ent} {v : V} {e : Ent} (hr : rs[i]? = some r) (hes : ess[i]? = some es) (hrow : M[i]? = some row) (hv : Is F1 v e) :
    MaO H F1 (upd H1 r (.lst (es.set j v))) m rs (ess.set i (es.set j v)) (M.set i (row.set j e)) where
  ow := x.ow.other fun z => x.ne (by rw [z]; exact List.mem_of_getElem? hr)
  nd := x.nd
  ne := x.ne
  len := by rw [List.length_set]; exact x.len
  rows := fun i' r' es' h1 h2 => by
    by_cases e : i = i'
    · subst e
      rw [hr] at h1
      cases h1
      rw [List.getElem?_set_self (List.getElem?_eq_some_iff.mp hes).1] at h2
      cases h2
      exact (x.rows i r es hr hes).set
    · rw [List.getElem?_set_ne e] at h2
      exact (x.rows i' r' es' h1 h2).other fun z => e (nd_ix x.nd hr (by rw [← z]; exact h1))
  dat := x.dat.set ((x.dat.2 i es row hes hrow).set hv j) i
/-- it is changed no more -/
theorem MaO.frz (x : MaO H F1 H1 m rs ess M) (g : Gr mu F H F1 H1) : ∃ F2, Gr mu F H F2 H1 ∧ Same F1 F2 ∧ Is F2 (.ref m) M ∧ (∀ c, c ≠ m → c ∉ rs → F2 c = F1 c) ∧ ∀ c, c = m ∨ c ∈ rs → F2 c = H1 c := by
  have own : ∀ c, (c = m ∨ c ∈ rs) → H c = none ∧ F1 c = none ∧ ∃ o, H1 c = some o := fun c h => by
    rcases h with rfl | h
    · exact ⟨x.ow.n, x.ow.f, _, x.ow.h⟩
    · obtain ⟨es, w⟩ := x.row h
      exact ⟨w.n, w.f, _, w.h⟩
  have s : Same F1 (fun c => if c = m ∨ c ∈ rs then H1 c else F1 c) := fun c o h => by
    by_cases e : c = m ∨ c ∈ rs
    · rw [(own c e).2.1] at h; cases h
    · simp only [e, if_false]; exact h
  refine ⟨fun c => if c = m ∨ c ∈ rs then H1 c else F1 c, ⟨fun c o h => s c o (g.ff c o h), fun c o h => ?_, fun c o h => ?_, g.fr, g.th⟩, s, ⟨m, rs.map V.ref, rfl, ?_, by rw [List.length_map, x.len]; exact x.dat.1, fun i v row h1 h2 => ?_⟩, fun c h1 h2 => if_neg fun z => z.elim h1 h2, fun c h => if_pos h⟩
  · by_cases e : c = m ∨ c ∈ rs
    · simp only [e, if_true] at h; exact h
    · simp only [e, if_false] at h; exact g.fh c o h
  · by_cases e : c = m ∨ c ∈ rs
    · exact .inr (own c e).1
    · simp only [e, if_false] at h; exact g.nw c o h
  · show (if m = m ∨ m ∈ rs then H1 m else F1 m) = _
    rw [if_pos (.inl rfl)]; exact x.ow.h
  · rw [List.getElem?_map] at h1
    cases hr : rs[i]? with
    | none => rw [hr] at h1; cases h1
    | some r =>
      rw [hr] at h1
      cases h1
      obtain ⟨es, hes, hd⟩ := x.dat.get h2
      refine ⟨r, es, rfl, ?_, hd.up s⟩
      show (if r = m ∨ r ∈ rs then H1 r else F1 r) = _
      rw [if_pos (.inr (List.mem_of_getElem? hr))]
      exact (x.rows i r es hr hes).h
/-- it may be changed again -/
theorem MaO.thaw {F0 F3 G : Hp} (s0 : Same F0 H) (x : MaO H F1 H1 m rs ess M) (s : Same F1 F2) (on : ∀ c, c = m ∨ c ∈ rs → F2 c = H1 c) (s' : Same F2 F3) (g : Gr mu F0 H F3 G) : ∃ F', Gr mu F0 H F' G ∧ Same F1 F' ∧ MaO H F' G m rs ess M := by
  have own : ∀ c, (c = m ∨ c ∈ rs) → H c = none ∧ F1 c = none ∧ ∀ o, H1 c = some o → G c = some o := fun c h => by
    have k : ∀ o, H1 c = some o → G c = some o := fun o e => g.fh _ _ (s' _ _ ((on c h).trans e))
    rcases id h with rfl | h
    · exact ⟨x.ow.n, x.ow.f, k⟩
    · obtain ⟨es, w⟩ := x.row h
      exact ⟨w.n, w.f, k⟩
  have sa : Same F1 (fun c => if c = m ∨ c ∈ rs then none else F3 c) := fun c o h => by
    by_cases e : c = m ∨ c ∈ rs
    · rw [(own c e).2.1] at h; cases h
    · simp only [e, if_false]; exact s' _ _ (s _ _ h)
  have sb : Same (fun c => if c = m ∨ c ∈ rs then none else F3 c) F3 := fun c o h => by
    by_cases e : c = m ∨ c ∈ rs
    · simp only [e, if_true] at h; cases h
    · simp only [e, if_false] at h; exact h
  have no : ∀ c, (c = m ∨ c ∈ rs) → (fun c => if c = m ∨ c ∈ rs then none else F3 c) c = none := fun c e => if_pos e
  refine ⟨fun c => if c = m ∨ c ∈ rs then none else F3 c, ⟨fun c o h => ?_, fun c o h => g.fh _ _ (sb _ _ h), fun c o h => g.nw _ _ (sb _ _ h), g.fr, g.th⟩, sa, ⟨⟨x.ow.n, no _ (.inl rfl), (own _ (.inl rfl)).2.2 _ x.ow.h⟩, x.nd, x.ne, x.len, fun i r es h1 h2 => ?_, x.dat.imp fun es row z => z.up sa⟩⟩
  · by_cases e : c = m ∨ c ∈ rs
    · have z := s0 c o h
      rw [(own c e).1] at z; cases z
    · simp only [e, if_false]; exact g.ff c o h
  · have w := x.rows i r es h1 h2
    have m' : r = m ∨ r ∈ rs := .inr (List.mem_of_getElem? h1)
    exact ⟨w.n, no _ m', (own _ m').2.2 _ w.h⟩
theorem MaO.at (x : MaO H F1 H1 m rs ess M) {i : Nat} {row : List Ent} (h : M[i]? = some row) : ∃ r es, rs[i]? = some r ∧ ess[i]? = some es ∧ Ow H F1 H1 r (.lst es) ∧ IsAll F1 es row := by
  obtain ⟨es, hes, al⟩ := x.dat.get h
  have l : i < rs.length := by rw [x.len]; exact (List.getElem?_eq_some_iff.mp hes).1
  exact ⟨_, es, List.getElem?_eq_getElem l, hes, x.rows i _ es (List.getElem?_eq_getElem l) hes, al⟩
end
theorem ixN_of {n : Nat} {k : Int} (h0 : 0 ≤ k) (h1 : k < n) : ixN n k = some k.toNat := by
  unfold ixN
  rw [if_pos h0, if_pos h1]
theorem Gr.pf {mu : Addr → Prop} {F H F1 H1 : Hp} {p : Addr} {o : HO} (g : Gr mu F H F1 H1) (f : F p = none) (h : H p = some o) : F1 p = none := by
  cases e : F1 p with
  | none => rfl
  | some z =>
    rcases g.nw p z e with k | k
    · rw [f] at k; cases k
    · rw [h] at k; cases k
/-- a draw: the purse alone is another one -/
theorem Gr.drw {F H F1 H1 : Hp} {p : Addr} {o : HO} {a b : Int} (g : Gr (muP p) F H F1 H1) (f : F p = none) (h : H p = some o) : Gr (muP p) F H F1 (upd H1 p (PurseO a b)) ∧ Gr (muP p) F1 H1 F1 (upd H1 p (PurseO a b)) :=
  ⟨g.set (g.pf f h) (.inr rfl), (Gr.refl g.fh).set (g.pf f h) (.inr rfl)⟩
theorem MOk.set {M : Mach} {R S i j : Nat} {row : List Ent} {e : Ent} (h : MOk M R S) (hr : M[i]? = some row) (he : EOk R S e) : MOk (M.set i (row.set j e)) R S := by
  have mr := List.mem_of_getElem? hr
  refine ⟨h.r1, h.r4, h.s2, h.s4, by rw [List.length_set]; exact h.len, fun r z => ?_, fun r z e' z' => ?_⟩
  · rcases List.mem_or_eq_of_mem_set z with z | rfl
    · exact h.row r z
    · rw [List.length_set]; exact h.row row mr
  · rcases List.mem_or_eq_of_mem_set z with z | rfl
    · exact h.ent r z e' z'
    · rcases List.mem_or_eq_of_mem_set z' with z' | rfl
      · exact h.ent row mr e' z'
      · exact he
def sp_L_machine : Sp := fun vs H Q _ => ∃ (F : Hp) (p : Addr) (a b : Int) (R S : Nat), vs = [.ref p, .int R, .int S] ∧ Same F H ∧ F p = none ∧ H p = some (PurseO a b) ∧ 0 ≤ a ∧ 0 ≤ b ∧ 1 ≤ R ∧ R ≤ 4 ∧ 2 ≤ S ∧ S ≤ 4 ∧
  ∀ (F' H' : Hp) (v : V) (M : Mach) (a' b' : Int), Gr (muP p) F H F' H' → H' p = some (PurseO a' b') → 0 ≤ a' → 0 ≤ b' → MOk M R S → Is F' v M → Q v H'
theorem ok_L_machine (t : Tx K mg) : FnOk P w K mg base CX0 2 t.a_L_machine t.fd_L_machine ["_law_purse_here", "_law_rows", "_law_signs"] sp_L_machine := by
  refine t.F_L_machine.ok sc_L_machine (fun vs H Q E h => ?_) (fun cdv A outer s H vs Q E hr h => ?_)
  · obtain ⟨F, p, a, b, R, S, rfl, _⟩ := h
    rfl
  · obtain ⟨F, p, a, b, R, S, rfl, sF, fp, hp, ha, hb, R1, R4, S2, S4, q⟩ := h
    refine ⟨_, (pss_cons (ps_set (i := 3) sc_L_machine.nd rfl (by first | exact Or.inl rfl | exact Or.inr rfl) (pe_lst pa_nil))
      (pss_cons (ps_set (i := 4) sc_L_machine.nd rfl (by first | exact Or.inl rfl | exact Or.inr rfl) (pe_ix ix_list (pe_lst (pa_cons pe_int (pa_cons pe_int (pa_cons pe_int pa_nil)))) (pe_call (ok_L_draw t) (hr.mono (by decide)) (by rfl) t.m_L_draw t.F_L_draw.kp t.b_L_draw .nil pass0 (pa_cons (pv 0) (pa_cons pe_int pa_nil))) (fun _ _ => rfl)))
      (pss_cons (ps_for PassesOwn.never rfl (pi_range1 (by rfl) t.n_range (pa_cons (pv 1) pa_nil)) (pg_name (i := 5) sc_L_machine.nd rfl (by first | exact Or.inl rfl | exact Or.inr rfl)) (pss_cons (ps_set (i := 6) sc_L_machine.nd rfl (by first | exact Or.inl rfl | exact Or.inr rfl) (pe_lst pa_nil))
      (pss_cons (ps_for PassesOwn.never rfl (pi_range1 (by rfl) t.n_range (pa_cons (pv 2) pa_nil)) (pg_name (i := 7) sc_L_machine.nd rfl (by first | exact Or.inl rfl | exact Or.inr rfl)) (pss_cons (ps_set (i := 8) sc_L_machine.nd rfl (by first | exact Or.inl rfl | exact Or.inr rfl) (pe_tup (pa_cons (pe_call (ok_L_draw t) (hr.mono (by decide)) (by rfl) t.m_L_draw t.F_L_draw.kp t.b_L_draw .nil pass0 (pa_cons (pv 0) (pa_cons (pv 2) pa_nil))) (pa_cons (pe_op op_sub (pe_op op_mul pe_int (pe_call (ok_L_draw t) (hr.mono (by decide)) (by rfl) t.m_L_draw t.F_L_draw.kp t.b_L_draw .nil pass0 (pa_cons (pv 0) (pa_cons pe_int pa_nil)))) pe_int) (pa_cons (pe_call (ok_L_draw t) (hr.mono (by decide)) (by rfl) t.m_L_draw t.F_L_draw.kp t.b_L_draw .nil pass0 (pa_cons (pv 0) (pa_cons (pv 1) pa_nil))) pa_nil)))))
      (pss_cons (ps_if (pt_cmpR op_eq (pe_call (ok_L_draw t) (hr.mono (by decide)) (by rfl) t.m_L_draw t.F_L_draw.kp t.b_L_draw .nil pass0 (pa_cons (pv 0) (pa_cons (pv 4) pa_nil))) pe_int (nomark _)) (pss_one (ps_set (i := 8) sc_L_machine.nd rfl (by first | exact Or.inl rfl | exact Or.inr rfl) (pe_tup pa_nil))) pss_nil)
      (pss_one (ps_expr (pe_bm PySem.F.plainAttrs_list PySem.F.slot_list_append PySem.F.type_list_append mt_append (pv 6) (pa_cons (pv 8) pa_nil)))))))
      (pss_one (ps_expr (pe_bm PySem.F.plainAttrs_list PySem.F.slot_list_append PySem.F.type_list_append mt_append (pv 3) (pa_cons (pv 6) pa_nil)))))))
      (pss_one (ps_ret (pv 3)))))), ?_⟩
    have g0 : Gr (muP p) F H F H := Gr.refl sF
    refine ⟨nil_le, fun D nD => ?_⟩
    have w0 : Ow H F (upd H D (.lst [])) D (.lst []) := Ow.mk1 g0 nD
    have g1 := g0.own (o := .lst []) nD
    have hp1 := ln (u := .lst []) nD hp
    have pD0 : D ≠ p := (ne_of_none hp nD).symm
    refine ⟨three_le, fun L nL => ?_⟩
    have g2 := g1.own (o := .lst [.int 2, .int 5, .int 12]) nL
    have hp2 := ln (u := .lst [.int 2, .int 5, .int 12]) nL hp1
    have w2 := w0.own (u := .lst [.int 2, .int 5, .int 12]) nL
    have hL2 : (upd (upd H D (.lst [])) L (.lst [.int 2, .int 5, .int 12])) L = some (.lst [.int 2, .int 5, .int 12]) := upd_same
    have pL : L ≠ p := (ne_of_none hp1 nL).symm
    generalize upd (upd H D (.lst [])) L (.lst [.int 2, .int 5, .int 12]) = H2 at g2 hp2 w2 hL2 ⊢
    refine ⟨_, rfl, p, a, b, 3, rfl, hp2, ha, hb, by decide, by decide, fun d3 a3 b3 d30 d31 ha3 hb3 => ?_⟩
    obtain ⟨g4, k4⟩ := g2.drw (a := a3) (b := b3) fp hp
    have w4 := w2.call k4 pD0
    have hL4 : (upd H2 p (PurseO a3 b3)) L = some (.lst [.int 2, .int 5, .int 12]) := (upd_ne pL).trans hL2
    have hp4 : (upd H2 p (PurseO a3 b3)) p = some (PurseO a3 b3) := upd_same
    generalize upd H2 p (PurseO a3 b3) = H3 at g4 k4 w4 hL4 hp4 ⊢
    obtain ⟨e0, he0, e00, e01⟩ : ∃ e0 : Int, atI [V.int 2, V.int 5, V.int 12] d3 = some (.int e0) ∧ 0 < e0 ∧ e0 ≤ 12 := by
      rcases (by omega : d3 = 0 ∨ d3 = 1 ∨ d3 = 2) with rfl | rfl | rfl
      · exact ⟨2, rfl, by decide, by decide⟩
      · exact ⟨5, rfl, by decide, by decide⟩
      · exact ⟨12, rfl, by decide, by decide⟩
    refine ⟨L, _, _, _, rfl, rfl, SqL.of hL4, he0, ?_⟩
    have x0 : MaO H F H3 D [] [] [] := ⟨w4, List.nodup_nil, (fun z => nomatch z), rfl, fun i r es h _ => (by cases h), All2.nil⟩
    refine ⟨_, rfl, (R : Int), rfl, by omega, by omega, for_range (lo := 0) (n := ((R : Int)).toNat) (fun i σ G => ∃ (F1 : Hp) (rs : List Addr) (ess : List (List V)) (M : Mach) (a b : Int) (v5 v6 v7 v8 : Option V), σ = [some (.ref p), some (.int R), some (.int S), some (.ref D), some (.int e0), v5, v6, v7, v8] ∧
      Gr (muP p) F H F1 G ∧ G p = some (PurseO a b) ∧ 0 ≤ a ∧ 0 ≤ b ∧ MaO H F1 G D rs ess M ∧ M.length = i ∧ ∀ row ∈ M, row.length = S ∧ ∀ e ∈ row, EOk R S e) ⟨F, [], [], [], a3, b3, none, none, none, none, rfl, g4, hp4, ha3, hb3, x0, rfl, fun row z => nomatch z⟩ ?_ ?_⟩
    · rintro i σ G hi ⟨F1, rs, ess, M, a, b, v5, v6, v7, v8, rfl, g, hpG, ha, hb, x, hl, hM⟩
      -- row = []
      refine ⟨nil_le, fun r nr => ?_⟩
      have gr := g.own (o := .lst []) nr
      have wr : Ow H F1 (upd G r (.lst [])) r (.lst []) := Ow.mk1 g nr
      have xr := x.gr ((Gr.refl (mu := mu0) g.fh).own (o := .lst []) nr) fun c z => z.elim
      have offr := x.offn nr
      have hpr : (upd G r (.lst [])) p = some (PurseO a b) := by rw [upd_ne (ne_of_none hpG nr)]; exact hpG
      refine ⟨_, rfl, (S : Int), rfl, by omega, by omega, for_range (lo := 0) (n := ((S : Int)).toNat) (fun j σ G => ∃ (F1 : Hp) (es : List V) (row : List Ent) (a b : Int) (v7 v8 : Option V), σ = [some (.ref p), some (.int R), some (.int S), some (.ref D), some (.int e0), some (.int (0 + i)), some (.ref r), v7, v8] ∧
        Gr (muP p) F H F1 G ∧ G p = some (PurseO a b) ∧ 0 ≤ a ∧ 0 ≤ b ∧ MaO H F1 G D rs ess M ∧ Ow H F1 G r (.lst es) ∧ IsAll F1 es row ∧ row.length = j ∧ ∀ e ∈ row, EOk R S e) ⟨F1, [], [], a, b, v7, v8, rfl, gr, hpr, ha, hb, xr, wr, All2.nil, rfl, fun e z => nomatch z⟩ ?_ ?_⟩
      · rintro j σ G hj ⟨F1, es, row, a, b, v7, v8, rfl, g, hpG, ha, hb, x, w, al, hl, hrow⟩
        have wp : r ≠ p := fun z => by rw [z] at w; rw [w.n] at hp; cases hp
        have wD : r ≠ D := offr.1
        -- the entry
        refine ⟨_, rfl, _, rfl, p, a, b, (S : Int), rfl, hpG, ha, hb, by omega, by omega, fun e1 a1 b1 e10 e11 ha1 hb1 => ?_⟩
        obtain ⟨g1, k1⟩ := g.drw (a := a1) (b := b1) fp hp
        refine ⟨_, rfl, p, a1, b1, 2, rfl, upd_same, ha1, hb1, by decide, by decide, fun e2 a2 b2 e20 e21 ha2 hb2 => ⟨_, _, rfl, rfl, .inl ⟨by decide, by decide⟩, _, _, rfl, rfl, ?_⟩⟩
        obtain ⟨g2, k2⟩ := g1.drw (a := a2) (b := b2) fp hp
        refine ⟨_, rfl, _, rfl, p, a2, b2, (R : Int), rfl, upd_same, ha2, hb2, by omega, by omega, fun e3 a3 b3 e30 e31 ha3 hb3 => ⟨three_le, fun q0 nq => ?_⟩⟩
        obtain ⟨g3, k3⟩ := g2.drw (a := a3) (b := b3) fp hp
        have k := (k1.trans k2).trans k3
        have x3 := x.gr k (x.off hp)
        have w3 := w.call k wp
        have hp3 : (upd (upd (upd G p (PurseO a1 b1)) p (PurseO a2 b2)) p (PurseO a3 b3)) p = some (PurseO a3 b3) := upd_same
        generalize upd (upd (upd G p (PurseO a1 b1)) p (PurseO a2 b2)) p (PurseO a3 b3) = G3 at g3 k x3 w3 hp3 nq
        have g4 := g3.new (o := .tup [.int e1, .int (2 * e2 - 1), .int e3]) nq
        have k4 := (Gr.refl (mu := mu0) g3.fh).new (o := .tup [.int e1, .int (2 * e2 - 1), .int e3]) nq
        have x4 := x3.gr k4 fun c z => z.elim
        have w4 := w3.call k4 fun z => z
        have hp4 := k4.fr _ _ hp3 fun z => z
        have ee : Is (upd F1 q0 (.tup [.int e1, .int (2 * e2 - 1), .int e3])) (.ref q0) (Ent.go e1 (2 * e2 - 1) e3) := ⟨q0, rfl, upd_same⟩
        have eo : EOk R S (Ent.go e1 (2 * e2 - 1) e3) := ⟨fun p w r z => by cases z; exact ⟨⟨e10, e11⟩, by omega, e30, e31⟩⟩
        have al4 := al.up k4.ff
        generalize upd F1 q0 (.tup [.int e1, .int (2 * e2 - 1), .int e3]) = F4 at g4 k4 x4 w4 ee al4
        generalize upd G3 q0 (.tup [.int e1, .int (2 * e2 - 1), .int e3]) = G4 at g4 k4 x4 w4 hp4
        -- what is the same in both ways: the entry comes in
        have fin : ∀ (F5 G5 : Hp) (q5 : Addr) (e5 : Ent) (a5 b5 : Int), Gr (muP p) F H F5 G5 → G5 p = some (PurseO a5 b5) → 0 ≤ a5 → 0 ≤ b5 → MaO H F5 G5 D rs ess M → Ow H F5 G5 r (.lst es) → IsAll F5 es row → Is F5 (.ref q5) e5 → EOk R S e5 →
            ∃ (F1 : Hp) (es1 : List V) (row : List Ent) (a b : Int) (v7 v8 : Option V), [some (.ref p), some (.int R), some (.int S), some (.ref D), some (.int e0), some (.int (0 + i)), some (.ref r), some (.int (0 + j)), some (.ref q5)] = [some (.ref p), some (.int R), some (.int S), some (.ref D), some (.int e0), some (.int (0 + i)), some (.ref r), v7, v8] ∧
              Gr (muP p) F H F1 (upd G5 r (.lst (es ++ [.ref q5]))) ∧ (upd G5 r (.lst (es ++ [.ref q5]))) p = some (PurseO a b) ∧ 0 ≤ a ∧ 0 ≤ b ∧ MaO H F1 (upd G5 r (.lst (es ++ [.ref q5]))) D rs ess M ∧ Ow H F1 (upd G5 r (.lst (es ++ [.ref q5]))) r (.lst es1) ∧ IsAll F1 es1 row ∧ row.length = j + 1 ∧ ∀ e ∈ row, EOk R S e := by
          intro F5 G5 q5 e5 a5 b5 g5 hp5 ha5 hb5 x5 w5 al5 ie5 eo5
          refine ⟨F5, es ++ [.ref q5], row ++ [e5], a5, b5, _, _, rfl, g5.set w5.f (.inl w5.n), by rw [upd_ne (Ne.symm wp)]; exact hp5, ha5, hb5, x5.gr (mu := fun c => c = r) ((Gr.refl g5.fh).set w5.f (.inr rfl)) (fun c z => by rw [show c = r from z]; exact offr), w5.set, al5.app (All2.one ie5), by rw [List.length_append, hl]; rfl, fun e z => ?_⟩
          rcases List.mem_append.mp z with z | z
          · exact hrow e z
          · rw [List.mem_singleton.mp z]; exact eo5
        have ll : ∀ G5 F5 : Hp, IsAll F5 es row → es.length < sizeLine := fun _ _ z => by rw [z.1, hl]; exact lt_size (by omega)
        refine ⟨_, rfl, _, rfl, p, a3, b3, e0, rfl, hp4, ha3, hb3, by omega, by omega, fun e4 a4 b4 e40 e41 ha4 hb4 => ⟨rfl, _, rfl, ?_⟩⟩
        obtain ⟨g5, k5⟩ := g4.drw (a := a4) (b := b4) fp hp
        have x5 := x4.gr k5 (x4.off hp)
        have w5 := w4.call k5 wp
        have al5 := al4.up k5.ff
        have hp5 : (upd G4 p (PurseO a4 b4)) p = some (PurseO a4 b4) := upd_same
        generalize upd G4 p (PurseO a4 b4) = G5 at g5 k5 x5 w5 hp5
        refine ite2 (fun c => ?_) (fun c => ?_)
        · refine ⟨nil_le, fun q2 nq2 => ?_⟩
          have g6 := g5.new (o := .tup []) nq2
          have k6 := (Gr.refl (mu := mu0) g5.fh).new (o := .tup []) nq2
          have x6 := x5.gr k6 fun c z => z.elim
          have w6 := w5.call k6 fun z => z
          refine ⟨_, rfl, .inl ⟨rfl, _, SqL.of w6.h⟩, _, rfl, r, _, _, rfl, rfl, w6.h, ll G5 _ al5, ?_⟩
          exact fin _ _ q2 .emp a4 b4 g6 (k6.fr _ _ hp5 fun z => z) ha4 hb4 x6 w6 (al5.up k6.ff) ⟨q2, rfl, upd_same⟩ ⟨fun p w r z => by cases z⟩
        · refine ⟨_, rfl, .inl ⟨rfl, _, SqL.of w5.h⟩, _, rfl, r, _, _, rfl, rfl, w5.h, ll G5 _ al5, ?_⟩
          exact fin _ _ q0 _ a4 b4 g5 hp5 ha4 hb4 x5 w5 al5 (ee.up k5.ff) eo
      · rintro σ G ⟨F1, es, row, a, b, v7, v8, rfl, g, hpG, ha, hb, x, w, al, hl2, hrow⟩
        have hl2 : row.length = S := by rw [hl2]; exact Int.toNat_natCast S
        refine ⟨_, rfl, .inl ⟨rfl, _, SqL.of x.ow.h⟩, _, rfl, D, _, _, rfl, rfl, x.ow.h, by rw [List.length_map, x.len, x.dat.1, hl]; exact lt_size (by omega), ?_⟩
        have e1 : rs.map V.ref ++ [V.ref r] = (rs ++ [r]).map V.ref := by rw [List.map_append]; rfl
        rw [e1]
        have pD : p ≠ D := fun z => by rw [z] at hp; rw [x.ow.n] at hp; cases hp
        refine ⟨F1, rs ++ [r], ess ++ [es], M ++ [row], a, b, _, _, _, _, rfl, g.set x.ow.f (.inl x.ow.n), by rw [upd_ne pD]; exact hpG, ha, hb, x.add w offr al, by rw [List.length_append, hl]; rfl, fun row' z => ?_⟩
        rcases List.mem_append.mp z with z | z
        · exact hM row' z
        · rw [List.mem_singleton.mp z]; exact ⟨hl2, hrow⟩
    · rintro σ G ⟨F1, rs, ess, M, a, b, v5, v6, v7, v8, rfl, g, hpG, ha, hb, x, hl, hM⟩
      have hl : M.length = R := by rw [hl]; exact Int.toNat_natCast R
      obtain ⟨FX, g9, _, hm, _, _⟩ := x.frz g
      exact ⟨_, rfl, q FX G (.ref D) M a b g9 hpG ha hb ⟨R1, R4, S2, S4, hl, fun r z => (hM r z).1, fun r z => (hM r z).2⟩ hm⟩
def sp_is_entry : Sp := fun vs H Q _ => ∃ (F : Hp) (v : V) (e : Ent) (R S : Nat), vs = [v, .int R, .int S] ∧ Same F H ∧ Is F v e ∧ EOk R S e ∧ ∀ H', Gr mu0 F H F H' → Q (.bl true) H'
theorem ok_is_entry (t : Tx K mg) : FnOk P w K mg base CX0 1 t.a_is_entry t.fd_is_entry ["entry", "rows", "signs"] sp_is_entry := by
  refine t.F_is_entry.ok sc_is_entry (fun vs H Q E h => ?_) (fun cdv A outer s H vs Q E hr h => ?_)
  · obtain ⟨F, v, e, R, S, rfl, _⟩ := h
    rfl
  · obtain ⟨F, v, e, R, S, rfl, sF, hv, he, q⟩ := h
    refine ⟨_, (pss_cons (ps_if (pt_cmpR (op_eqD hr.units) (pv 0) (pe_tup pa_nil) (nomark _)) (pss_one (ps_ret pe_bl)) pss_nil)
      (pss_one (ps_ret (pe_and (pe_cmpR op_eq (pe_callB (id := "len") call_lenQ (by rfl) t.n_len (by decide +kernel) (pa_cons (pv 0) pa_nil)) pe_int (nomark _)) (pe_and (pe_chain op_le op_lt pe_int (pe_ix ix_tup (pv 0) pe_int (fun _ _ => rfl)) (pv 2)) (pe_and (pe_cmpR op_in_seq (pe_ix ix_tup (pv 0) pe_int (fun _ _ => rfl)) (pe_lst (pa_cons (pe_un un_neg pe_int) (pa_cons pe_int pa_nil))) (by rfl)) (pe_one (pe_chain op_le op_lt pe_int (pe_ix ix_tup (pv 0) pe_int (fun _ _ => rfl)) (pv 1))))))))), ?_⟩
    have g0 : Gr mu0 F H F H := Gr.refl sF
    refine ⟨_, rfl, by show 0 ≤ sizeLine; decide, fun p np => ?_⟩
    have g1 : Gr mu0 F H F (upd H p (.tup [])) := g0.own np
    refine eq_dat (a := e) (b := Ent.emp) (hv.up g1.fh) ⟨p, rfl, upd_same⟩ ?_
    refine ⟨_, rfl, ?_⟩
    refine ite2 (fun c => ?_) (fun c => ?_)
    · exact q _ g1
    · cases e with
      | emp => exact absurd (decide_eq_true rfl) c
      | go pu wa ro =>
        obtain ⟨a, rfl, ha⟩ := hv
        obtain ⟨⟨o1, o2⟩, o3, o4, o5⟩ := he.ok _ _ _ rfl
        have h1 := g1.fh _ _ ha
        refine ⟨_, rfl, a, _, rfl, .inr (SqT.of h1), rfl, _, rfl, ifT rfl ?_⟩
        refine ⟨_, rfl, a, _, _, _, rfl, rfl, SqT.of h1, atI_nat (j := 0) rfl, _, _, rfl, rfl, _, rfl, ifT (decide_eq_true o1) ⟨_, rfl, _, _, rfl, rfl, _, rfl, ifT (decide_eq_true o2) ?_⟩⟩
        refine ⟨_, rfl, a, _, _, _, rfl, rfl, SqT.of h1, atI_nat (j := 1) rfl, _, rfl, two_le, fun l nl => ?_⟩
        have g2 := g1.own (o := .lst [.int (-1), .int 1]) nl
        have h2 := g2.fh _ _ ha
        refine ⟨l, _, rfl, .inl (SqL.of upd_same), rfl, rfl, _, rfl, ifT ?_ ?_⟩
        · rcases o3 with rfl | rfl <;> rfl
        · refine ⟨_, rfl, a, _, _, _, rfl, rfl, SqT.of h2, atI_nat (j := 2) rfl, _, _, rfl, rfl, _, rfl, ifT (decide_eq_true o4) ⟨_, rfl, _, _, rfl, rfl, ?_⟩⟩
          show Q (.bl (decide (ro < (R : Int)))) _
          rw [decide_eq_true o5]
          exact q _ g2
/-- all bools of a list of trues -/
theorem all_rep (n : Nat) : (List.replicate n true).all id = true := by simp
theorem map_rep (n : Nat) : (List.replicate n true).map V.bl = List.replicate n (V.bl true) := by simp
theorem rep_snoc (n : Nat) : List.replicate n (V.bl true) ++ [V.bl true] = List.replicate (n + 1) (V.bl true) := by
  rw [← List.replicate_succ']
def sp_is_machine : Sp := fun vs H Q _ => ∃ (F : Hp) (v : V) (M : Mach) (R S : Nat), vs = [v] ∧ Same F H ∧ Is F v M ∧ MOk M R S ∧ ∀ H', Gr mu0 F H F H' → Q (.bl true) H'
theorem ok_is_machine (t : Tx K mg) : FnOk P w K mg base CX0 2 t.a_is_machine t.fd_is_machine ["machine"] sp_is_machine := by
  refine t.F_is_machine.ok sc_is_machine (fun vs H Q E h => ?_) (fun cdv A outer s H vs Q E hr h => ?_)
  · obtain ⟨F, v, M, R, S, rfl, _⟩ := h
    rfl
  · obtain ⟨F, v, M, R, S, rfl, sF, hv, hM, q⟩ := h
    refine ⟨_, (pss_cons (ps_set (i := 1) sc_is_machine.nd rfl (by first | exact Or.inl rfl | exact Or.inr rfl) (pe_callB (id := "len") call_lenQ (by rfl) t.n_len (by decide +kernel) (pa_cons (pv 0) pa_nil)))
      (pss_cons (ps_if (pt_not (pt_chain op_le op_le pe_int (pv 1) (pe_glob (v := .int 4) (by rfl) t.m_MOST_ROWS ⟨_, rfl⟩))) (pss_one (ps_ret pe_bl)) pss_nil)
      (pss_cons (ps_set (i := 2) sc_is_machine.nd rfl (by first | exact Or.inl rfl | exact Or.inr rfl) (pe_callB (id := "len") call_lenQ (by rfl) t.n_len (by decide +kernel) (pa_cons (pe_ix ix_list (pv 0) pe_int (fun _ _ => rfl)) pa_nil)))
      (pss_cons (ps_if (PW.pt (pw_or (pt_not (pt_chain op_le op_le pe_int (pv 2) (pe_glob (v := .int 4) (by rfl) t.m_MOST_SIGNS ⟨_, rfl⟩))) (pw_or1 (pt_not (pt_val (pe_callB (id := "all") (cr_all rfl) (by rfl) t.n_all (by decide +kernel) (pa_cons (pe_lc (own := [("row", 3)]) (g := gName 3) (tt := tYes) rfl sc_is_machine.nd (pi_list (pv 0)) (blkOk_by (N := N_is_machine) (sc := defScope s_is_machine) (by decide +kernel)) (fun _ _ _ _ _ => (pg_name (i := 3) sc_is_machine.nd rfl (by first | exact Or.inl rfl | exact Or.inr rfl))) (fun _ _ _ _ _ => pts_nil) (fun _ _ _ _ _ => (pe_cmpR op_eq (pe_callB (id := "len") (crK (K := K) (r := rLenQ) rfl call_lenQ) (by rfl) t.n_len (by decide +kernel) (pa_cons (pv 3) pa_nil)) (pv 2) (nomark _)))) pa_nil))))))) (pss_one (ps_ret pe_bl)) pss_nil)
      (pss_one (ps_ret (pe_callB (id := "all") (cr_all rfl) (by rfl) t.n_all (by decide +kernel) (pa_cons (pe_lc (own := [("row", 3)]) (g := gName 3) (tt := tYes) rfl sc_is_machine.nd (pi_list (pv 0)) (blkOk_by (N := N_is_machine) (sc := defScope s_is_machine) (by decide +kernel)) (fun _ _ _ _ _ => (pg_name (i := 3) sc_is_machine.nd rfl (by first | exact Or.inl rfl | exact Or.inr rfl))) (fun _ _ _ _ _ => pts_nil) (fun _ _ _ _ _ => (pe_callB (id := "all") (crK (K := K) (r := rAll) rfl (cr_all rfl)) (by rfl) t.n_all (by decide +kernel) (pa_cons (pe_lc (own := [("entry", 4)]) (g := gName 4) (tt := tYes) rfl sc_is_machine.nd (pi_listK (K := K) rfl (pv 3)) (blkOk_by (N := N_is_machine) (sc := { kind := PySem.ScopeKind.function, names := [(PySem.Str.ofString ".0", PySem.NameKind.local), (PySem.Str.ofString "row", PySem.NameKind.local), (PySem.Str.ofString "all", PySem.NameKind.globalImplicit), (PySem.Str.ofString "rows", PySem.NameKind.cell), (PySem.Str.ofString "signs", PySem.NameKind.cell)], isGenerator := false, isCoroutine := false }) (by decide +kernel)) (fun _ _ _ _ _ => (pg_name (i := 4) sc_is_machine.nd rfl (by first | exact Or.inl rfl | exact Or.inr rfl))) (fun _ _ _ _ _ => pts_nil) (fun _ _ _ _ _ => (pe_call (ok_is_entry t) (hr.mono (by decide)) (by rfl) t.m_is_entry t.F_is_entry.kp t.b_is_entry .nil pass0 (pa_cons (pv 4) (pa_cons (pv 1) (pa_cons (pv 2) pa_nil)))))) pa_nil)))) pa_nil)))))))), ?_⟩
    have g0 : Gr mu0 F H F H := Gr.refl sF
    have r1 := hM.r1
    have r4 := hM.r4
    have s2 := hM.s2
    have s4 := hM.s4
    obtain ⟨a, rs, rfl, ha, hrs⟩ := hv
    have lrs : rs.length = R := hrs.1.trans hM.len
    have h0 := sF _ _ ha
    have l0 : 0 < rs.length := by omega
    have hx0 : rs[0]? = some rs[0] := List.getElem?_eq_getElem l0
    obtain ⟨row0, hM0, hr0⟩ := hrs.get' hx0
    obtain ⟨a0, es0, e0, ha0, hes0⟩ := hr0
    have ls0 : es0.length = S := hes0.1.trans (hM.row _ (List.mem_of_getElem? hM0))
    have hb0 := sF _ _ ha0
    -- rows = len(machine); signs = len(machine[0])
    refine ⟨_, rfl, a, rs, rfl, .inl (SqL.of h0), _, rfl, _, _, rfl, rfl, _, rfl, ifT (decide_eq_true (by omega)) ⟨_, _, rfl, rfl, _, rfl, ?_⟩⟩
    refine ifF (by rw [decide_eq_true (show (rs.length : Int) ≤ 4 by omega)]; rfl) ?_
    refine ⟨_, rfl, a, rs, _, _, rfl, rfl, SqL.of h0, atI_nat (j := 0) hx0, ?_⟩
    rw [e0]
    refine ⟨a0, es0, rfl, .inl (SqL.of hb0), _, rfl, _, _, rfl, rfl, _, rfl, ifT (decide_eq_true (by omega)) ⟨_, _, rfl, rfl, _, rfl, ?_⟩⟩
    refine ifF (by rw [decide_eq_true (show (es0.length : Int) ≤ 4 by omega)]; rfl) ?_
    -- all([len(row) == signs for row in machine])
    refine ⟨_, rfl, a, rfl, ⟨_, SqL.of h0⟩, fun D nD => lc_list (K := K) (a := a) (xs := rs) (fun i G => Gr mu0 F H F G ∧ G D = some (.lst (List.replicate i (V.bl true)))) ⟨g0.own nD, upd_same⟩ (fun i G _ p => SqL.of (p.1.fh _ _ ha)) ?_ ?_⟩
    · rintro i x G hi ⟨gG, hD⟩
      obtain ⟨row, hMi, b, es, rfl, hb, hes⟩ := hrs.get' hi
      have ls : es.length = S := hes.1.trans (hM.row _ (List.mem_of_getElem? hMi))
      have il : i < rs.length := (List.getElem?_eq_some_iff.mp hi).1
      refine ⟨rfl, ?_⟩
      refine yes ⟨_, rfl, b, es, rfl, .inl (SqL.of (gG.fh _ _ hb)), _, rfl, rfl, _, hD, by rw [List.length_replicate]; exact lt_size (by omega), ?_⟩
      have e : (V.bl (decide (V.int (es.length : Int) = V.int (es0.length : Int)))) = V.bl true := by rw [ls, ls0]; simp
      rw [e, rep_snoc]
      exact ⟨gG.set (ne_of_none' sF nD) (.inl nD), upd_same⟩
    · rintro G ⟨gG, hD⟩
      refine ⟨D, List.replicate rs.length true, rfl, SqL.of (by rw [map_rep]; exact hD), _, rfl, ifF (by rw [all_rep]; rfl) ?_⟩
      -- all([all([is_entry(entry, rows, signs) for entry in row]) for row in machine])
      refine ⟨_, rfl, a, rfl, ⟨_, SqL.of (gG.fh _ _ ha)⟩, fun D1 nD1 => lc_list (K := K) (a := a) (xs := rs) (fun i G1 => Gr mu0 F H F G1 ∧ H D1 = none ∧ G1 D1 = some (.lst (List.replicate i (V.bl true)))) ⟨gG.own nD1, gG.th _ nD1, upd_same⟩ (fun i G1 _ p => SqL.of (p.1.fh _ _ ha)) ?_ ?_⟩
      · rintro i x G1 hi ⟨gG1, nH, hD1⟩
        obtain ⟨row, hMi, b, es, rfl, hb, hes⟩ := hrs.get' hi
        have ls : es.length = S := hes.1.trans (hM.row _ (List.mem_of_getElem? hMi))
        have il : i < rs.length := (List.getElem?_eq_some_iff.mp hi).1
        refine ⟨rfl, yes ⟨_, rfl, b, rfl, ⟨_, SqL.of (gG1.fh _ _ hb)⟩, fun D2 nD2 => lc_list (K := K) (a := b) (xs := es) (fun j G2 => Gr mu0 F H F G2 ∧ H D2 = none ∧ D1 ≠ D2 ∧ G2 D1 = some (.lst (List.replicate i (V.bl true))) ∧ G2 D2 = some (.lst (List.replicate j (V.bl true))))
          ⟨gG1.own nD2, gG1.th _ nD2, ne_of_none hD1 nD2, by rw [upd_ne (ne_of_none hD1 nD2)]; exact hD1, upd_same⟩ (fun j G2 _ p => SqL.of (p.1.fh _ _ hb)) ?_ ?_⟩⟩
        · rintro j y G2 hj ⟨gG2, nH2, d12, h1, h2⟩
          obtain ⟨e, hej, hye⟩ := hes.get' hj
          have jl : j < es.length := (List.getElem?_eq_some_iff.mp hj).1
          refine ⟨rfl, yes ⟨_, rfl, _, rfl, _, rfl, F, y, e, R, S, ?_, gG2.fh, hye, hM.ent _ (List.mem_of_getElem? hMi) _ (List.mem_of_getElem? hej), fun G3 g3 => ?_⟩⟩
          · rw [lrs, ls0]
            rfl
          · have gH3 := gG2.trans g3
            refine ⟨_, g3.fr _ _ h2 (fun z => z), by rw [List.length_replicate]; exact lt_size (by omega), ?_⟩
            rw [rep_snoc]
            exact ⟨gH3.set (sF.free nH2) (.inl nH2), nH2, d12, by rw [upd_ne d12]; exact g3.fr _ _ h1 (fun z => z), upd_same⟩
        · rintro G2 ⟨gG2, nH2, d12, h1, h2⟩
          refine ⟨D2, List.replicate es.length true, rfl, SqL.of (by rw [map_rep]; exact h2), ?_⟩
          refine ⟨_, h1, by rw [List.length_replicate]; exact lt_size (by omega), ?_⟩
          rw [all_rep, rep_snoc]
          exact ⟨gG2.set (sF.free nH) (.inl nH), nH, upd_same⟩
      · rintro G1 ⟨gG1, nH, hD1⟩
        refine ⟨D1, List.replicate rs.length true, rfl, SqL.of (by rw [map_rep]; exact hD1), ?_⟩
        rw [all_rep]
        exact q _ gG1
def sp_must_machine : Sp := fun vs H Q _ => ∃ (F : Hp) (v : V) (M : Mach) (R S : Nat), vs = [v] ∧ Same F H ∧ Is F v M ∧ MOk M R S ∧ ∀ H', Gr mu0 F H F H' → Q .non H'
theorem ok_must_machine (t : Tx K mg) : FnOk P w K mg base CX0 3 t.a_must_machine t.fd_must_machine ["machine"] sp_must_machine := by
  refine t.F_must_machine.ok sc_must_machine (fun vs H Q E h => ?_) (fun cdv A outer s H vs Q E hr h => ?_)
  · obtain ⟨F, v, M, R, S, rfl, _⟩ := h
    rfl
  · obtain ⟨F, v, M, R, S, rfl, sF, hv, hM, q⟩ := h
    refine ⟨_, (pss_one (ps_if (pt_not (pt_val (pe_call (ok_is_machine t) (hr.mono (by decide)) (by rfl) t.m_is_machine t.F_is_machine.kp t.b_is_machine .nil pass0 (pa_cons (pv 0) pa_nil)))) (pss_one ps_never) pss_nil)), ?_⟩
    exact ⟨_, rfl, F, _, M, R, S, rfl, sF, hv, hM, fun H' g => ⟨_, rfl, ifF rfl (q _ g)⟩⟩
/-! ### four -/
structure T4 (α β γ δ : Type) where
  a : α
  b : β
  c : γ
  d : δ
  deriving DecidableEq
instance [Dat α] [Dat β] [Dat γ] [Dat δ] : Dat (T4 α β γ δ) where
  rep := fun H v d => ∃ p x y z w, v = .ref p ∧ H p = some (.tup [x, y, z, w]) ∧ Is H x d.a ∧ Is H y d.b ∧ Is H z d.c ∧ Is H w d.d
  mono := fun s h => by
    obtain ⟨p, x, y, z, w, e, h, i, j, k, l⟩ := h
    exact ⟨p, x, y, z, w, e, s _ _ h, Is.up i s, Is.up j s, Is.up k s, Is.up l s⟩
  py := fun d => .tuple [Dat.py d.a, Dat.py d.b, Dat.py d.c, Dat.py d.d]
  dp := fun h => by
    obtain ⟨p, x, y, z, w, rfl, h, i, j, k, l⟩ := h
    exact .tup (SqT.of h) (.cons (Dat.dp i) (.cons (Dat.dp j) (.cons (Dat.dp k) (.cons (Dat.dp l) .nil))))
  can := fun d => by
    show (PyData.canLay0 (Dat.py d.a) && (PyData.canLay0 (Dat.py d.b) && (PyData.canLay0 (Dat.py d.c) && (PyData.canLay0 (Dat.py d.d) && true)))) = true
    rw [Dat.can, Dat.can, Dat.can, Dat.can]; rfl
  dep := max (Dat.dep α) (max (Dat.dep β) (max (Dat.dep γ) (Dat.dep δ))) + 1
  depth := fun d => by
    have h1 := Dat.depth d.a
    have h2 := Dat.depth d.b
    have h3 := Dat.depth d.c
    have h4 := Dat.depth d.d
    show max (PyData.depth (Dat.py d.a)) (max (PyData.depth (Dat.py d.b)) (max (PyData.depth (Dat.py d.c)) (max (PyData.depth (Dat.py d.d)) 0))) + 1 ≤ _
    omega
  eqv := fun a b => by
    obtain ⟨a, a', a'', a3⟩ := a; obtain ⟨b, b', b'', b3⟩ := b
    simp [PyData.eqv, PyData.eqvAll, Dat.eqv]
/-! ### words -/
/-- a text that may stand in a datum -/
structure TStr where
  x : Str
  ok : PyData.strOk x = true
  deriving DecidableEq
instance : Dat TStr where
  rep := fun _ v d => v = .str d.x
  mono := fun _ h => h
  py := fun d => .str d.x
  dp := fun h => h ▸ .str _
  can := fun d => d.ok
  dep := 0
  depth := fun _ => Nat.le_refl _
  eqv := fun a b => by
    obtain ⟨a, _⟩ := a; obtain ⟨b, _⟩ := b
    simp [PyData.eqv]
/-! ### an entry -/
def entAt (M : Mach) (r s : Int) : Ent := (((M[r.toNat]?).getD [])[s.toNat]?).getD .emp
theorem ent_of {M : Mach} {R S : Nat} (h : MOk M R S) {r s : Int} (r0 : 0 ≤ r) (r1 : r < R) (s0 : 0 ≤ s) (s1 : s < S) : ∃ row, M[r.toNat]? = some row ∧ row[s.toNat]? = some (entAt M r s) ∧ EOk R S (entAt M r s) := by
  have hr : r.toNat < M.length := by rw [h.len]; omega
  have e1 : M[r.toNat]? = some M[r.toNat] := List.getElem?_eq_getElem hr
  have hs : s.toNat < (M[r.toNat]).length := by rw [h.row _ (List.getElem_mem hr)]; omega
  have e2 : (M[r.toNat])[s.toNat]? = some (M[r.toNat])[s.toNat] := List.getElem?_eq_getElem hs
  have e3 : entAt M r s = (M[r.toNat])[s.toNat] := by
    unfold entAt
    rw [e1]
    show ((M[r.toNat])[s.toNat]?).getD Ent.emp = _
    rw [e2]; rfl
  exact ⟨_, e1, by rw [e3]; exact e2, by rw [e3]; exact h.ent _ (List.getElem_mem hr) _ (List.getElem_mem hs)⟩
def tEnd : TStr := ⟨"end", by decide +kernel⟩
/-! ### words, middles; dicts keyed by them -/
abbrev Wd := Tup Int
abbrev Md := T4 (Tup Int) Int Int (Tup Int)
section
variable {K : PySem.W.Frag} {mu : Addr → Prop} {F0 H0 F H : Hp} {a b : Addr} {l l1 l2 : List Int} {Q : VK}
theorem wd_ints {H : Hp} : ∀ {xs : List V} {s : List Int}, IsAll H xs s → xs = s.map V.int
  | [], [], _ => rfl
  | [], _ :: _, h => by have := h.1; simp at this
  | _ :: _, [], h => by have := h.1; simp at this
  | x :: xs, i :: s, h => by
    have e : x = V.int i := h.2 0 x i rfl rfl
    rw [List.map_cons, e, wd_ints (xs := xs) (s := s) ⟨by have := h.1; simpa using this, fun j y z p q => h.2 (j + 1) y z (by simpa using p) (by simpa using q)⟩]
theorem wd_all {H : Hp} (s : List Int) : IsAll H (s.map V.int) s := ⟨List.length_map .., fun i x y p q => by
  rw [List.getElem?_map, q] at p
  exact (Option.some.inj p).symm⟩
theorem wd_at (h : Is F (.ref a) (⟨l⟩ : Wd)) : F a = some (.tup (l.map V.int)) := by
  obtain ⟨c, xs, e, h1, h2⟩ := h
  cases e
  rw [h1, wd_ints h2]
theorem wd_ref {v : V} {d : Wd} (h : Is F v d) : ∃ c, v = .ref c ∧ F c = some (.tup (d.l.map V.int)) := by
  obtain ⟨c, xs, e, h1, h2⟩ := h
  exact ⟨c, e, by rw [h1, wd_ints h2]⟩
theorem wd_is (h : F a = some (.tup (l.map V.int))) : Is F (.ref a) (⟨l⟩ : Wd) := ⟨a, _, rfl, h, wd_all l⟩
theorem cat_wd (g : Gr mu F0 H0 F H) (ha : F a = some (.tup (l1.map V.int))) (hb : F b = some (.tup (l2.map V.int))) (z : l1.length + l2.length ≤ 100000) (q : ∀ (F' H' : Hp) (c : Addr), Gr mu F0 H0 F' H' → Gr mu0 F H F' H' → F' c = some (.tup ((l1 ++ l2).map V.int)) → Q (.ref c) H') : rCatQ K (.ref a) (.ref b) H Q := by
  have h1 := SqT.of (K := K) (g.fh _ _ ha)
  have h2 := SqT.of (K := K) (g.fh _ _ hb)
  have k0 : Gr mu0 F H F H := Gr.refl g.fh
  cases l1 with
  | nil => exact catA_nil h1 h2 (by rw [List.length_map]; exact le_size (by omega)) (q F H b g k0 hb)
  | cons x l1 =>
    cases l2 with
    | nil =>
      unfold rCatQ
      exact ⟨a, b, _, _, rfl, rfl, h1, h2, by rw [List.length_map, List.length_map]; exact le_size (by omega), fun e => (nomatch e), fun _ _ => q F H a g k0 (by rw [List.append_nil]; exact ha), fun _ n => absurd rfl n⟩
    | cons y l2 =>
      refine catA_new h1 h2 (by rw [List.length_map, List.length_map]; exact le_size (by omega)) (fun e => nomatch e) (fun e => nomatch e) fun p np => ?_
      rw [← List.map_append]
      exact q _ _ p (g.new np) (k0.new np) upd_same
theorem sl_wd {lo hi : Option Int} {l' : List Int} (g : Gr mu F0 H0 F H) (ha : F a = some (.tup (l.map V.int))) (e : (l.drop (HT.sIx l.length 0 lo)).take (HT.sIx l.length l.length hi - HT.sIx l.length 0 lo) = l')
    (q : ∀ (F' H' : Hp) (c : Addr), Gr mu F0 H0 F' H' → Gr mu0 F H F' H' → F' c = some (.tup (l'.map V.int)) → Q (.ref c) H') : rSlQ K (.ref a) lo hi H Q := by
  have h1 := SqT.of (K := K) (g.fh _ _ ha)
  have k0 : Gr mu0 F H F H := Gr.refl g.fh
  have lm : (l.map V.int).length = l.length := List.length_map ..
  by_cases w : HT.sIx (l.map V.int).length 0 lo = 0 ∧ HT.sIx (l.map V.int).length (l.map V.int).length hi = (l.map V.int).length
  · refine slA_all h1 w (q F H a g k0 ?_)
    rw [lm] at w
    rw [w.1, w.2, List.drop_zero, Nat.sub_zero, List.take_length] at e
    rw [← e]
    exact ha
  · refine slA_cut h1 w fun p np => ?_
    have e2 : cutV (l.map V.int) lo hi = l'.map V.int := by
      unfold cutV
      rw [lm, ← List.map_drop, ← List.map_take, e]
    rw [e2]
    exact q _ _ p (g.new np) (k0.new np) upd_same
theorem cut_d1 (l : List Int) : (l.drop (HT.sIx l.length 0 (some 1))).take (HT.sIx l.length l.length none - HT.sIx l.length 0 (some 1)) = l.drop 1 := by
  have e1 : HT.sIx l.length 0 (some 1) = min 1 l.length := by
    simp only [HT.sIx]
    rw [if_neg (by decide)]
    rfl
  have e2 : HT.sIx l.length l.length none = l.length := rfl
  rw [e1, e2]
  cases l with
  | nil => rfl
  | cons x l =>
    rw [show min 1 (x :: l).length = 1 by rw [List.length_cons]; omega]
    exact List.take_of_length_le (by rw [List.length_drop]; omega)
theorem cut_dl (l : List Int) : (l.drop (HT.sIx l.length 0 none)).take (HT.sIx l.length l.length (some (-1)) - HT.sIx l.length 0 none) = l.dropLast := by
  have e1 : HT.sIx l.length 0 none = 0 := rfl
  have e2 : HT.sIx l.length l.length (some (-1)) = l.length - 1 := by
    simp only [HT.sIx]
    rw [if_pos (by decide)]
    omega
  rw [e1, e2, List.drop_zero, Nat.sub_zero, List.dropLast_eq_take]
theorem sl_wd1 (g : Gr mu F0 H0 F H) (ha : F a = some (.tup (l.map V.int))) (q : ∀ (F' H' : Hp) (c : Addr), Gr mu F0 H0 F' H' → Gr mu0 F H F' H' → F' c = some (.tup ((l.drop 1).map V.int)) → Q (.ref c) H') : rSlQ K (.ref a) (some 1) none H Q := sl_wd g ha (cut_d1 l) q
theorem sl_wdl (g : Gr mu F0 H0 F H) (ha : F a = some (.tup (l.map V.int))) (q : ∀ (F' H' : Hp) (c : Addr), Gr mu F0 H0 F' H' → Gr mu0 F H F' H' → F' c = some (.tup ((l.dropLast).map V.int)) → Q (.ref c) H') : rSlQ K (.ref a) none (some (-1)) H Q := sl_wd g ha (cut_dl l) q
end
instance {α β γ δ : Type} [Dat α] [Dat β] [Dat γ] [Dat δ] [Kd α] [Kd β] [Kd γ] [Kd δ] : Kd (T4 α β γ δ) := ⟨fun d => by
  show kable (.tuple [Dat.py d.a, Dat.py d.b, Dat.py d.c, Dat.py d.d]) = true
  rw [kable, kables, kables, kables, kables, kables, Kd.k, Kd.k, Kd.k, Kd.k]; rfl⟩
/-- a datum that stands as a thing of its own -/
class Rf (α : Type) [Dat α] : Prop where
  ref : ∀ {H : Hp} {v : V} {d : α}, Is H v d → ∃ b, v = .ref b
instance {α : Type} [Dat α] : Rf (Tup α) := ⟨fun h => by obtain ⟨a, _, e, _⟩ := h; exact ⟨a, e⟩⟩
instance {α β γ δ : Type} [Dat α] [Dat β] [Dat γ] [Dat δ] : Rf (T4 α β γ δ) := ⟨fun h => by obtain ⟨a, _, _, _, _, e, _⟩ := h; exact ⟨a, e⟩⟩
/-! a dict with these keys, in their order -/
section
variable {α : Type} [Dat α] {mu : Addr → Prop} {P : Program} {w : World} {F H F' H' : Hp} {d q : Addr} {ks : List α}
def KD (P : Program) (w : World) (F H : Hp) (d : Addr) (ks : List α) : Prop := F d = none ∧ ∃ L : DL α, H d = some (DictD P w d L) ∧ KeysD F L ∧ L.map (fun t => t.2.1) = ks
theorem KD.gr (h : KD P w F H d ks) (g : Gr mu F H F' H') (m : ¬ mu d) : KD P w F' H' d ks := by
  obtain ⟨f, L, h1, h2, h3⟩ := h
  refine ⟨?_, L, g.fr _ _ h1 m, fun t n => Is.up (h2 t n) g.ff, h3⟩
  cases e : F' d with
  | none => rfl
  | some z =>
    rcases g.nw d z e with k | k
    · rw [f] at k; cases k
    · rw [h1] at k; cases k
theorem KD.some (h : KD P w F H d ks) : ∃ o, H d = some o := let ⟨_, L, h1, _⟩ := h; ⟨_, h1⟩
theorem KD.ne {u : HO} (h : KD P w F H d ks) (n : F q = Option.some u) : d ≠ q := by
  rintro rfl
  rw [h.1] at n; cases n
end
section
variable {α : Type} [DecidableEq α]
def adK (ks : List α) (x : α) : List α := if x ∈ ks then ks else ks ++ [x]
def adKs (ks xs : List α) : List α := xs.foldl adK ks
theorem adK_in {ks : List α} {x : α} (h : x ∈ ks) : adK ks x = ks := if_pos h
theorem adK_new {ks : List α} {x : α} (h : x ∉ ks) : adK ks x = ks ++ [x] := if_neg h
theorem mem_adK {ks : List α} {x y : α} : y ∈ adK ks x ↔ y ∈ ks ∨ y = x := by
  unfold adK
  split
  · rename_i h
    exact ⟨.inl, fun z => z.elim id fun e => e ▸ h⟩
  · rw [List.mem_append, List.mem_singleton]
theorem adK_len (ks : List α) (x : α) : ks.length ≤ (adK ks x).length := by
  unfold adK
  split
  · exact Nat.le_refl _
  · rw [List.length_append]; omega
theorem adK_len1 (ks : List α) (x : α) : (adK ks x).length ≤ ks.length + 1 := by
  unfold adK
  split
  · omega
  · rw [List.length_append]; exact Nat.le_refl _
theorem adK_nd {ks : List α} {x : α} (h : ks.Nodup) : (adK ks x).Nodup := by
  unfold adK
  split
  · exact h
  · rename_i n
    rw [List.nodup_append]
    exact ⟨h, by simp, fun a m b m' e => n (by rw [List.mem_singleton] at m'; rw [← m', ← e]; exact m)⟩
theorem mem_adKs {y : α} : ∀ {xs ks : List α}, y ∈ adKs ks xs ↔ y ∈ ks ∨ y ∈ xs
  | [], ks => by simp [adKs]
  | x :: xs, ks => by
    show y ∈ adKs (adK ks x) xs ↔ _
    rw [mem_adKs, mem_adK, List.mem_cons, or_assoc]
theorem adKs_len : ∀ (xs ks : List α), ks.length ≤ (adKs ks xs).length
  | [], ks => Nat.le_refl _
  | x :: xs, ks => Nat.le_trans (adK_len ks x) (adKs_len xs (adK ks x))
theorem adKs_len1 : ∀ (xs ks : List α), (adKs ks xs).length ≤ ks.length + xs.length
  | [], ks => Nat.le_refl _
  | x :: xs, ks => by
    have h1 := adKs_len1 xs (adK ks x)
    have h2 := adK_len1 ks x
    show (adKs (adK ks x) xs).length ≤ _
    rw [List.length_cons]; omega
theorem adKs_nd : ∀ (xs : List α) {ks : List α}, ks.Nodup → (adKs ks xs).Nodup
  | [], _, h => h
  | _ :: xs, _, h => adKs_nd xs (adK_nd h)
theorem adKs_add (xs ks : List α) (x : α) : adKs ks (xs ++ [x]) = adK (adKs ks xs) x := by
  unfold adKs
  rw [List.foldl_append]; rfl
theorem hasD_memX (l : DL α) (x : α) : hasD l x = true ↔ x ∈ l.map fun t => t.2.1 := by
  unfold hasD
  rw [List.any_eq_true, List.mem_map]
  exact ⟨fun ⟨t, m, e⟩ => ⟨t, m, of_decide_eq_true e⟩, fun ⟨t, m, e⟩ => ⟨t, m, decide_eq_true e⟩⟩
theorem putD_keysX (l : DL α) (b : Addr) (x : α) (v : V) : (putD l b x v).map (fun t => t.2.1) = adK (l.map fun t => t.2.1) x := by
  unfold putD adK
  by_cases h : hasD l x = true
  · rw [if_pos h, if_pos ((hasD_memX l x).mp h), List.map_map]
    refine List.map_congr_left fun t _ => ?_
    show (if t.2.1 = x then (t.1, t.2.1, v) else t).2.1 = t.2.1
    split <;> rfl
  · rw [if_neg h, if_neg (fun z => h ((hasD_memX l x).mpr z)), List.map_append]; rfl
end
/-! ### put_new -/
def sp_put_new (P : Program) (w : World) : Sp := fun vs H Q _ => ∃ (α : Type) (i1 : Dat α) (i2 : DecidableEq α) (i3 : Kd α) (i4 : Rf α) (F : Hp) (d c : Addr) (ks xs : List α) (ys : List V), vs = [.ref d, .ref c] ∧ Same F H ∧ KD P w F H d ks ∧ F c = some (.lst ys) ∧ IsAll F ys xs ∧ ks.length + xs.length ≤ 100000 ∧ Dat.dep α ≤ 8 ∧
  ∀ H' : Hp, Gr (muP d) F H F H' → KD P w F H' d (adKs ks xs) → Q (.bl (decide (ks.length < (adKs ks xs).length))) H'
theorem ok_put_new (t : Tx K mg) : FnOk P w K mg base CX0 1 t.a_put_new t.fd_put_new ["found", "things"] (sp_put_new P w) := by
  refine t.F_put_new.ok sc_put_new (fun vs H Q E h => ?_) (fun cdv A outer s H vs Q E hr h => ?_)
  · obtain ⟨α, i1, i2, i3, i4, F, d, c, ks, xs, ys, rfl, _⟩ := h
    rfl
  · obtain ⟨α, i1, i2, i3, i4, F, d, c, ks, xs, ys, rfl, sF, hd, hc, hys, hl, hdp, q⟩ := h
    refine ⟨_, (pss_cons (ps_set (i := 2) sc_put_new.nd rfl (by first | exact Or.inl rfl | exact Or.inr rfl) pe_bl)
      (pss_cons (ps_for PassesOwn.never rfl (pi_list (pv 1)) (pg_name (i := 3) sc_put_new.nd rfl (by first | exact Or.inl rfl | exact Or.inr rfl)) (pss_one (ps_if (pt_cmp (pc_nnotin (units9 hr) (pv 3) (pv 0))) (pss_cons (ps_nput (units9 hr) (pv 0) (pv 3) pe_bl rfl)
      (pss_one (ps_set (i := 2) sc_put_new.nd rfl (by first | exact Or.inl rfl | exact Or.inr rfl) pe_bl))) pss_nil)))
      (pss_one (ps_ret (pv 2))))), ?_⟩
    have g0 : Gr (muP d) F H F H := Gr.refl sF
    refine ⟨_, rfl, c, rfl, ⟨_, SqL.of (sF _ _ hc)⟩, for_list (K := K) (a := c) (xs := ys) (fun i σ G => ∃ (v3 : Option V), σ = [some (.ref d), some (.ref c), some (.bl (decide (ks.length < (adKs ks (xs.take i)).length))), v3] ∧ Gr (muP d) F H F G ∧ KD P w F G d (adKs ks (xs.take i)))
      ⟨none, ?_, g0, hd⟩ (fun i σ G _ ⟨_, _, g, _⟩ => SqL.of (g.fh _ _ hc)) ?_ ?_⟩
    · rw [show adKs ks (xs.take 0) = ks from rfl, decide_eq_false (Nat.lt_irrefl _)]; rfl
    · rintro i y σ G hi ⟨v3, rfl, g, fd, L, hL, kL, eL⟩
      obtain ⟨x, hx, ix⟩ := hys.get' hi
      have il : i < xs.length := (List.getElem?_eq_some_iff.mp hx).1
      obtain ⟨b, rfl⟩ := Rf.ref ix
      have st : xs.take (i + 1) = xs.take i ++ [x] := by rw [List.take_add_one, hx]; rfl
      have le1 := adKs_len1 (xs.take i) ks
      rw [List.length_take] at le1
      have lL : L.length = (adKs ks (xs.take i)).length := by rw [← eL, List.length_map]
      have ge1 := adKs_len (xs.take i) ks
      refine ⟨_, rfl, _, rfl, d, _, rfl, NGet.d (x := x) hL (kL.up g.fh) (ix.up g.fh) (hl := hdp), ?_⟩
      rw [valN_neL]
      refine ⟨_, rfl, ?_⟩
      by_cases m : x ∈ adKs ks (xs.take i)
      · have hm : hasD L x = true := (hasD_memX L x).mpr (by rw [eL]; exact m)
        refine ifF (by rw [hm]; rfl) ?_
        refine ⟨some (.ref b), ?_, g, ?_⟩
        · rw [st, adKs_add, adK_in m]; rfl
        · rw [st, adKs_add, adK_in m]
          exact ⟨fd, L, hL, kL, eL⟩
      · have hm : hasD L x = false := Bool.eq_false_iff.mpr fun z => m (by rw [← eL]; exact (hasD_memX L x).mp z)
        refine ifT (by rw [hm]; rfl) ?_
        refine ⟨_, rfl, _, rfl, d, _, rfl, NPut.d (x := x) hL (kL.up g.fh) (ix.up g.fh) (lt_size (by omega)) (hl := hdp), ?_⟩
        refine ⟨some (.ref b), ?_, g.set fd (.inr rfl), ?_⟩
        · have e : decide (ks.length < (adKs ks (xs.take (i + 1))).length) = true := by
            rw [st, adKs_add, adK_new m, List.length_append, List.length_singleton]
            exact decide_eq_true (by omega)
          rw [e]; rfl
        · rw [st, adKs_add]
          exact ⟨fd, _, upd_same, kL.put ix, by rw [putD_keysX, eL]⟩
    · rintro σ G ⟨v3, rfl, g, kd⟩
      rw [hys.1, List.take_length] at kd ⊢
      exact ⟨_, rfl, q _ g kd⟩
/-! ### words sorted: none of them is empty -/
structure NWd where
  h : Int
  t : List Int
  deriving DecidableEq
def NWd.to (d : NWd) : Wd := ⟨d.h :: d.t⟩
def NWd.of (x : Wd) : NWd := ⟨x.l.headD 0, x.l.tail⟩
theorem NWd.to_of {x : Wd} (h : x.l ≠ []) : (NWd.of x).to = x := by
  obtain ⟨l⟩ := x
  cases l with
  | nil => exact absurd rfl h
  | cons a l => rfl
theorem NWd.inj {a b : NWd} (h : a.to = b.to) : a = b := by
  obtain ⟨a, s⟩ := a; obtain ⟨b, u⟩ := b
  have h : a :: s = b :: u := congrArg Tup.l h
  cases h; rfl
instance : Dat NWd where
  rep := fun H v d => Is H v d.to
  mono := fun s h => Is.up h s
  py := fun d => Dat.py d.to
  dp := fun h => Dat.dp (α := Wd) h
  can := fun d => Dat.can d.to
  dep := Dat.dep Wd
  depth := fun d => Dat.depth d.to
  eqv := fun a b => by rw [Dat.eqv]; exact ⟨NWd.inj, fun e => by rw [e]⟩
instance : Lk NWd := ⟨fun a b => Lk.k a.to b.to⟩
instance : So NWd := ⟨.inl fun d => ⟨_, _, rfl⟩⟩
instance {α β γ δ : Type} [Dat α] [Dat β] [Dat γ] [Dat δ] [Lk α] [Lk β] [Lk γ] [Lk δ] : Lk (T4 α β γ δ) := ⟨fun a b => by
  show PySem.W.alike (.tuple [Dat.py a.a, Dat.py a.b, Dat.py a.c, Dat.py a.d]) (.tuple [Dat.py b.a, Dat.py b.b, Dat.py b.c, Dat.py b.d]) = true
  rw [PySem.W.alike, PySem.W.alikeAll, PySem.W.alikeAll, PySem.W.alikeAll, PySem.W.alikeAll, PySem.W.alikeAll, Lk.k, Lk.k, Lk.k, Lk.k]; rfl⟩
instance {α β γ δ : Type} [Dat α] [Dat β] [Dat γ] [Dat δ] : So (T4 α β γ δ) := ⟨.inl fun _ => ⟨_, _, rfl⟩⟩
theorem sort_to (l : List NWd) : (sortD l).map NWd.to = sortD (l.map NWd.to) := by
  unfold sortD
  exact List.map_mergeSort (fun a _ b _ => rfl)
theorem rSortDN.wd {X : Cx} {P : Program} {w : World} {F H : Hp} {Q : VK} {a : Addr} {ks : List Wd} (sF : Same F H) (h : KD P w F H a ks) (ne : ∀ x ∈ ks, x.l ≠ []) (q : ∀ (ys : List V) (p : Addr), IsAll F ys (sortD ks) → H p = none → Q (.ref p) (upd H p (.lst ys))) (hP : X.prog = P := by rfl) (hw : X.w = w := by rfl) : rSortDN X [.ref a] H Q := by
  obtain ⟨f, L, h1, h2, h3⟩ := h
  have h3 : L.map (fun t => t.2.1) = ks := h3
  have nL : ∀ t ∈ L, t.2.1.l ≠ [] := fun t m => ne _ (h3 ▸ List.mem_map.mpr ⟨t, m, rfl⟩)
  have e : neL (L.map fun t => (t.1, NWd.of t.2.1, t.2.2) : DL NWd) = neL L := by
    unfold neL
    rw [List.map_map]
    refine List.map_congr_left fun t m => ?_
    show (keyD (Dat.py (NWd.of t.2.1).to), t.1, t.2.2) = _
    rw [NWd.to_of (nL t m)]
  refine rSortDN.mk (P := P) (w := w) (l := (L.map fun t => (t.1, NWd.of t.2.1, t.2.2) : DL NWd)) sF (by rw [h1]; unfold DictD; rw [e]) (fun t m => ?_) (fun ys p al n => q ys p ?_ n) (by decide) hP hw
  · obtain ⟨t0, m0, rfl⟩ := List.mem_map.mp m
    show Is F (.ref t0.1) (NWd.of t0.2.1).to
    rw [NWd.to_of (nL t0 m0)]
    exact h2 t0 m0
  · have e2 : (sortD ((L.map fun t => (t.1, NWd.of t.2.1, t.2.2) : DL NWd).map (·.2.1))).map NWd.to = sortD ks := by
      rw [sort_to, List.map_map, List.map_map]
      congr 1
      rw [← h3]
      refine List.map_congr_left fun t m => ?_
      exact NWd.to_of (nL t m)
    rw [← e2]
    refine ⟨by rw [List.length_map]; exact al.1, fun i x y hx hy => ?_⟩
    rw [List.getElem?_map] at hy
    obtain ⟨d, hd, rfl⟩ := Option.map_eq_some_iff.mp hy
    exact al.2 i x d hx hd
theorem rSortDN.kd {α : Type} [Dat α] [Lk α] [So α] {X : Cx} {P : Program} {w : World} {F H : Hp} {Q : VK} {a : Addr} {ks : List α} (sF : Same F H) (h : KD P w F H a ks) (q : ∀ (ys : List V) (p : Addr), IsAll F ys (sortD ks) → H p = none → Q (.ref p) (upd H p (.lst ys))) (hd : Dat.dep α ≤ 64 := by decide) (hP : X.prog = P := by rfl) (hw : X.w = w := by rfl) : rSortDN X [.ref a] H Q := by
  obtain ⟨f, L, h1, h2, h3⟩ := h
  exact rSortDN.mk (P := P) (w := w) sF h1 h2 (fun ys p al n => q ys p (by rw [← h3]; exact al) n) hd hP hw
/-- (0,) times a number from 1 on -/
def rRepW (K : PySem.W.Frag) : R2 := fun x y H Q => ∃ l xs k, x = .ref l ∧ y = .int k ∧ SqT K H l xs ∧ xs ≠ [] ∧ 1 ≤ k ∧ k ≤ 1000 ∧ xs.length ≤ 1000 ∧ (k = 1 → Q (.ref l) H) ∧ (2 ≤ k → ∀ p, H p = none → Q (.ref p) (upd H p (.tup (List.replicate k.toNat xs).flatten)))
theorem op_repW {X : Cx} : OpR X (binaryOp .Mult) (rRepW X.K) := by
  intro pins s σ H x y v u Q I rx ry h
  obtain ⟨l, xs, k, e1, e2, hT, hne, k1, k2, hl, q1, q2⟩ := h
  by_cases c : k = 1
  · exact op_rep01 pins s σ H x y v u Q I rx ry ⟨l, k, xs, e1, e2, hT, hne, .inl ⟨c, q1 c⟩⟩
  · exact op_repT pins s σ H x y v u Q I rx ry ⟨l, k, xs, e1, e2, hT, hne, by omega, k2, hl, q2 (by omega)⟩
theorem flat_wd (k : Nat) : (List.replicate k [V.int 0]).flatten = (List.replicate k (0 : Int)).map V.int := by
  induction k with
  | zero => rfl
  | succ k ih => rw [List.replicate_succ, List.replicate_succ, List.flatten_cons, List.map_cons, ih]; rfl
theorem rep_wd {K : PySem.W.Frag} {mu : Addr → Prop} {F0 H0 F H : Hp} {a : Addr} {k : Nat} {Q : VK} (g : Gr mu F0 H0 F H) (ha : F a = some (.tup [.int 0])) (k1 : 1 ≤ k) (k2 : k ≤ 1000)
    (q : ∀ (F' H' : Hp) (c : Addr), Gr mu F0 H0 F' H' → Gr mu0 F H F' H' → F' c = some (.tup ((List.replicate k (0 : Int)).map V.int)) → Q (.ref c) H') : rRepW K (.ref a) (.int k) H Q := by
  refine ⟨a, _, k, rfl, rfl, SqT.of (g.fh _ _ ha), (fun z => nomatch z), by omega, by omega, by decide, fun e => ?_, fun _ p np => ?_⟩
  · refine q F H a g (Gr.refl g.fh) ?_
    rw [show k = 1 by omega]
    exact ha
  · rw [Int.toNat_natCast, flat_wd]
    exact q _ _ p (g.new np) ((Gr.refl g.fh).new np) upd_same
/-! ### shut sets: what the program does with them -/
def entM (M : Mach) (m : Md) : Ent := entAt M m.b m.c
def nw1 (m : Md) (p : Int) : Wd := ⟨m.a.l.drop 1 ++ [p]⟩
def nw2 (m : Md) (p : Int) : Wd := ⟨p :: m.d.l.dropLast⟩
def mv1 (m : Md) (p t : Int) (y : Wd) : Md := ⟨nw1 m p, t, m.d.l.headD 0, y⟩
def mv2 (m : Md) (p t : Int) (y : Wd) : Md := ⟨y, t, m.a.l.getLastD 0, nw2 m p⟩
def more1 (m : Md) (p t : Int) (B : List Wd) : List Md := (B.filter fun y => decide (y.l.dropLast = m.d.l.drop 1)).map (mv1 m p t)
def more2 (m : Md) (p t : Int) (A : List Wd) : List Md := (A.filter fun y => decide (y.l.drop 1 = m.a.l.dropLast)).map (mv2 m p t)
theorem more1_add (m : Md) (p t : Int) (B : List Wd) (y : Wd) : more1 m p t (B ++ [y]) = more1 m p t B ++ (if y.l.dropLast = m.d.l.drop 1 then [mv1 m p t y] else []) := by
  unfold more1
  rw [List.filter_append, List.map_append]
  congr 1
  by_cases h : y.l.dropLast = m.d.l.drop 1
  · rw [if_pos h, List.filter_cons]; rw [if_pos (decide_eq_true h)]; rfl
  · rw [if_neg h, List.filter_cons]; rw [if_neg (fun z => h (of_decide_eq_true z))]; rfl
theorem more2_add (m : Md) (p t : Int) (B : List Wd) (y : Wd) : more2 m p t (B ++ [y]) = more2 m p t B ++ (if y.l.drop 1 = m.a.l.dropLast then [mv2 m p t y] else []) := by
  unfold more2
  rw [List.filter_append, List.map_append]
  congr 1
  by_cases h : y.l.drop 1 = m.a.l.dropLast
  · rw [if_pos h, List.filter_cons]; rw [if_pos (decide_eq_true h)]; rfl
  · rw [if_neg h, List.filter_cons]; rw [if_neg (fun z => h (of_decide_eq_true z))]; rfl
theorem more1_len (m : Md) (p t : Int) (B : List Wd) : (more1 m p t B).length ≤ B.length := by
  unfold more1; rw [List.length_map]; exact List.length_filter_le ..
theorem more2_len (m : Md) (p t : Int) (B : List Wd) : (more2 m p t B).length ≤ B.length := by
  unfold more2; rw [List.length_map]; exact List.length_filter_le ..
theorem last_at {l : List Int} (h : 1 ≤ l.length) : atI (l.map V.int) (-1) = some (.int (l.getLastD 0)) := by
  have e : l ≠ [] := by rintro rfl; simp at h
  obtain ⟨ys, y, rfl⟩ : ∃ ys y, l = ys ++ [y] := ⟨l.dropLast, l.getLast e, (List.dropLast_concat_getLast e).symm⟩
  rw [List.map_append, List.map_singleton, atI_last, List.getLastD_concat]
theorem head_at {l : List Int} (h : 1 ≤ l.length) : atI (l.map V.int) ((0 : Nat) : Int) = some (.int (l.headD 0)) := by
  cases l with
  | nil => simp at h
  | cons x l => exact atI_nat (j := 0) rfl
theorem len4 : 4 ≤ sizeLine := by decide
/-! a dict locked -/
section
variable {F H F' H' : Hp} {d : Addr} {u z : HO}
theorem lk_gr (g : Gr mu0 F H F' H') (h : H d = some u) (f : F' d = none) : Gr mu0 F (upd H d z) F' (upd H' d z) where
  ff := g.ff
  fh := fun c o e => by rw [upd_ne (ne_of_none e f)]; exact g.fh c o e
  nw := fun c o e => by
    rcases g.nw c o e with k | k
    · exact .inl k
    · by_cases cd : c = d
      · subst cd; rw [h] at k; cases k
      · exact .inr (by rw [upd_ne cd]; exact k)
  fr := fun c o e m => by
    by_cases cd : c = d
    · subst cd; rw [upd_same] at e ⊢; exact e
    · rw [upd_ne cd] at e ⊢; exact g.fr c o e m
  th := fun c e => by
    by_cases cd : c = d
    · subst cd; rw [upd_same] at e; cases e
    · rw [upd_ne cd] at e ⊢; exact g.th c e
theorem lk_out (h : H d = some u) (f : F d = none) (g : Gr mu0 F (upd H d z) F' H') : H' d = some z ∧ F' d = none ∧ Gr mu0 F H F' (upd H' d u) := by
  have hz : H' d = some z := g.fr d z upd_same (fun z => z)
  have f' : F' d = none := by
    cases e : F' d with
    | none => rfl
    | some y =>
      rcases g.nw d y e with k | k
      · rw [f] at k; cases k
      · rw [upd_same] at k; cases k
  refine ⟨hz, f', g.ff, fun c o e => ?_, fun c o e => ?_, fun c o e m => ?_, fun c e => ?_⟩
  · rw [upd_ne (ne_of_none e f')]; exact g.fh c o e
  · rcases g.nw c o e with k | k
    · exact .inl k
    · by_cases cd : c = d
      · subst cd; rw [upd_same] at k; cases k
      · rw [upd_ne cd] at k; exact .inr k
  · by_cases cd : c = d
    · subst cd; rw [upd_same]; rw [h] at e; exact e
    · rw [upd_ne cd]; exact g.fr c o (by rw [upd_ne cd]; exact e) m
  · by_cases cd : c = d
    · subst cd; rw [upd_same] at e; cases e
    · rw [upd_ne cd] at e
      have k := g.th c e
      rw [upd_ne cd] at k; exact k
end
theorem neL_len {α : Type} [Dat α] (L : DL α) : (neL L).length = L.length := by unfold neL; rw [List.length_map]
theorem neL_at {α : Type} [Dat α] {L : DL α} {i : Nat} {t : Ne} (h : (neL L)[i]? = some t) : ∃ x, L[i]? = some x ∧ t.2.1 = x.1 := by
  unfold neL at h
  rw [List.getElem?_map] at h
  obtain ⟨x, e1, e2⟩ := Option.map_eq_some_iff.mp h
  exact ⟨x, e1, by rw [← e2]⟩
def sp_entry_for : Sp := fun vs H Q _ => ∃ (F : Hp) (m x : V) (M : Mach) (R S : Nat) (md : Md), vs = [m, x] ∧ Same F H ∧ Is F m M ∧ MOk M R S ∧ Is F x md ∧ 0 ≤ md.b ∧ md.b < R ∧ 0 ≤ md.c ∧ md.c < S ∧ ∀ v, Is F v (entM M md) → EOk R S (entM M md) → Q v H
theorem ok_entry_for (t : Tx K mg) : FnOk P w K mg base CX0 1 t.a_entry_for t.fd_entry_for ["machine", "middle"] sp_entry_for := by
  refine t.F_entry_for.ok sc_entry_for (fun vs H Q E h => ?_) (fun cdv A outer s H vs Q E hr h => ?_)
  · obtain ⟨F, m, x, M, R, S, md, rfl, _⟩ := h
    rfl
  · obtain ⟨F, m, x, M, R, S, md, rfl, sF, hm, hM, hx, b0, b1, c0, c1, q⟩ := h
    refine ⟨_, (pss_one (ps_ret (pe_ix ix_list (pe_ix ix_list (pv 0) (pe_ix ix_tup (pv 1) pe_int (fun _ _ => rfl)) (fun _ _ => rfl)) (pe_ix ix_tup (pv 1) pe_int (fun _ _ => rfl)) (fun _ _ => rfl)))), ?_⟩
    obtain ⟨am, rws, rfl, ham, hrs⟩ := id hm
    obtain ⟨p0, x0, x1, x2, x3, rfl, hp, i0, i1, i2, i3⟩ := id hx
    have i1 : x1 = .int md.b := i1
    have i2 : x2 = .int md.c := i2
    subst i1 i2
    obtain ⟨row, e1, e2, eo⟩ := ent_of hM b0 b1 c0 c1
    obtain ⟨v1, h1, ⟨ar, es, e, har, hes⟩⟩ := hrs.get e1
    subst e
    obtain ⟨v2, h2, ie⟩ := hes.get e2
    have hT := SqT.of (K := K) (sF _ _ hp)
    have a1 : atI rws md.b = some (.ref ar) := by
      have := atI_nat h1
      rwa [Int.toNat_of_nonneg b0] at this
    have a2 : atI es md.c = some v2 := by
      have := atI_nat h2
      rwa [Int.toNat_of_nonneg c0] at this
    exact ⟨_, rfl, _, rfl, p0, _, _, _, rfl, rfl, hT, atI_nat (j := 1) rfl, am, rws, _, _, rfl, rfl, SqL.of (sF _ _ ham), a1, _, rfl, p0, _, _, _, rfl, rfl, hT, atI_nat (j := 2) rfl, ar, es, _, _, rfl, rfl, SqL.of (sF _ _ har), a2, q _ ie eo⟩
def sp_led_right (P : Program) (w : World) : Sp := fun vs H Q _ => ∃ (F : Hp) (x : V) (md : Md) (p r : Int) (d : Addr) (B : List Wd), vs = [x, .int p, .int r, .ref d] ∧ Same F H ∧ Is F x md ∧ KD P w F H d B ∧ 1 ≤ md.d.l.length ∧ md.a.l.length ≤ 1000 ∧ B.length ≤ 100000 ∧
  ∀ (F' H' : Hp) (T c : Addr) (wv : V) (ys : List V), Gr mu0 F H F' H' → F' T = some (.tup [wv, .ref c]) → Is F' wv (nw1 md p) → F' c = some (.lst ys) → IsAll F' ys (more1 md p r B) → Q (.ref T) H'
theorem ok_led_right (t : Tx K mg) : FnOk P w K mg base CX0 1 t.a_led_right t.fd_led_right ["middle", "put", "row", "rights"] (sp_led_right P w) := by
  refine t.F_led_right.ok sc_led_right (fun vs H Q E h => ?_) (fun cdv A outer s H vs Q E hr h => ?_)
  · obtain ⟨F, x, md, p, r, d, B, rfl, _⟩ := h
    rfl
  · obtain ⟨F, x, md, p, r, d, B, rfl, sF, hx, hd, l1, l2, lB, q⟩ := h
    refine ⟨_, (pss_cons (ps_asg (pv 0) (pg_tup rfl (pgs_cons (pg_name (i := 4) sc_led_right.nd rfl (by first | exact Or.inl rfl | exact Or.inr rfl)) (pgs_cons (pg_name (i := 5) sc_led_right.nd rfl (by first | exact Or.inl rfl | exact Or.inr rfl)) (pgs_cons (pg_name (i := 6) sc_led_right.nd rfl (by first | exact Or.inl rfl | exact Or.inr rfl)) (pgs_cons (pg_name (i := 7) sc_led_right.nd rfl (by first | exact Or.inl rfl | exact Or.inr rfl)) pgs_nil))))))
      (pss_cons (ps_set (i := 8) sc_led_right.nd rfl (by first | exact Or.inl rfl | exact Or.inr rfl) (pe_op op_catQ (pe_slice sl_tupQ (pv 4) (po_some pe_int) po_none) (pe_tup (pa_cons (pv 1) pa_nil))))
      (pss_cons (ps_set (i := 9) sc_led_right.nd rfl (by first | exact Or.inl rfl | exact Or.inr rfl) (pe_lst pa_nil))
      (pss_cons (ps_lock (ps_for PassesOwn.never rfl (pi_keysN (pv 3)) (pg_name (i := 10) sc_led_right.nd rfl (by first | exact Or.inl rfl | exact Or.inr rfl)) (pss_one (ps_if (pt_cmpR (op_eqD hr.units) (pe_slice sl_tupQ (pv 10) po_none (po_some (pe_un un_neg pe_int))) (pe_slice sl_tupQ (pv 7) (po_some pe_int) po_none) (nomark _)) (pss_one (ps_expr (pe_bm PySem.F.plainAttrs_list PySem.F.slot_list_append PySem.F.type_list_append mt_append (pv 9) (pa_cons (pe_tup (pa_cons (pv 8) (pa_cons (pv 2) (pa_cons (pe_ix ix_tup (pv 7) pe_int (fun _ _ => rfl)) (pa_cons (pv 10) pa_nil))))) pa_nil)))) pss_nil))))
      (pss_one (ps_ret (pe_tup (pa_cons (pv 8) (pa_cons (pv 9) pa_nil))))))))), ?_⟩
    have g0 : Gr mu0 F H F H := Gr.refl sF
    obtain ⟨p0, x0, x1, x2, x3, rfl, hp, i0, i1, i2, i3⟩ := id hx
    obtain ⟨a1, rfl, ha⟩ := wd_ref i0
    obtain ⟨a2, rfl, hb⟩ := wd_ref i3
    refine ⟨_, rfl, p0, _, rfl, SqT.of (sF _ _ hp), rfl, _, _, rfl, _, _, rfl, _, _, rfl, _, _, rfl, rfl, ?_⟩
    refine ⟨_, rfl, _, rfl, sl_wd1 g0 ha fun F1 H1 c1 g1 k1 hc1 => ?_⟩
    refine ⟨_, rfl, one_le, fun p1 np1 => ?_⟩
    have g2 := g1.new (o := .tup ([p].map V.int)) np1
    have hc1 := (Gr.refl (mu := mu0) g1.fh).new (o := .tup ([p].map V.int)) np1 |>.ff _ _ hc1
    refine cat_wd (l1 := md.a.l.drop 1) (l2 := [p]) g2 hc1 upd_same (by rw [List.length_drop, List.length_singleton]; omega) fun F3 H3 c3 g3 k3 hc3 => ?_
    refine ⟨nil_le, fun c nc => ?_⟩
    have g4 := g3.own (o := .lst []) nc
    have w4 : Ow H F3 (upd H3 c (.lst [])) c (.lst []) := Ow.mk1 g3 nc
    have f4 := (hd.gr g4 (fun z => z)).1
    obtain ⟨_, L, hL0, kL, eL⟩ := id hd
    have kL := kL.up g4.ff
    have hL := g4.fr _ _ hL0 (fun z => z)
    generalize upd H3 c (.lst []) = H4 at g4 w4 hL ⊢
    have lL : (neL L).length = B.length := by rw [neL_len, ← eL, List.length_map]
    refine ⟨d, _, hL, trivial, fun od => ?_⟩
    have dc : c ≠ d := by
      rintro rfl
      rw [w4.h] at hL; cases hL
    have g5 := lk_gr (z := .frz od (DictD P w d L)) g4 hL0 f4
    have hz : (upd H4 d (.frz od (DictD P w d L))) d = some (.frz od (DictD P w d L)) := upd_same
    have w5 : Ow (upd H d (.frz od (DictD P w d L))) F3 (upd H4 d (.frz od (DictD P w d L))) c (.lst []) := ⟨by rw [upd_ne dc]; exact w4.n, w4.f, by rw [upd_ne dc]; exact w4.h⟩
    have hz0 : (upd H d (.frz od (DictD P w d L))) d = some (.frz od (DictD P w d L)) := upd_same
    generalize eH : upd H4 d (.frz od (DictD P w d L)) = Hl at g5 hz w5 ⊢
    generalize eH0 : upd H d (.frz od (DictD P w d L)) = Hz at g5 w5 hz0
    refine ⟨_, rfl, d, od, _, rfl, hz, for_it walk_keysN (fun i σ G => ∃ (F5 : Hp) (ys : List V) (v10 : Option V), σ = [some (.ref p0), some (.int p), some (.int r), some (.ref d), some (.ref a1), some x1, some x2, some (.ref a2), some (.ref c3), some (.ref c), v10] ∧ Gr mu0 F Hz F5 G ∧ Same F3 F5 ∧ Ow Hz F5 G c (.lst ys) ∧ IsAll F5 ys (more1 md p r (B.take i)))
      ⟨F3, [], none, rfl, g5, Same.refl F3, w5, All2.nil⟩ (fun i σ G _ ⟨F5, ys, v10, _, g, _⟩ => g.fr _ _ hz0 (fun z => z)) ?_ ?_⟩
    · rintro i y σ G G' hi ⟨F5, ys, v10, rfl, g, gb, wo, al⟩ ⟨rfl, t0, ht0, rfl⟩
      rw [lL] at hi
      obtain ⟨⟨b, wd, vv⟩, hx, eb⟩ := neL_at ht0
      have hB : B[i]? = some wd := by rw [← eL, List.getElem?_map, hx]; rfl
      have iw : Is F3 (.ref b) wd := kL _ (List.mem_of_getElem? hx)
      rw [eb]
      have iw := Is.up iw gb
      obtain ⟨b', e, hw⟩ := wd_ref iw
      cases e
      have st : B.take (i + 1) = B.take i ++ [wd] := by rw [List.take_add_one, hB]; rfl
      refine ⟨_, rfl, _, rfl, _, rfl, sl_wdl g hw fun F6 H6 c6 g6 k6 hc6 => ?_⟩
      have hb6 := k6.ff _ _ (g.ff _ _ hb)
      refine ⟨_, rfl, _, rfl, sl_wd1 g6 hb6 fun F7 H7 c7 g7 k7 hc7 => ?_⟩
      refine eq_dat (a := (⟨wd.l.dropLast⟩ : Wd)) (b := ⟨md.d.l.drop 1⟩) (Is.up (wd_is (k7.ff _ _ hc6)) g7.fh) (Is.up (wd_is hc7) g7.fh) ⟨_, rfl, ?_⟩
      have gb7 := (gb.trans k6.ff).trans k7.ff
      have w7 := (wo.call k6 (fun z => z)).call k7 (fun z => z)
      have al7 := (IsAll.up al k6.ff).up k7.ff
      refine ite2 (fun c2 => ?_) (fun c2 => ?_)
      · have c2 : wd.l.dropLast = md.d.l.drop 1 := congrArg Tup.l (of_decide_eq_true c2)
        have hp4 := SqT.of (K := K) (g7.fh _ _ (g7.ff _ _ hb))
        refine ⟨_, rfl, .inl ⟨rfl, _, SqL.of w7.h⟩, _, rfl, _, rfl, _, rfl, a2, _, _, _, rfl, rfl, hp4, head_at l1, _, rfl, len4, fun T nT => ?_⟩
        have g8 := g7.new (o := .tup [.ref c3, .int r, .int (md.d.l.headD 0), .ref b]) nT
        have k8 := (Gr.refl (mu := mu0) g7.fh).new (o := .tup [.ref c3, .int r, .int (md.d.l.headD 0), .ref b]) nT
        have w8 := w7.new (u := .tup [.ref c3, .int r, .int (md.d.l.headD 0), .ref b]) nT
        have lm := more1_len md p r (B.take i)
        rw [List.length_take] at lm
        refine ⟨c, _, _, rfl, rfl, w8.h, lt_size (by rw [al.1]; omega), _, ys ++ [.ref T], _, rfl, g8.set w8.f (.inl w8.n), gb7.trans k8.ff, w8.set, ?_⟩
        rw [st, more1_add, if_pos c2]
        exact (IsAll.up al7 k8.ff).app (All2.one ⟨T, _, _, _, _, rfl, upd_same, Is.up (wd_is hc3) (gb7.trans k8.ff), rfl, rfl, Is.up (Is.up iw (k6.ff.trans k7.ff)) k8.ff⟩)
      · have c2 : ¬ wd.l.dropLast = md.d.l.drop 1 := fun z => of_decide_eq_false (Bool.eq_false_iff.mpr c2) (by rw [z])
        refine ⟨F7, ys, _, rfl, g7, gb7, w7, ?_⟩
        rw [st, more1_add, if_neg c2, List.append_nil]
        exact al7
    · rintro σ G ⟨F5, ys, v10, rfl, g, gb, wo, al⟩
      rw [lL, List.take_length] at al
      have e4 := lk_out (h := hL0) (f := hd.1) (eH0 ▸ g)
      obtain ⟨h1, f5, g6⟩ := e4
      refine ⟨h1, ?_⟩
      have wc : (upd G d (DictD P w d L)) c = some (.lst ys) := by rw [upd_ne dc]; exact wo.h
      have hn : H c = none := w4.n
      generalize upd G d (DictD P w d L) = G6 at g6 wc ⊢
      refine ⟨_, rfl, _, rfl, two_le, fun T nT => ?_⟩
      have g7 := g6.frz wc hn wo.f
      have gs : Same F5 (upd F5 c (.lst ys)) := sm_new (Same.refl F5) wo.f
      have g8 := g7.new (o := .tup [.ref c3, .ref c]) nT
      have s8 := ((Gr.refl (mu := mu0) g7.fh).new (o := .tup [.ref c3, .ref c]) nT).ff
      exact q _ _ T c (.ref c3) ys g8 upd_same (Is.up (Is.up (Is.up (wd_is hc3) gb) gs) s8) (s8 _ _ upd_same) ((IsAll.up al gs).up s8)
def sp_led_left (P : Program) (w : World) : Sp := fun vs H Q _ => ∃ (F : Hp) (x : V) (md : Md) (p r : Int) (d : Addr) (B : List Wd), vs = [x, .int p, .int r, .ref d] ∧ Same F H ∧ Is F x md ∧ KD P w F H d B ∧ 1 ≤ md.a.l.length ∧ md.d.l.length ≤ 1000 ∧ B.length ≤ 100000 ∧
  ∀ (F' H' : Hp) (T c : Addr) (wv : V) (ys : List V), Gr mu0 F H F' H' → F' T = some (.tup [wv, .ref c]) → Is F' wv (nw2 md p) → F' c = some (.lst ys) → IsAll F' ys (more2 md p r B) → Q (.ref T) H'
theorem ok_led_left (t : Tx K mg) : FnOk P w K mg base CX0 1 t.a_led_left t.fd_led_left ["middle", "put", "row", "lefts"] (sp_led_left P w) := by
  refine t.F_led_left.ok sc_led_left (fun vs H Q E h => ?_) (fun cdv A outer s H vs Q E hr h => ?_)
  · obtain ⟨F, x, md, p, r, d, B, rfl, _⟩ := h
    rfl
  · obtain ⟨F, x, md, p, r, d, B, rfl, sF, hx, hd, l1, l2, lB, q⟩ := h
    refine ⟨_, (pss_cons (ps_asg (pv 0) (pg_tup rfl (pgs_cons (pg_name (i := 4) sc_led_left.nd rfl (by first | exact Or.inl rfl | exact Or.inr rfl)) (pgs_cons (pg_name (i := 5) sc_led_left.nd rfl (by first | exact Or.inl rfl | exact Or.inr rfl)) (pgs_cons (pg_name (i := 6) sc_led_left.nd rfl (by first | exact Or.inl rfl | exact Or.inr rfl)) (pgs_cons (pg_name (i := 7) sc_led_left.nd rfl (by first | exact Or.inl rfl | exact Or.inr rfl)) pgs_nil))))))
      (pss_cons (ps_set (i := 8) sc_led_left.nd rfl (by first | exact Or.inl rfl | exact Or.inr rfl) (pe_op op_catQ (pe_tup (pa_cons (pv 1) pa_nil)) (pe_slice sl_tupQ (pv 7) po_none (po_some (pe_un un_neg pe_int)))))
      (pss_cons (ps_set (i := 9) sc_led_left.nd rfl (by first | exact Or.inl rfl | exact Or.inr rfl) (pe_lst pa_nil))
      (pss_cons (ps_lock (ps_for PassesOwn.never rfl (pi_keysN (pv 3)) (pg_name (i := 10) sc_led_left.nd rfl (by first | exact Or.inl rfl | exact Or.inr rfl)) (pss_one (ps_if (pt_cmpR (op_eqD hr.units) (pe_slice sl_tupQ (pv 10) (po_some pe_int) po_none) (pe_slice sl_tupQ (pv 4) po_none (po_some (pe_un un_neg pe_int))) (nomark _)) (pss_one (ps_expr (pe_bm PySem.F.plainAttrs_list PySem.F.slot_list_append PySem.F.type_list_append mt_append (pv 9) (pa_cons (pe_tup (pa_cons (pv 10) (pa_cons (pv 2) (pa_cons (pe_ix ix_tup (pv 4) (pe_un un_neg pe_int) (fun _ _ => rfl)) (pa_cons (pv 8) pa_nil))))) pa_nil)))) pss_nil))))
      (pss_one (ps_ret (pe_tup (pa_cons (pv 8) (pa_cons (pv 9) pa_nil))))))))), ?_⟩
    have g0 : Gr mu0 F H F H := Gr.refl sF
    obtain ⟨p0, x0, x1, x2, x3, rfl, hp, i0, i1, i2, i3⟩ := id hx
    obtain ⟨a1, rfl, ha⟩ := wd_ref i0
    obtain ⟨a2, rfl, hb⟩ := wd_ref i3
    refine ⟨_, rfl, p0, _, rfl, SqT.of (sF _ _ hp), rfl, _, _, rfl, _, _, rfl, _, _, rfl, _, _, rfl, rfl, ?_⟩
    refine ⟨_, rfl, one_le, fun p1 np1 => ?_⟩
    have g1 := g0.new (o := .tup ([p].map V.int)) np1
    have hb1 := g1.ff _ _ hb
    have hp1 : (upd F p1 (.tup ([p].map V.int))) p1 = some (.tup ([p].map V.int)) := upd_same
    generalize upd F p1 (.tup ([p].map V.int)) = F1 at g1 hb1 hp1
    refine ⟨_, rfl, _, rfl, _, rfl, sl_wdl g1 hb1 fun F2 H2 c1 g2 k2 hc1 => ?_⟩
    refine cat_wd (l1 := [p]) (l2 := md.d.l.dropLast) g2 (k2.ff _ _ hp1) hc1 (by rw [List.length_dropLast, List.length_singleton]; omega) fun F3 H3 c3 g3 k3 hc3 => ?_
    refine ⟨nil_le, fun c nc => ?_⟩
    have g4 := g3.own (o := .lst []) nc
    have w4 : Ow H F3 (upd H3 c (.lst [])) c (.lst []) := Ow.mk1 g3 nc
    have f4 := (hd.gr g4 (fun z => z)).1
    obtain ⟨_, L, hL0, kL, eL⟩ := id hd
    have kL := kL.up g4.ff
    have hL := g4.fr _ _ hL0 (fun z => z)
    generalize upd H3 c (.lst []) = H4 at g4 w4 hL ⊢
    have lL : (neL L).length = B.length := by rw [neL_len, ← eL, List.length_map]
    refine ⟨d, _, hL, trivial, fun od => ?_⟩
    have dc : c ≠ d := by
      rintro rfl
      rw [w4.h] at hL; cases hL
    have g5 := lk_gr (z := .frz od (DictD P w d L)) g4 hL0 f4
    have hz : (upd H4 d (.frz od (DictD P w d L))) d = some (.frz od (DictD P w d L)) := upd_same
    have w5 : Ow (upd H d (.frz od (DictD P w d L))) F3 (upd H4 d (.frz od (DictD P w d L))) c (.lst []) := ⟨by rw [upd_ne dc]; exact w4.n, w4.f, by rw [upd_ne dc]; exact w4.h⟩
    have hz0 : (upd H d (.frz od (DictD P w d L))) d = some (.frz od (DictD P w d L)) := upd_same
    generalize eH : upd H4 d (.frz od (DictD P w d L)) = Hl at g5 hz w5 ⊢
    generalize eH0 : upd H d (.frz od (DictD P w d L)) = Hz at g5 w5 hz0
    refine ⟨_, rfl, d, od, _, rfl, hz, for_it walk_keysN (fun i σ G => ∃ (F5 : Hp) (ys : List V) (v10 : Option V), σ = [some (.ref p0), some (.int p), some (.int r), some (.ref d), some (.ref a1), some x1, some x2, some (.ref a2), some (.ref c3), some (.ref c), v10] ∧ Gr mu0 F Hz F5 G ∧ Same F3 F5 ∧ Ow Hz F5 G c (.lst ys) ∧ IsAll F5 ys (more2 md p r (B.take i)))
      ⟨F3, [], none, rfl, g5, Same.refl F3, w5, All2.nil⟩ (fun i σ G _ ⟨F5, ys, v10, _, g, _⟩ => g.fr _ _ hz0 (fun z => z)) ?_ ?_⟩
    · rintro i y σ G G' hi ⟨F5, ys, v10, rfl, g, gb, wo, al⟩ ⟨rfl, t0, ht0, rfl⟩
      rw [lL] at hi
      obtain ⟨⟨b, wd, vv⟩, hx, eb⟩ := neL_at ht0
      have hB : B[i]? = some wd := by rw [← eL, List.getElem?_map, hx]; rfl
      have iw : Is F3 (.ref b) wd := kL _ (List.mem_of_getElem? hx)
      rw [eb]
      have iw := Is.up iw gb
      obtain ⟨b', e, hw⟩ := wd_ref iw
      cases e
      have st : B.take (i + 1) = B.take i ++ [wd] := by rw [List.take_add_one, hB]; rfl
      refine ⟨_, rfl, _, rfl, sl_wd1 g hw fun F6 H6 c6 g6 k6 hc6 => ?_⟩
      have ha6 := k6.ff _ _ (g.ff _ _ ha)
      refine ⟨_, rfl, _, rfl, _, rfl, sl_wdl g6 ha6 fun F7 H7 c7 g7 k7 hc7 => ?_⟩
      refine eq_dat (a := (⟨wd.l.drop 1⟩ : Wd)) (b := ⟨md.a.l.dropLast⟩) (Is.up (wd_is (k7.ff _ _ hc6)) g7.fh) (Is.up (wd_is hc7) g7.fh) ⟨_, rfl, ?_⟩
      have gb7 := (gb.trans k6.ff).trans k7.ff
      have w7 := (wo.call k6 (fun z => z)).call k7 (fun z => z)
      have al7 := (IsAll.up al k6.ff).up k7.ff
      refine ite2 (fun c2 => ?_) (fun c2 => ?_)
      · have c2 : wd.l.drop 1 = md.a.l.dropLast := congrArg Tup.l (of_decide_eq_true c2)
        have hp4 := SqT.of (K := K) (g7.fh _ _ (g7.ff _ _ ha))
        refine ⟨_, rfl, .inl ⟨rfl, _, SqL.of w7.h⟩, _, rfl, _, rfl, _, rfl, _, rfl, a1, _, _, _, rfl, rfl, hp4, last_at l1, _, rfl, len4, fun T nT => ?_⟩
        have g8 := g7.new (o := .tup [.ref b, .int r, .int (md.a.l.getLastD 0), .ref c3]) nT
        have k8 := (Gr.refl (mu := mu0) g7.fh).new (o := .tup [.ref b, .int r, .int (md.a.l.getLastD 0), .ref c3]) nT
        have w8 := w7.new (u := .tup [.ref b, .int r, .int (md.a.l.getLastD 0), .ref c3]) nT
        have lm := more2_len md p r (B.take i)
        rw [List.length_take] at lm
        refine ⟨c, _, _, rfl, rfl, w8.h, lt_size (by rw [al.1]; omega), _, ys ++ [.ref T], _, rfl, g8.set w8.f (.inl w8.n), gb7.trans k8.ff, w8.set, ?_⟩
        rw [st, more2_add, if_pos c2]
        exact (IsAll.up al7 k8.ff).app (All2.one ⟨T, _, _, _, _, rfl, upd_same, Is.up (Is.up iw (k6.ff.trans k7.ff)) k8.ff, rfl, rfl, Is.up (wd_is hc3) (gb7.trans k8.ff)⟩)
      · have c2 : ¬ wd.l.drop 1 = md.a.l.dropLast := fun z => of_decide_eq_false (Bool.eq_false_iff.mpr c2) (by rw [z])
        refine ⟨F7, ys, _, rfl, g7, gb7, w7, ?_⟩
        rw [st, more2_add, if_neg c2, List.append_nil]
        exact al7
    · rintro σ G ⟨F5, ys, v10, rfl, g, gb, wo, al⟩
      rw [lL, List.take_length] at al
      have e4 := lk_out (h := hL0) (f := hd.1) (eH0 ▸ g)
      obtain ⟨h1, f5, g6⟩ := e4
      refine ⟨h1, ?_⟩
      have wc : (upd G d (DictD P w d L)) c = some (.lst ys) := by rw [upd_ne dc]; exact wo.h
      have hn : H c = none := w4.n
      generalize upd G d (DictD P w d L) = G6 at g6 wc ⊢
      refine ⟨_, rfl, _, rfl, two_le, fun T nT => ?_⟩
      have g7 := g6.frz wc hn wo.f
      have gs : Same F5 (upd F5 c (.lst ys)) := sm_new (Same.refl F5) wo.f
      have g8 := g7.new (o := .tup [.ref c3, .ref c]) nT
      have s8 := ((Gr.refl (mu := mu0) g7.fh).new (o := .tup [.ref c3, .ref c]) nT).ff
      exact q _ _ T c (.ref c3) ys g8 upd_same (Is.up (Is.up (Is.up (wd_is hc3) gb) gs) s8) (s8 _ _ upd_same) ((IsAll.up al gs).up s8)
/-! ### shut sets, plainly: one look over all middles -/
structure SS where
  A : List Wd
  B : List Wd
  C : List Md
def SS.n (s : SS) : Nat := s.A.length + s.B.length + s.C.length
def gstep (M : Mach) (s : SS) (m : Md) : Option SS := match entM M m with
  | .emp => none
  | .go p w t => if w = 1 then some ⟨adK s.A (nw1 m p), s.B, adKs s.C (more1 m p t s.B)⟩ else some ⟨s.A, adK s.B (nw2 m p), adKs s.C (more2 m p t s.A)⟩
def gall (M : Mach) (s : SS) : List Md → Option SS
  | [] => some s
  | m :: ms => (gstep M s m).bind fun s' => gall M s' ms
theorem gall_app (M : Mach) : ∀ (xs ys : List Md) (s : SS), gall M s (xs ++ ys) = (gall M s xs).bind fun s' => gall M s' ys
  | [], ys, s => rfl
  | x :: xs, ys, s => by
    show (gstep M s x).bind _ = ((gstep M s x).bind _).bind _
    cases gstep M s x with
    | none => rfl
    | some s' => exact gall_app M xs ys s'
structure WOk (S k : Nat) (a : Wd) : Prop where
  len : a.l.length = k
  sg : ∀ z ∈ a.l, 0 ≤ z ∧ z < S
structure CMd (R S k : Nat) (m : Md) : Prop where
  a : WOk S k m.a
  d : WOk S k m.d
  b : 0 ≤ m.b ∧ m.b < R
  c : 0 ≤ m.c ∧ m.c < S
structure SSOk (R S k : Nat) (s : SS) : Prop where
  na : s.A.Nodup
  nb : s.B.Nodup
  nc : s.C.Nodup
  a : ∀ x ∈ s.A, WOk S k x
  b : ∀ x ∈ s.B, WOk S k x
  c : ∀ x ∈ s.C, CMd R S k x
section
variable {M : Mach} {R S k : Nat} {s s' : SS} {m : Md} {p w t : Int}
theorem nw1_ok (h : CMd R S k m) (hk : 1 ≤ k) (hp : 0 ≤ p ∧ p < S) : WOk S k (nw1 m p) := by
  refine ⟨?_, fun z hz => ?_⟩
  · show (m.a.l.drop 1 ++ [p]).length = k
    rw [List.length_append, List.length_drop, h.a.len, List.length_singleton]; omega
  · rcases List.mem_append.mp hz with hz | hz
    · exact h.a.sg z (List.mem_of_mem_drop hz)
    · rw [List.mem_singleton.mp hz]; exact hp
theorem nw2_ok (h : CMd R S k m) (hk : 1 ≤ k) (hp : 0 ≤ p ∧ p < S) : WOk S k (nw2 m p) := by
  refine ⟨?_, fun z hz => ?_⟩
  · show (p :: m.d.l.dropLast).length = k
    rw [List.length_cons, List.length_dropLast, h.d.len]; omega
  · rcases List.mem_cons.mp hz with e | hz
    · rw [e]; exact hp
    · exact h.d.sg z ((List.dropLast_sublist _).subset hz)
theorem mv1_ok (h : CMd R S k m) (hk : 1 ≤ k) (hp : 0 ≤ p ∧ p < S) (ht : 0 ≤ t ∧ t < R) {y : Wd} (hy : WOk S k y) : CMd R S k (mv1 m p t y) := by
  refine ⟨nw1_ok h hk hp, hy, ht, ?_⟩
  have l := h.d.len
  have g := h.d.sg
  show 0 ≤ m.d.l.headD 0 ∧ m.d.l.headD 0 < S
  cases e : m.d.l with
  | nil => rw [e] at l; simp at l; omega
  | cons x xs => exact g x (by rw [e]; exact List.mem_cons_self ..)
theorem mv2_ok (h : CMd R S k m) (hk : 1 ≤ k) (hp : 0 ≤ p ∧ p < S) (ht : 0 ≤ t ∧ t < R) {y : Wd} (hy : WOk S k y) : CMd R S k (mv2 m p t y) := by
  refine ⟨hy, nw2_ok h hk hp, ht, ?_⟩
  have l := h.a.len
  have g := h.a.sg
  show 0 ≤ m.a.l.getLastD 0 ∧ m.a.l.getLastD 0 < S
  have ne : m.a.l ≠ [] := by intro e; rw [e] at l; simp at l; omega
  rw [List.getLastD_eq_getLast?, List.getLast?_eq_some_getLast ne]
  exact g _ (List.getLast_mem ne)
theorem gstep_ok (hM : MOk M R S) (hk : 1 ≤ k) (hs : SSOk R S k s) (hm : CMd R S k m) (e : gstep M s m = some s') : SSOk R S k s' := by
  obtain ⟨_, _, _, eo⟩ := ent_of hM hm.b.1 hm.b.2 hm.c.1 hm.c.2
  unfold gstep at e
  cases ee : entM M m with
  | emp => rw [ee] at e; cases e
  | go p w t =>
    rw [ee] at e
    dsimp only at e
    obtain ⟨o1, o2, o3⟩ := eo.ok _ _ _ ee
    by_cases c : w = 1
    · rw [if_pos c] at e
      cases e
      refine ⟨adK_nd hs.na, hs.nb, adKs_nd _ hs.nc, fun x hx => ?_, hs.b, fun x hx => ?_⟩
      · rcases mem_adK.mp hx with hx | hx
        · exact hs.a x hx
        · rw [hx]; exact nw1_ok hm hk o1
      · rcases mem_adKs.mp hx with hx | hx
        · exact hs.c x hx
        · obtain ⟨y, hy, rfl⟩ := List.mem_map.mp hx
          exact mv1_ok hm hk o1 o3 (hs.b y (List.mem_filter.mp hy).1)
    · rw [if_neg c] at e
      cases e
      refine ⟨hs.na, adK_nd hs.nb, adKs_nd _ hs.nc, hs.a, fun x hx => ?_, fun x hx => ?_⟩
      · rcases mem_adK.mp hx with hx | hx
        · exact hs.b x hx
        · rw [hx]; exact nw2_ok hm hk o1
      · rcases mem_adKs.mp hx with hx | hx
        · exact hs.c x hx
        · obtain ⟨y, hy, rfl⟩ := List.mem_map.mp hx
          exact mv2_ok hm hk o1 o3 (hs.a y (List.mem_filter.mp hy).1)
end
/-! how many there are -/
def sgs (S : Nat) : List Int := (List.range S).map Int.ofNat
def allW (S : Nat) : Nat → List (List Int)
  | 0 => [[]]
  | k + 1 => (sgs S).flatMap fun z => (allW S k).map (z :: ·)
theorem mem_sgs {S : Nat} {z : Int} (h : 0 ≤ z ∧ z < S) : z ∈ sgs S := List.mem_map.mpr ⟨z.toNat, List.mem_range.mpr (by omega), by show ((z.toNat : Nat) : Int) = z; omega⟩
theorem mem_allW {S : Nat} : ∀ {k : Nat} {l : List Int}, l.length = k → (∀ z ∈ l, 0 ≤ z ∧ z < S) → l ∈ allW S k
  | 0, [], _, _ => List.mem_singleton.mpr rfl
  | k + 1, z :: l, h, g => List.mem_flatMap.mpr ⟨z, mem_sgs (g z (List.mem_cons_self ..)), List.mem_map.mpr ⟨l, mem_allW (by simpa using h) (fun y m => g y (List.mem_cons_of_mem _ m)), rfl⟩⟩
theorem len_fm {α β : Type} (f : α → List β) (n : Nat) (h : ∀ x, (f x).length = n) : ∀ l : List α, (l.flatMap f).length = l.length * n
  | [] => by simp
  | x :: l => by rw [List.flatMap_cons, List.length_append, h, len_fm f n h l, List.length_cons, Nat.succ_mul, Nat.add_comm]
theorem len_allW (S : Nat) : ∀ k, (allW S k).length = S ^ k
  | 0 => rfl
  | k + 1 => by
    show ((sgs S).flatMap fun z => (allW S k).map (z :: ·)).length = _
    rw [len_fm _ (S ^ k) (fun z => by rw [List.length_map, len_allW S k])]
    unfold sgs
    rw [List.length_map, List.length_range, Nat.pow_succ, Nat.mul_comm]
theorem few_words {S k : Nat} {xs : List Wd} (nd : xs.Nodup) (h : ∀ x ∈ xs, WOk S k x) : xs.length ≤ S ^ k := by
  rw [← len_allW S k, ← List.length_map (f := Tup.mk)]
  exact nd.length_le_of_subset fun x hx => List.mem_map.mpr ⟨x.l, mem_allW (h x hx).len (h x hx).sg, rfl⟩
def allM4 (R S k : Nat) : List Md := (allW S k).flatMap fun a => (sgs R).flatMap fun b => (sgs S).flatMap fun c => (allW S k).map fun d => ⟨⟨a⟩, b, c, ⟨d⟩⟩
theorem len_allM4 (R S k : Nat) : (allM4 R S k).length = S ^ k * (R * (S * S ^ k)) := by
  unfold allM4
  have ls : ∀ n, (sgs n).length = n := fun n => by unfold sgs; rw [List.length_map, List.length_range]
  rw [len_fm _ (R * (S * S ^ k)) (fun a => by rw [len_fm _ (S * S ^ k) (fun b => by rw [len_fm _ (S ^ k) (fun c => by rw [List.length_map, len_allW]), ls]), ls]), len_allW]
theorem few_mids {R S k : Nat} {xs : List Md} (nd : xs.Nodup) (h : ∀ x ∈ xs, CMd R S k x) : xs.length ≤ S ^ k * (R * (S * S ^ k)) := by
  rw [← len_allM4]
  refine nd.length_le_of_subset fun x hx => ?_
  have q := h x hx
  unfold allM4
  refine List.mem_flatMap.mpr ⟨x.a.l, mem_allW q.a.len q.a.sg, List.mem_flatMap.mpr ⟨x.b, mem_sgs q.b, List.mem_flatMap.mpr ⟨x.c, mem_sgs q.c, List.mem_map.mpr ⟨x.d.l, mem_allW q.d.len q.d.sg, rfl⟩⟩⟩⟩
theorem SSOk.few {R S k : Nat} {s : SS} (h : SSOk R S k s) (hR : R ≤ 4) (hS : S ≤ 4) (hk : S ^ k ≤ 16) : s.A.length ≤ 16 ∧ s.B.length ≤ 16 ∧ s.C.length ≤ 4096 := by
  refine ⟨Nat.le_trans (few_words h.na h.a) hk, Nat.le_trans (few_words h.nb h.b) hk, Nat.le_trans (few_mids h.nc h.c) ?_⟩
  calc S ^ k * (R * (S * S ^ k)) ≤ 16 * (4 * (4 * 16)) := Nat.mul_le_mul hk (Nat.mul_le_mul hR (Nat.mul_le_mul hS hk))
    _ = 4096 := rfl
theorem eqvi {a b : Int} : decide (V.int a = V.int b) = decide (a = b) := by
  congr 1
  exact propext ⟨fun h => V.int.inj h, fun h => by rw [h]⟩
/-! ### one look over all middles, by the program -/
def mu3 (d1 d2 d3 : Addr) : Addr → Prop := fun c => c = d1 ∨ c = d2 ∨ c = d3
theorem or_grow {a b c : Nat} (h1 : a ≤ b) (h2 : b ≤ c) : (decide (b < c) || decide (a < b)) = decide (a < c) := by
  by_cases x : b < c
  · rw [decide_eq_true x, decide_eq_true (show a < c by omega)]; rfl
  · rw [decide_eq_false x, Bool.false_or]
    congr 1
    exact propext ⟨fun z => by omega, fun z => by omega⟩
theorem orV_put {ta tb : TE} {j : Nat} {D : Ends} {σ : L2.St} {H : Hp} (c b : Bool) (P : Hp → Prop) (ea : ∀ Q' : VK, (∀ G, P G → Q' (.bl c) G) → ta σ H Q') (eb : ∀ (G : Hp) (Q' : VK), Q' (.bl b) G → tb σ G Q') (h : ∀ G, P G → D.nx (σ.set j (some (.bl (c || b)))) G) : tAsg (tOrV ta tb) (gName j) D σ H :=
  ea _ fun G hG => ⟨c, rfl, by
    cases c
    · exact eb G _ (h G hG)
    · exact h G hG⟩
def sp_grown (P : Program) (w : World) : Sp := fun vs H Q _ => ∃ (F : Hp) (m : V) (M : Mach) (R S k : Nat) (d1 d2 d3 : Addr) (s : SS), vs = [m, .ref d1, .ref d2, .ref d3] ∧ Same F H ∧ Is F m M ∧ MOk M R S ∧ 1 ≤ k ∧ S ^ k ≤ 16 ∧ k ≤ 16 ∧ KD P w F H d1 s.A ∧ KD P w F H d2 s.B ∧ KD P w F H d3 s.C ∧ d1 ≠ d2 ∧ d1 ≠ d3 ∧ d2 ≠ d3 ∧ SSOk R S k s ∧
  (gall M s s.C = none → ∀ F' H', Gr (mu3 d1 d2 d3) F H F' H' → Q .non H') ∧
  (∀ s', gall M s s.C = some s' → ∀ F' H', Gr (mu3 d1 d2 d3) F H F' H' → KD P w F' H' d1 s'.A → KD P w F' H' d2 s'.B → KD P w F' H' d3 s'.C → Q (.bl (decide (s.n < s'.n))) H')
theorem ok_grown (t : Tx K mg) : FnOk P w K mg base CX0 2 t.a_grown t.fd_grown ["machine", "lefts", "rights", "middles"] (sp_grown P w) := by
  refine t.F_grown.ok sc_grown (fun vs H Q E h => ?_) (fun cdv A outer s H vs Q E hr h => ?_)
  · obtain ⟨F, m, M, R, S, k, d1, d2, d3, s, rfl, _⟩ := h
    rfl
  · obtain ⟨F, m, M, R, S, k, d1, d2, d3, s0, rfl, sF, hm, hM, k1, kS, k16, q1, q2, q3, n12, n13, n23, ok0, qn, qs⟩ := h
    refine ⟨_, (pss_cons (ps_set (i := 4) sc_grown.nd rfl (by first | exact Or.inl rfl | exact Or.inr rfl) pe_bl)
      (pss_cons (ps_for PassesOwn.never rfl (pi_list (pe_callTy (T := "list") (call_listDN rfl) (by rfl) t.n_list (by decide +kernel) (pa_cons (pv 3) pa_nil))) (pg_name (i := 5) sc_grown.nd rfl (by first | exact Or.inl rfl | exact Or.inr rfl)) (pss_cons (ps_set (i := 6) sc_grown.nd rfl (by first | exact Or.inl rfl | exact Or.inr rfl) (pe_call (ok_entry_for t) (hr.mono (by decide)) (by rfl) t.m_entry_for t.F_entry_for.kp t.b_entry_for .nil pass0 (pa_cons (pv 0) (pa_cons (pv 5) pa_nil))))
      (pss_cons (ps_if (pt_cmpR (op_eqD hr.units) (pv 6) (pe_tup pa_nil) (nomark _)) (pss_one (ps_ret pe_non)) pss_nil)
      (pss_cons (ps_asg (pv 6) (pg_tup rfl (pgs_cons (pg_name (i := 7) sc_grown.nd rfl (by first | exact Or.inl rfl | exact Or.inr rfl)) (pgs_cons (pg_name (i := 8) sc_grown.nd rfl (by first | exact Or.inl rfl | exact Or.inr rfl)) (pgs_cons (pg_name (i := 9) sc_grown.nd rfl (by first | exact Or.inl rfl | exact Or.inr rfl)) pgs_nil)))))
      (pss_cons (ps_if (pt_cmpR op_eq (pv 8) pe_int (nomark _)) (pss_cons (ps_asg (pe_call (ok_led_right t) (hr.mono (by decide)) (by rfl) t.m_led_right t.F_led_right.kp t.b_led_right .nil pass0 (pa_cons (pv 5) (pa_cons (pv 7) (pa_cons (pv 9) (pa_cons (pv 2) pa_nil))))) (pg_tup rfl (pgs_cons (pg_name (i := 10) sc_grown.nd rfl (by first | exact Or.inl rfl | exact Or.inr rfl)) (pgs_cons (pg_name (i := 11) sc_grown.nd rfl (by first | exact Or.inl rfl | exact Or.inr rfl)) pgs_nil))))
      (pss_one (ps_set (i := 4) sc_grown.nd rfl (by first | exact Or.inl rfl | exact Or.inr rfl) (pe_or (pe_call (ok_put_new t) (hr.mono (by decide)) (by rfl) t.m_put_new t.F_put_new.kp t.b_put_new .nil pass0 (pa_cons (pv 1) (pa_cons (pe_lst (pa_cons (pv 10) pa_nil)) pa_nil))) (pe_one (pv 4)))))) (pss_cons (ps_asg (pe_call (ok_led_left t) (hr.mono (by decide)) (by rfl) t.m_led_left t.F_led_left.kp t.b_led_left .nil pass0 (pa_cons (pv 5) (pa_cons (pv 7) (pa_cons (pv 9) (pa_cons (pv 1) pa_nil))))) (pg_tup rfl (pgs_cons (pg_name (i := 10) sc_grown.nd rfl (by first | exact Or.inl rfl | exact Or.inr rfl)) (pgs_cons (pg_name (i := 11) sc_grown.nd rfl (by first | exact Or.inl rfl | exact Or.inr rfl)) pgs_nil))))
      (pss_one (ps_set (i := 4) sc_grown.nd rfl (by first | exact Or.inl rfl | exact Or.inr rfl) (pe_or (pe_call (ok_put_new t) (hr.mono (by decide)) (by rfl) t.m_put_new t.F_put_new.kp t.b_put_new .nil pass0 (pa_cons (pv 2) (pa_cons (pe_lst (pa_cons (pv 10) pa_nil)) pa_nil))) (pe_one (pv 4)))))))
      (pss_one (ps_set (i := 4) sc_grown.nd rfl (by first | exact Or.inl rfl | exact Or.inr rfl) (pe_or (pe_call (ok_put_new t) (hr.mono (by decide)) (by rfl) t.m_put_new t.F_put_new.kp t.b_put_new .nil pass0 (pa_cons (pv 3) (pa_cons (pv 11) pa_nil))) (pe_one (pv 4))))))))))
      (pss_one (ps_ret (pv 4))))), ?_⟩
    have g0 : Gr (mu3 d1 d2 d3) F H F H := Gr.refl sF
    obtain ⟨f3, L, hL, kL, eL⟩ := id q3
    refine ⟨_, rfl, rListDN.mk (P := P) (w := w) hL fun lc nc => ?_⟩
    have g1 := g0.new (o := .lst ((neL L).map fun t => .ref t.2.1)) nc
    have hlc : (upd F lc (.lst ((neL L).map fun t => .ref t.2.1))) lc = some (.lst ((neL L).map fun t => .ref t.2.1)) := upd_same
    have kg := (Gr.refl (mu := mu0) sF).new (o := .lst ((neL L).map fun t => .ref t.2.1)) nc
    have q1 := q1.gr kg (fun z => z)
    have q2 := q2.gr kg (fun z => z)
    have q3 := q3.gr kg (fun z => z)
    have hm := hm.up kg.ff
    have kL := kL.up kg.ff
    generalize upd F lc (.lst ((neL L).map fun t => .ref t.2.1)) = F1 at g1 hlc kg q1 q2 q3 hm kL
    generalize upd H lc (.lst ((neL L).map fun t => .ref t.2.1)) = H1 at g1 kg q1 q2 q3 ⊢
    refine ⟨lc, rfl, ⟨_, SqL.of (g1.fh _ _ hlc)⟩, for_list (K := K) (a := lc) (xs := (neL L).map fun t => .ref t.2.1) (fun i σ G => ∃ (F5 : Hp) (s : SS) (v5 v6 v7 v8 v9 v10 v11 : Option V), σ = [some m, some (.ref d1), some (.ref d2), some (.ref d3), some (.bl (decide (s0.n < s.n))), v5, v6, v7, v8, v9, v10, v11] ∧ Gr (mu3 d1 d2 d3) F H F5 G ∧ Same F1 F5 ∧ gall M s0 (s0.C.take i) = some s ∧ s0.n ≤ s.n ∧ SSOk R S k s ∧ KD P w F5 G d1 s.A ∧ KD P w F5 G d2 s.B ∧ KD P w F5 G d3 s.C)
      ⟨F1, s0, none, none, none, none, none, none, none, ?_, g1, Same.refl F1, rfl, Nat.le_refl _, ok0, q1, q2, q3⟩ (fun i σ G _ ⟨F5, s, v5, v6, v7, v8, v9, v10, v11, _, g, gb, _⟩ => SqL.of (g.fh _ _ (gb _ _ hlc))) ?_ ?_⟩
    · rw [decide_eq_false (Nat.lt_irrefl _)]; rfl
    · rintro i y σ G hi ⟨F5, s, v5, v6, v7, v8, v9, v10, v11, rfl, g, gb, es, le, ok, p1, p2, p3⟩
      rw [List.getElem?_map] at hi
      obtain ⟨t0, ht0, rfl⟩ := Option.map_eq_some_iff.mp hi
      obtain ⟨⟨b, md, vv⟩, hx, eb⟩ := neL_at ht0
      rw [eb]
      have hC : s0.C[i]? = some md := by rw [← eL, List.getElem?_map, hx]; rfl
      have imd : Is F5 (.ref b) md := Is.up (kL _ (List.mem_of_getElem? hx)) gb
      have cmd : CMd R S k md := ok0.c md (List.mem_of_getElem? hC)
      have st : s0.C.take (i + 1) = s0.C.take i ++ [md] := by rw [List.take_add_one, hC]; rfl
      have ga : gall M s0 (s0.C.take (i + 1)) = gstep M s md := by
        rw [st, gall_app, es]
        show (gstep M s md).bind (fun s' => some s') = _
        cases gstep M s md <;> rfl
      refine ⟨_, rfl, _, rfl, F5, m, .ref b, M, R, S, md, rfl, g.fh, hm.up gb, hM, imd, cmd.b.1, cmd.b.2, cmd.c.1, cmd.c.2, fun ve ie eo => ?_⟩
      refine ⟨_, rfl, nil_le, fun e0 ne0 => ?_⟩
      have g2 := g.own (o := .tup []) ne0
      have kk := (Gr.refl (mu := mu0) g.fh).own (o := .tup []) ne0
      have p1 := p1.gr kk (fun z => z)
      have p2 := p2.gr kk (fun z => z)
      have p3 := p3.gr kk (fun z => z)
      refine eq_dat (a := entM M md) (b := Ent.emp) (ie.up g2.fh) ⟨e0, rfl, upd_same⟩ ⟨_, rfl, ?_⟩
      generalize upd G e0 (.tup []) = G1 at g2 p1 p2 p3 ⊢
      cases ee : entM M md with
      | emp =>
        refine ifT (by rw [decide_eq_true rfl]) ?_
        refine qn ?_ F5 G1 g2
        have : s0.C = s0.C.take (i + 1) ++ s0.C.drop (i + 1) := (List.take_append_drop ..).symm
        rw [this, gall_app, ga]
        unfold gstep
        rw [ee]; rfl
      | go pu wa to =>
        refine ifF (by rw [decide_eq_false (fun z => nomatch z)]) ?_
        rw [ee] at ie
        obtain ⟨o1, o2, o3⟩ := eo.ok _ _ _ ee
        obtain ⟨ae, rfl, hae⟩ := ie
        refine ⟨_, rfl, ae, _, rfl, SqT.of (g2.fh _ _ hae), rfl, _, _, rfl, _, _, rfl, _, _, rfl, rfl, ?_⟩
        have fw := ok.few hM.r4 hM.s4 kS
        have lA := fw.1
        have lB := fw.2.1
        have lC := fw.2.2
        refine ⟨_, rfl, rfl, _, rfl, ?_⟩
        rw [eqvi]
        by_cases c : wa = 1
        · refine ifT (decide_eq_true c) ?_
          have eg : gstep M s md = some (⟨adK s.A (nw1 md pu), s.B, adKs s.C (more1 md pu to s.B)⟩ : SS) := by
            unfold gstep
            rw [ee]
            dsimp only
            rw [if_pos c]
          have lm := more1_len md pu to s.B
          refine ⟨_, rfl, _, rfl, _, rfl, _, rfl, F5, .ref b, md, pu, to, d2, s.B, rfl, g2.fh, imd, p2, by rw [cmd.d.len]; exact k1, by rw [cmd.a.len]; omega, by omega, fun F6 G2 T cc wv ys g3 hT iw hcc al => ?_⟩
          refine ⟨_, _, rfl, SqT.of (g3.fh _ _ hT), rfl, _, _, rfl, _, _, rfl, rfl, ?_⟩
          have g4 := g2.trans (g3.weak (fun c z => z.elim))
          have p1 := p1.gr g3 (fun z => z)
          have p2 := p2.gr g3 (fun z => z)
          have p3 := p3.gr g3 (fun z => z)
          have gb6 := gb.trans g3.ff
          dsimp only
          refine orV_put (decide (s.A.length < (adKs s.A [nw1 md pu]).length)) (decide (s0.n < s.n)) (fun G8 => ∃ F7, Gr (mu3 d1 d2 d3) F H F7 G8 ∧ Same F6 F7 ∧ KD P w F7 G8 d1 (adKs s.A [nw1 md pu]) ∧ KD P w F7 G8 d2 s.B ∧ KD P w F7 G8 d3 s.C) (fun Q' hQ => ?_) (fun G Q' hQ => ⟨_, rfl, hQ⟩) fun G8 hG8 => ?_
          · refine ⟨_, rfl, _, rfl, one_le, fun l nl => ?_⟩
            have g5 := g4.new (o := .lst [wv]) nl
            have kn := (Gr.refl (mu := mu0) g4.fh).new (o := .lst [wv]) nl
            have hl : (upd F6 l (.lst [wv])) l = some (.lst [wv]) := upd_same
            have p1 := p1.gr kn (fun z => z)
            have p2 := p2.gr kn (fun z => z)
            have p3 := p3.gr kn (fun z => z)
            have iw := Is.up iw kn.ff
            have s67 := kn.ff
            generalize upd F6 l (.lst [wv]) = F7 at g5 kn hl p1 p2 p3 iw s67
            generalize upd G2 l (.lst [wv]) = G3 at g5 kn p1 p2 p3 ⊢
            refine ⟨Wd, inferInstance, inferInstance, inferInstance, inferInstance, F7, d1, l, s.A, [nw1 md pu], [wv], rfl, g5.fh, p1, hl, All2.one iw, by rw [List.length_singleton]; omega, by decide, fun G8 g8 kd8 => hQ G8 ⟨F7, g5.trans (g8.weak (fun c e => .inl e)), s67, kd8, p2.gr g8 (fun e => n12 e.symm), p3.gr g8 (fun e => n13 e.symm)⟩⟩
          obtain ⟨F7, g6, s67, kd8, p2, p3⟩ := hG8
          have gb7 := gb6.trans s67
          have hcc := s67 _ _ hcc
          have al := IsAll.up al s67
          have e1 : (decide (s.A.length < (adKs s.A [nw1 md pu]).length) || decide (s0.n < s.n)) = decide (s0.n < (⟨adK s.A (nw1 md pu), s.B, s.C⟩ : SS).n) := by
            rw [← or_grow le (show s.n ≤ (⟨adK s.A (nw1 md pu), s.B, s.C⟩ : SS).n from by have := adK_len s.A (nw1 md pu); unfold SS.n; dsimp only; omega)]
            congr 2
            refine propext ⟨fun z => ?_, fun z => ?_⟩
            · have z : s.A.length < (adK s.A (nw1 md pu)).length := z
              unfold SS.n; dsimp only; omega
            · show s.A.length < (adK s.A (nw1 md pu)).length
              unfold SS.n at z; dsimp only at z; omega
          rw [e1]
          have le1 : s0.n ≤ (⟨adK s.A (nw1 md pu), s.B, s.C⟩ : SS).n := Nat.le_trans le (by have := adK_len s.A (nw1 md pu); unfold SS.n; dsimp only; omega)
          dsimp only
          refine orV_put (decide (s.C.length < (adKs s.C (more1 md pu to s.B)).length)) (decide (s0.n < (⟨adK s.A (nw1 md pu), s.B, s.C⟩ : SS).n)) (fun G9 => Gr (muP d3) F7 G8 F7 G9 ∧ KD P w F7 G9 d3 (adKs s.C (more1 md pu to s.B))) (fun Q' hQ => ⟨_, rfl, _, rfl, Md, inferInstance, inferInstance, inferInstance, inferInstance, F7, d3, cc, s.C, more1 md pu to s.B, ys, rfl, g6.fh, p3, hcc, al, by omega, by decide, fun G9 g9 kd9 => hQ G9 ⟨g9, kd9⟩⟩) (fun G Q' hQ => ⟨_, rfl, hQ⟩) fun G9 hG9 => ?_
          obtain ⟨g9, kd9⟩ := hG9
          have g7 := g6.trans (g9.weak (fun c e => .inr (.inr e)))
          have lc := adKs_len (more1 md pu to s.B) s.C
          have e2 : (decide (s.C.length < (adKs s.C (more1 md pu to s.B)).length) || decide (s0.n < (⟨adK s.A (nw1 md pu), s.B, s.C⟩ : SS).n)) = decide (s0.n < (⟨adK s.A (nw1 md pu), s.B, adKs s.C (more1 md pu to s.B)⟩ : SS).n) := by
            rw [← or_grow le1 (show (⟨adK s.A (nw1 md pu), s.B, s.C⟩ : SS).n ≤ (⟨adK s.A (nw1 md pu), s.B, adKs s.C (more1 md pu to s.B)⟩ : SS).n from by unfold SS.n; dsimp only; omega)]
            congr 2
            refine propext ⟨fun z => ?_, fun z => ?_⟩
            · unfold SS.n; dsimp only; omega
            · unfold SS.n at z; dsimp only at z; omega
          rw [e2]
          exact ⟨F7, ⟨adK s.A (nw1 md pu), s.B, adKs s.C (more1 md pu to s.B)⟩, _, _, _, _, _, _, _, rfl, g7, gb7, by rw [ga, eg], Nat.le_trans le1 (by unfold SS.n; dsimp only; omega), gstep_ok hM k1 ok cmd eg, (kd8.gr g9 (fun e => n13 e)), (p2.gr g9 (fun e => n23 e)), kd9⟩
        · refine ifF (decide_eq_false c) ?_
          have eg : gstep M s md = some (⟨s.A, adK s.B (nw2 md pu), adKs s.C (more2 md pu to s.A)⟩ : SS) := by
            unfold gstep
            rw [ee]
            dsimp only
            rw [if_neg c]
          have lm := more2_len md pu to s.A
          refine ⟨_, rfl, _, rfl, _, rfl, _, rfl, F5, .ref b, md, pu, to, d1, s.A, rfl, g2.fh, imd, p1, by rw [cmd.a.len]; exact k1, by rw [cmd.d.len]; omega, by omega, fun F6 G2 T cc wv ys g3 hT iw hcc al => ?_⟩
          refine ⟨_, _, rfl, SqT.of (g3.fh _ _ hT), rfl, _, _, rfl, _, _, rfl, rfl, ?_⟩
          have g4 := g2.trans (g3.weak (fun c z => z.elim))
          have p1 := p1.gr g3 (fun z => z)
          have p2 := p2.gr g3 (fun z => z)
          have p3 := p3.gr g3 (fun z => z)
          have gb6 := gb.trans g3.ff
          dsimp only
          refine orV_put (decide (s.B.length < (adKs s.B [nw2 md pu]).length)) (decide (s0.n < s.n)) (fun G8 => ∃ F7, Gr (mu3 d1 d2 d3) F H F7 G8 ∧ Same F6 F7 ∧ KD P w F7 G8 d2 (adKs s.B [nw2 md pu]) ∧ KD P w F7 G8 d1 s.A ∧ KD P w F7 G8 d3 s.C) (fun Q' hQ => ?_) (fun G Q' hQ => ⟨_, rfl, hQ⟩) fun G8 hG8 => ?_
          · refine ⟨_, rfl, _, rfl, one_le, fun l nl => ?_⟩
            have g5 := g4.new (o := .lst [wv]) nl
            have kn := (Gr.refl (mu := mu0) g4.fh).new (o := .lst [wv]) nl
            have hl : (upd F6 l (.lst [wv])) l = some (.lst [wv]) := upd_same
            have p1 := p1.gr kn (fun z => z)
            have p2 := p2.gr kn (fun z => z)
            have p3 := p3.gr kn (fun z => z)
            have iw := Is.up iw kn.ff
            have s67 := kn.ff
            generalize upd F6 l (.lst [wv]) = F7 at g5 kn hl p1 p2 p3 iw s67
            generalize upd G2 l (.lst [wv]) = G3 at g5 kn p1 p2 p3 ⊢
            refine ⟨Wd, inferInstance, inferInstance, inferInstance, inferInstance, F7, d2, l, s.B, [nw2 md pu], [wv], rfl, g5.fh, p2, hl, All2.one iw, by rw [List.length_singleton]; omega, by decide, fun G8 g8 kd8 => hQ G8 ⟨F7, g5.trans (g8.weak (fun c e => .inr (.inl e))), s67, kd8, p1.gr g8 (fun e => n12 e), p3.gr g8 (fun e => n23 e.symm)⟩⟩
          obtain ⟨F7, g6, s67, kd8, p1, p3⟩ := hG8
          have gb7 := gb6.trans s67
          have hcc := s67 _ _ hcc
          have al := IsAll.up al s67
          have e1 : (decide (s.B.length < (adKs s.B [nw2 md pu]).length) || decide (s0.n < s.n)) = decide (s0.n < (⟨s.A, adK s.B (nw2 md pu), s.C⟩ : SS).n) := by
            rw [← or_grow le (show s.n ≤ (⟨s.A, adK s.B (nw2 md pu), s.C⟩ : SS).n from by have := adK_len s.B (nw2 md pu); unfold SS.n; dsimp only; omega)]
            congr 2
            refine propext ⟨fun z => ?_, fun z => ?_⟩
            · have z : s.B.length < (adK s.B (nw2 md pu)).length := z
              unfold SS.n; dsimp only; omega
            · show s.B.length < (adK s.B (nw2 md pu)).length
              unfold SS.n at z; dsimp only at z; omega
          rw [e1]
          have le1 : s0.n ≤ (⟨s.A, adK s.B (nw2 md pu), s.C⟩ : SS).n := Nat.le_trans le (by have := adK_len s.B (nw2 md pu); unfold SS.n; dsimp only; omega)
          dsimp only
          refine orV_put (decide (s.C.length < (adKs s.C (more2 md pu to s.A)).length)) (decide (s0.n < (⟨s.A, adK s.B (nw2 md pu), s.C⟩ : SS).n)) (fun G9 => Gr (muP d3) F7 G8 F7 G9 ∧ KD P w F7 G9 d3 (adKs s.C (more2 md pu to s.A))) (fun Q' hQ => ⟨_, rfl, _, rfl, Md, inferInstance, inferInstance, inferInstance, inferInstance, F7, d3, cc, s.C, more2 md pu to s.A, ys, rfl, g6.fh, p3, hcc, al, by omega, by decide, fun G9 g9 kd9 => hQ G9 ⟨g9, kd9⟩⟩) (fun G Q' hQ => ⟨_, rfl, hQ⟩) fun G9 hG9 => ?_
          obtain ⟨g9, kd9⟩ := hG9
          have g7 := g6.trans (g9.weak (fun c e => .inr (.inr e)))
          have lc := adKs_len (more2 md pu to s.A) s.C
          have e2 : (decide (s.C.length < (adKs s.C (more2 md pu to s.A)).length) || decide (s0.n < (⟨s.A, adK s.B (nw2 md pu), s.C⟩ : SS).n)) = decide (s0.n < (⟨s.A, adK s.B (nw2 md pu), adKs s.C (more2 md pu to s.A)⟩ : SS).n) := by
            rw [← or_grow le1 (show (⟨s.A, adK s.B (nw2 md pu), s.C⟩ : SS).n ≤ (⟨s.A, adK s.B (nw2 md pu), adKs s.C (more2 md pu to s.A)⟩ : SS).n from by unfold SS.n; dsimp only; omega)]
            congr 2
            refine propext ⟨fun z => ?_, fun z => ?_⟩
            · unfold SS.n; dsimp only; omega
            · unfold SS.n at z; dsimp only at z; omega
          rw [e2]
          exact ⟨F7, ⟨s.A, adK s.B (nw2 md pu), adKs s.C (more2 md pu to s.A)⟩, _, _, _, _, _, _, _, rfl, g7, gb7, by rw [ga, eg], Nat.le_trans le1 (by unfold SS.n; dsimp only; omega), gstep_ok hM k1 ok cmd eg, (p1.gr g9 (fun e => n13 e)), (kd8.gr g9 (fun e => n23 e)), kd9⟩
    · rintro σ G ⟨F5, s, v5, v6, v7, v8, v9, v10, v11, rfl, g, gb, es, le, ok, p1, p2, p3⟩
      rw [List.length_map, neL_len, ← List.length_map (f := fun t : Addr × Md × V => t.2.1), eL, List.take_length] at es
      exact ⟨_, rfl, qs s es F5 G g p1 p2 p3⟩
/-! ### the least shut sets, by the program -/
def isW (S : Nat) (k : Int) : Bool := decide (1 ≤ k ∧ k ≤ 16 ∧ S ^ k.toNat ≤ 16)
def sp_is_width : Sp := fun vs H Q _ => ∃ (F : Hp) (m : V) (M : Mach) (R S : Nat) (k : Int), vs = [m, .int k] ∧ Same F H ∧ Is F m M ∧ MOk M R S ∧ Q (.bl (isW S k)) H
theorem pow_big {S : Nat} (h : S ≤ 4) : ∀ i, i ≤ 16 → S ^ i ≤ 4294967296 := fun i hi => by
  calc S ^ i ≤ 4 ^ i := Nat.pow_le_pow_left h i
    _ ≤ 4 ^ 16 := Nat.pow_le_pow_right (by decide) hi
    _ = 4294967296 := by decide
theorem ok_is_width (t : Tx K mg) : FnOk P w K mg base CX0 1 t.a_is_width t.fd_is_width ["machine", "width"] sp_is_width := by
  refine t.F_is_width.ok sc_is_width (fun vs H Q E h => ?_) (fun cdv A outer s H vs Q E hr h => ?_)
  · obtain ⟨F, m, M, R, S, k, rfl, _⟩ := h
    rfl
  · obtain ⟨F, m, M, R, S, k, rfl, sF, hm, hM, q⟩ := h
    refine ⟨_, (pss_cons (ps_if (PW.pt (pw_or (pt_cmpR op_lt (pv 1) pe_int (nomark _)) (pw_or1 (pt_cmpR op_gt (pv 1) (pe_glob (v := .int 16) (by rfl) t.m_MOST_WORDS ⟨_, rfl⟩) (nomark _))))) (pss_one (ps_ret pe_bl)) pss_nil)
      (pss_cons (ps_set (i := 2) sc_is_width.nd rfl (by first | exact Or.inl rfl | exact Or.inr rfl) pe_int)
      (pss_cons (ps_for PassesOwn.never rfl (pi_range1 (by rfl) t.n_range (pa_cons (pv 1) pa_nil)) (pg_name (i := 3) sc_is_width.nd rfl (by first | exact Or.inl rfl | exact Or.inr rfl)) (pss_one (ps_set (i := 2) sc_is_width.nd rfl (by first | exact Or.inl rfl | exact Or.inr rfl) (pe_op op_mul (pv 2) (pe_callB (id := "len") call_lenQ (by rfl) t.n_len (by decide +kernel) (pa_cons (pe_ix ix_list (pv 0) pe_int (fun _ _ => rfl)) pa_nil))))))
      (pss_one (ps_ret (pe_cmpR op_le (pv 2) (pe_glob (v := .int 16) (by rfl) t.m_MOST_WORDS ⟨_, rfl⟩) (nomark _))))))), ?_⟩
    obtain ⟨am, rws, rfl, ham, hrs⟩ := id hm
    have hr0 : 0 < M.length := by rw [hM.len]; exact hM.r1
    obtain ⟨v0, h0, ⟨a0, es, rfl, ha0, hes⟩⟩ := hrs.get (List.getElem?_eq_getElem hr0)
    have les : es.length = S := hes.1.trans (hM.row _ (List.getElem_mem hr0))
    unfold isW at q
    refine ⟨_, rfl, _, _, rfl, rfl, _, rfl, ?_⟩
    refine ite2 (fun c => ?_) (fun c => ?_)
    · have c : k < 1 := of_decide_eq_true c
      refine ifT rfl ?_
      rw [decide_eq_false (by omega)] at q
      exact q
    · have c : ¬ k < 1 := of_decide_eq_false (Bool.eq_false_iff.mpr c)
      refine ⟨_, rfl, _, _, rfl, rfl, _, rfl, ?_⟩
      refine ite2 (fun c2 => ?_) (fun c2 => ?_)
      · have c2 : 16 < k := of_decide_eq_true c2
        rw [decide_eq_false (by omega)] at q
        exact q
      · have c2 : ¬ 16 < k := of_decide_eq_false (Bool.eq_false_iff.mpr c2)
        refine ⟨_, rfl, k, rfl, by omega, by omega, for_range (lo := 0) (n := k.toNat) (fun i σ G => ∃ v3, σ = [some (.ref am), some (.int k), some (.int ((S ^ i : Nat) : Int)), v3] ∧ G = H) ⟨none, rfl, rfl⟩ ?_ ?_⟩
        · rintro i σ G hi ⟨v3, rfl, rfl⟩
          have b := pow_big hM.s4 i (by omega)
          refine ⟨_, rfl, _, rfl, am, rws, _, _, rfl, rfl, SqL.of (sF _ _ ham), atI_nat (j := 0) h0, a0, es, rfl, .inl (SqL.of (sF _ _ ha0)), _, _, rfl, rfl, .inl ⟨by omega, by omega⟩, ?_⟩
          refine ⟨some (.int (0 + (i : Int))), ?_, rfl⟩
          show [some (V.ref am), some (V.int k), some (V.int (((S ^ i : Nat) : Int) * (es.length : Int))), some (V.int (0 + (i : Int)))] = _
          rw [les, ← Int.natCast_mul, ← Nat.pow_succ]
        · rintro σ G ⟨v3, rfl, rfl⟩
          refine ⟨_, rfl, _, _, rfl, rfl, ?_⟩
          show Q (.bl (decide (((S ^ k.toNat : Nat) : Int) ≤ 16))) G
          rw [show (decide (((S ^ k.toNat : Nat) : Int) ≤ 16)) = decide (1 ≤ k ∧ k ≤ 16 ∧ S ^ k.toNat ≤ 16) from by
            congr 1
            exact propext ⟨fun z => ⟨by omega, by omega, by omega⟩, fun z => by omega⟩]
          exact q
/-- what comes of a start by looks over all middles -/
inductive Rn (M : Mach) (s0 : SS) : SS → Prop where
  | refl : Rn M s0 s0
  | step {s s' : SS} : Rn M s0 s → gall M s s.C = some s' → Rn M s0 s'
theorem gall_ok {M : Mach} {R S k : Nat} (hM : MOk M R S) (hk : 1 ≤ k) : ∀ {ms : List Md} {s s' : SS}, SSOk R S k s → (∀ m ∈ ms, CMd R S k m) → gall M s ms = some s' → SSOk R S k s'
  | [], s, s', h, _, e => by cases e; exact h
  | m :: ms, s, s', h, hm, e => by
    unfold gall at e
    cases e1 : gstep M s m with
    | none => rw [e1] at e; cases e
    | some s1 =>
      rw [e1] at e
      exact gall_ok hM hk (gstep_ok hM hk h (hm m (List.mem_cons_self ..)) e1) (fun x hx => hm x (List.mem_cons_of_mem _ hx)) e
theorem Rn.ok {M : Mach} {R S k : Nat} {s0 s : SS} (hM : MOk M R S) (hk : 1 ≤ k) (h0 : SSOk R S k s0) (r : Rn M s0 s) : SSOk R S k s := by
  induction r with
  | refl => exact h0
  | step _ e ih => exact gall_ok hM hk ih ih.c e
theorem adK_pre {α : Type} [DecidableEq α] (ks : List α) (x : α) : ks <+: adK ks x := by
  unfold adK
  split
  · exact List.prefix_refl _
  · exact List.prefix_append ..
theorem adKs_pre {α : Type} [DecidableEq α] : ∀ (xs ks : List α), ks <+: adKs ks xs
  | [], ks => List.prefix_refl _
  | x :: xs, ks => (adK_pre ks x).trans (adKs_pre xs _)
theorem gstep_pre {M : Mach} {s s' : SS} {m : Md} (e : gstep M s m = some s') : s.A <+: s'.A ∧ s.B <+: s'.B ∧ s.C <+: s'.C := by
  unfold gstep at e
  cases ee : entM M m with
  | emp => rw [ee] at e; cases e
  | go p w t =>
    rw [ee] at e
    dsimp only at e
    by_cases c : w = 1
    · rw [if_pos c] at e
      cases e
      exact ⟨adK_pre .., List.prefix_refl _, adKs_pre ..⟩
    · rw [if_neg c] at e
      cases e
      exact ⟨List.prefix_refl _, adK_pre .., adKs_pre ..⟩
theorem gall_pre {M : Mach} : ∀ {ms : List Md} {s s' : SS}, gall M s ms = some s' → s.A <+: s'.A ∧ s.B <+: s'.B ∧ s.C <+: s'.C
  | [], s, s', e => by cases e; exact ⟨List.prefix_refl _, List.prefix_refl _, List.prefix_refl _⟩
  | m :: ms, s, s', e => by
    unfold gall at e
    cases e1 : gstep M s m with
    | none => rw [e1] at e; cases e
    | some s1 =>
      rw [e1] at e
      obtain ⟨a1, b1, c1⟩ := gstep_pre e1
      obtain ⟨a2, b2, c2⟩ := gall_pre (show gall M s1 ms = some s' from e)
      exact ⟨a1.trans a2, b1.trans b2, c1.trans c2⟩
theorem gall_len {M : Mach} {ms : List Md} {s s' : SS} (e : gall M s ms = some s') : s.n ≤ s'.n := by
  obtain ⟨a, b, c⟩ := gall_pre e
  have := a.length_le; have := b.length_le; have := c.length_le
  unfold SS.n; omega
theorem gall_same {M : Mach} {ms : List Md} {s s' : SS} (e : gall M s ms = some s') (h : ¬ s.n < s'.n) : s' = s := by
  obtain ⟨a, b, c⟩ := gall_pre e
  have h1 := a.length_le; have h2 := b.length_le; have h3 := c.length_le
  unfold SS.n at h
  have ea := a.eq_of_length (by omega)
  have eb := b.eq_of_length (by omega)
  have ec := c.eq_of_length (by omega)
  cases s; cases s'
  simp only at ea eb ec
  rw [ea, eb, ec]
def nts (k : Nat) : Wd := ⟨List.replicate k 0⟩
def start (k : Nat) : SS := ⟨[nts k], [nts k], [⟨nts k, 0, 0, nts k⟩]⟩
theorem nts_ok {S k : Nat} (h : 2 ≤ S) : WOk S k (nts k) := ⟨List.length_replicate .., fun z hz => by rw [(List.mem_replicate.mp hz).2]; omega⟩
theorem start_ok {M : Mach} {R S k : Nat} (hM : MOk M R S) : SSOk R S k (start k) := by
  have r1 := hM.r1; have s2 := hM.s2
  refine ⟨by simp [start], by simp [start], by simp [start], fun x hx => ?_, fun x hx => ?_, fun x hx => ?_⟩
  · rw [List.mem_singleton.mp hx]; exact nts_ok s2
  · rw [List.mem_singleton.mp hx]; exact nts_ok s2
  · rw [List.mem_singleton.mp hx]; exact ⟨nts_ok s2, nts_ok s2, ⟨Int.le_refl 0, by show (0 : Int) < R; omega⟩, ⟨Int.le_refl 0, by show (0 : Int) < S; omega⟩⟩
def tShut : TStr := ⟨"shut", by decide +kernel⟩
/-- the paper of these sets, sorted, stands at T -/
def ShAt (F : Hp) (T : Addr) (k : Nat) (s : SS) : Prop := ∃ (a b c : Addr) (xs ys zs : List V), F T = some (.tup [.str tShut.x, .int k, .ref a, .ref b, .ref c]) ∧ F a = some (.lst xs) ∧ F b = some (.lst ys) ∧ F c = some (.lst zs) ∧ IsAll F xs (sortD s.A) ∧ IsAll F ys (sortD s.B) ∧ IsAll F zs (sortD s.C)
/-- the same, its lists nobody else's yet -/
def ShO (H F H1 : Hp) (T : Addr) (k : Nat) (s : SS) : Prop := ∃ (a b c : Addr) (xs ys zs : List V), F T = some (.tup [.str tShut.x, .int k, .ref a, .ref b, .ref c]) ∧ Ow H F H1 a (.lst xs) ∧ Ow H F H1 b (.lst ys) ∧ Ow H F H1 c (.lst zs) ∧ a ≠ b ∧ a ≠ c ∧ b ≠ c ∧ IsAll F xs (sortD s.A) ∧ IsAll F ys (sortD s.B) ∧ IsAll F zs (sortD s.C)
theorem Ow.frzn {H F H1 : Hp} {q r : Addr} {o u : HO} (w : Ow H F H1 q o) (e : q ≠ r) : Ow H (upd F r u) H1 q o := ⟨w.n, by rw [upd_ne e]; exact w.f, w.h⟩
theorem ShO_frz {mu : Addr → Prop} {H F0 F H1 : Hp} {T : Addr} {k : Nat} {s : SS} (h : ShO H F H1 T k s) (g : Gr mu F0 H F H1) : ∃ F2, Gr mu F0 H F2 H1 ∧ Same F F2 ∧ ShAt F2 T k s := by
  obtain ⟨a, b, c, xs, ys, zs, hT, wa, wb, wc, ab, ac, bc, ia, ib, ic⟩ := h
  have g1 := g.frz wa.h wa.n wa.f
  have wb := wb.frzn (u := .lst xs) ab.symm
  have wc := wc.frzn (u := .lst xs) ac.symm
  have g2 := g1.frz wb.h wb.n wb.f
  have wc := wc.frzn (u := .lst ys) bc.symm
  have g3 := g2.frz wc.h wc.n wc.f
  have s1 : Same F (upd F a (.lst xs)) := sm_new (Same.refl F) wa.f
  have s2 := s1.trans (sm_new (o := .lst ys) (Same.refl _) wb.f)
  have s3 := s2.trans (sm_new (o := .lst zs) (Same.refl _) wc.f)
  refine ⟨_, g3, s3, a, b, c, xs, ys, zs, s3 _ _ hT, ?_, ?_, upd_same, IsAll.up ia s3, IsAll.up ib s3, IsAll.up ic s3⟩
  · rw [upd_ne ac, upd_ne ab, upd_same]
  · rw [upd_ne bc, upd_same]
theorem ShO_back {mu : Addr → Prop} {H0 F0 F1 H F H1 : Hp} {T : Addr} {k : Nat} {s : SS} (h : ShO H F H1 T k s) (g : Gr mu F0 H0 F1 H) : ShO H0 F H1 T k s := by
  obtain ⟨a, b, c, xs, ys, zs, hT, wa, wb, wc, r⟩ := h
  exact ⟨a, b, c, xs, ys, zs, hT, ⟨g.th _ wa.n, wa.f, wa.h⟩, ⟨g.th _ wb.n, wb.f, wb.h⟩, ⟨g.th _ wc.n, wc.f, wc.h⟩, r⟩
theorem KD.new1 {α : Type} [Dat α] {mu : Addr → Prop} {P : Program} {w : World} {F0 H0 F H : Hp} {p b : Addr} {x : α} {v : V} (g : Gr mu F0 H0 F H) (np : H p = none) (hx : Is F (.ref b) x) : KD P w F (upd H p (DictN P w p [(keyD (Dat.py x), b, v)])) p [x] :=
  ⟨g.free np, [(b, x, v)], upd_same, fun t m => by rw [List.mem_singleton.mp m]; exact hx, rfl⟩
theorem cxP {CX : CXT} {P : Program} {w : World} {K : PySem.W.Frag} {mg : Str → Option Value} {base : Heap} {N : List Str} {qual : Str} {scope : Scope} {f : Addr} {cd : Value} {A : Around} {outer : List Env} {s : Shared} {H : Hp} {E : XK} : (cxOf CX P w K mg base N qual scope f cd A outer s H E).nox.prog = P := rfl
theorem cxW {CX : CXT} {P : Program} {w : World} {K : PySem.W.Frag} {mg : Str → Option Value} {base : Heap} {N : List Str} {qual : Str} {scope : Scope} {f : Addr} {cd : Value} {A : Around} {outer : List Env} {s : Shared} {H : Hp} {E : XK} : (cxOf CX P w K mg base N qual scope f cd A outer s H E).nox.w = w := rfl
/-- x in xs, of data -/
theorem any_eqv {α : Type} [Dat α] (x : α) (l : List α) : ((l.map Dat.py).any fun z => PyData.eqv z (Dat.py x)) = true ↔ x ∈ l := by
  rw [List.any_eq_true]
  constructor
  · rintro ⟨z, hz, e⟩
    obtain ⟨y, hy, rfl⟩ := List.mem_map.mp hz
    rw [← (Dat.eqv y x).mp e]; exact hy
  · intro h
    exact ⟨_, List.mem_map.mpr ⟨x, h, rfl⟩, (Dat.eqv x x).mpr rfl⟩
theorem in_dat {α : Type} [Dat α] {K : PySem.W.Frag} {H : Hp} {v w : V} {x : α} {l : List α} {Q : VK} (hx : Is H v x) (hl : Is H w l) (q1 : x ∈ l → Q (.bl true) H) (q2 : x ∉ l → Q (.bl false) H) (hd : Dat.dep α + 1 ≤ 64 := by decide) : rInD K v w H Q := by
  refine ⟨Dat.py x, l.map Dat.py, Dat.dp hx, Dat.dp (d := l) hl, ?_, ?_, ?_⟩
  · show (PyData.canLay0 _ && decide _) = true
    rw [Dat.can, decide_eq_true (Nat.le_trans (Dat.depth x) (by omega))]; rfl
  · show (PyData.canLay0 (Dat.py l) && decide ((Dat.py l).depth ≤ 64)) = true
    rw [Dat.can, decide_eq_true (Nat.le_trans (Dat.depth l) hd)]; rfl
  · cases e : ((l.map Dat.py).any fun z => PyData.eqv z (Dat.py x)) with
    | true => exact q1 ((any_eqv x l).mp e)
    | false => exact q2 fun m => by rw [(any_eqv x l).mpr m] at e; cases e
/-! ### shut papers looked at, by the program -/
theorem u65 {k : Nat} {A : Around} (r : Room k A) : A.units + 65 < cLine := by have := r.un; omega
theorem op_is_bn {X : Cx} : OpR X (compareOp .Is) (fun x y H Q => ∃ b, y = .bl b ∧ ((x = .non ∧ Q (.bl false) H) ∨ ∃ a, x = .bl a ∧ Q (.bl (decide (a = b))) H)) := by
  intro pins s σ H x y v u Q I rx ry h
  obtain ⟨b, rfl, ⟨rfl, q⟩ | ⟨a, rfl, q⟩⟩ := h
  · cases (show v = Value.none from rx)
    cases (show u = Value.bool b from ry)
    exact wpAny_is_other rfl (fun z => nomatch z) ⟨.bl false, H, I, rfl, q⟩
  · cases (show v = Value.bool a from rx)
    cases (show u = Value.bool b from ry)
    by_cases e : a = b
    · subst e
      exact wpAny_is_self rfl ⟨.bl true, H, I, rfl, by simpa using q⟩
    · exact wpAny_is_other rfl (fun z => e (Value.bool.inj z)) ⟨.bl false, H, I, rfl, by simpa [e] using q⟩
def okW (S : Nat) (w : Int) (x : Wd) : Bool := decide ((x.l.length : Int) = w) && x.l.all fun z => decide (0 ≤ z) && decide (z < S)
theorem okW_iff {S : Nat} {k : Nat} {x : Wd} : okW S k x = true ↔ WOk S k x := by
  unfold okW
  rw [Bool.and_eq_true, decide_eq_true_iff, List.all_eq_true]
  constructor
  · rintro ⟨h1, h2⟩
    exact ⟨by omega, fun z hz => by have := h2 z hz; rw [Bool.and_eq_true, decide_eq_true_iff, decide_eq_true_iff] at this; exact this⟩
  · rintro ⟨h1, h2⟩
    exact ⟨by omega, fun z hz => by rw [Bool.and_eq_true, decide_eq_true_iff, decide_eq_true_iff]; exact h2 z hz⟩
theorem all_bad {α : Type} {p : α → Bool} {l : List α} {i : Nat} {x : α} (h : l[i]? = some x) (e : p x = false) : l.all p = false := by
  rw [List.all_eq_false]
  exact ⟨x, List.mem_of_getElem? h, by rw [e]; decide⟩
theorem all_take {α : Type} {p : α → Bool} {l : List α} {i : Nat} {x : α} (h : l[i]? = some x) (e : p x = true) (t : (l.take i).all p = true) : (l.take (i + 1)).all p = true := by
  rw [List.take_add_one, h, List.all_append, t]
  show (true && ([x].all p)) = true
  rw [List.all_cons, e]; rfl
def sp_are_words : Sp := fun vs H Q _ => ∃ (F : Hp) (a : Addr) (xs : List V) (ws : List Wd) (w : Int) (S : Nat), vs = [.ref a, .int w, .int S] ∧ Same F H ∧ F a = some (.lst xs) ∧ IsAll F xs ws ∧ (∀ x ∈ ws, x.l.length ≤ 100000) ∧ ∀ H', Gr mu0 F H F H' → Q (.bl (ws.all (okW S w))) H'
theorem ok_are_words (t : Tx K mg) : FnOk P w K mg base CX0 1 t.a_are_words t.fd_are_words ["words", "width", "signs"] sp_are_words := by
  refine t.F_are_words.ok sc_are_words (fun vs H Q E h => ?_) (fun cdv A outer s H vs Q E hr h => ?_)
  · obtain ⟨F, a, xs, ws, w, S, rfl, _⟩ := h
    rfl
  · obtain ⟨F, a, xs, ws, w, S, rfl, sF, ha, al, hl, q⟩ := h
    refine ⟨_, (pss_cons (ps_for PassesOwn.never rfl (pi_list (pv 0)) (pg_name (i := 3) sc_are_words.nd rfl (by first | exact Or.inl rfl | exact Or.inr rfl)) (pss_one (ps_if (PW.pt (pw_or (pt_cmpR op_ne (pe_callB (id := "len") call_lenQ (by rfl) t.n_len (by decide +kernel) (pa_cons (pv 3) pa_nil)) (pv 1) (nomark _)) (pw_or1 (pt_not (pt_val (pe_callB (id := "all") (cr_all rfl) (by rfl) t.n_all (by decide +kernel) (pa_cons (pe_lc (own := [("sign", 4)]) (g := gName 4) (tt := tYes) rfl sc_are_words.nd (pi_tup (pv 3)) (blkOk_by (N := N_are_words) (sc := defScope s_are_words) (by decide +kernel)) (fun _ _ _ _ _ => (pg_name (i := 4) sc_are_words.nd rfl (by first | exact Or.inl rfl | exact Or.inr rfl))) (fun _ _ _ _ _ => pts_nil) (fun _ _ _ _ _ => (pe_chain op_le op_lt pe_int (pv 4) (pv 2)))) pa_nil))))))) (pss_one (ps_ret pe_bl)) pss_nil)))
      (pss_one (ps_ret pe_bl))), ?_⟩
    have g0 : Gr mu0 F H F H := Gr.refl sF
    refine ⟨_, rfl, a, rfl, ⟨_, SqL.of (sF _ _ ha)⟩, for_list (K := K) (a := a) (xs := xs) (fun i σ G => ∃ (v3 v4 : Option V), σ = [some (.ref a), some (.int w), some (.int S), v3, v4] ∧ Gr mu0 F H F G ∧ (ws.take i).all (okW S w) = true)
      ⟨none, none, rfl, g0, rfl⟩ (fun i σ G _ ⟨_, _, _, g, _⟩ => SqL.of (g.fh _ _ ha)) ?_ ?_⟩
    · rintro i y σ G hi ⟨v3, v4, rfl, g, t⟩
      obtain ⟨x, hx, ix⟩ := al.get' hi
      obtain ⟨b, rfl, hb⟩ := wd_ref ix
      have lx := hl x (List.mem_of_getElem? hx)
      refine ⟨_, rfl, b, _, rfl, .inr (SqT.of (g.fh _ _ hb)), _, rfl, rfl, _, rfl, ?_⟩
      rw [List.length_map, eqvi]
      by_cases c1 : (x.l.length : Int) = w
      · refine ifF (by rw [decide_eq_true c1]; rfl) ?_
        have f : ∀ z : Int, (decide (0 ≤ z) && decide (z < (S : Int))) = if 0 ≤ z then decide (z < (S : Int)) else false := fun z => by
          by_cases h : 0 ≤ z
          · rw [if_pos h, decide_eq_true h]; rfl
          · rw [if_neg h, decide_eq_false h]; rfl
        refine ⟨_, rfl, b, rfl, ⟨_, SqT.of (g.fh _ _ hb)⟩, fun D nD => lc_tup (K := K) (a := b) (xs := x.l.map V.int) (fun j G2 => Gr mu0 F H F G2 ∧ Ow H F G2 D (.lst (((x.l.take j).map fun z => decide (0 ≤ z) && decide (z < (S : Int))).map V.bl)))
          ⟨g.own nD, Ow.mk1 g nD⟩ (fun j G2 _ ⟨g, _⟩ => SqT.of (g.fh _ _ hb)) ?_ ?_⟩
        · rintro j y G2 hj ⟨g2, w2⟩
          rw [List.getElem?_map] at hj
          obtain ⟨z, hz, rfl⟩ := Option.map_eq_some_iff.mp hj
          have st : (((x.l.take (j + 1)).map fun z => decide (0 ≤ z) && decide (z < (S : Int))).map V.bl) = ((x.l.take j).map fun z => decide (0 ≤ z) && decide (z < (S : Int))).map V.bl ++ [V.bl (decide (0 ≤ z) && decide (z < (S : Int)))] := by
            rw [List.take_add_one, hz, List.map_append, List.map_append]; rfl
          have ll : (((x.l.take j).map fun z => decide (0 ≤ z) && decide (z < (S : Int))).map V.bl).length < sizeLine := by
            rw [List.length_map, List.length_map, List.length_take]; exact lt_size (by omega)
          refine ⟨rfl, yes ⟨_, rfl, _, _, rfl, rfl, _, rfl, ?_⟩⟩
          by_cases h : 0 ≤ z
          · refine ifT (decide_eq_true h) ⟨_, rfl, _, _, rfl, rfl, _, w2.h, ll, g2.set w2.f (.inl w2.n), ?_⟩
            rw [st, f, if_pos h]
            exact w2.set
          · refine ifF (decide_eq_false h) ⟨_, w2.h, ll, g2.set w2.f (.inl w2.n), ?_⟩
            rw [st, f, if_neg h]
            exact w2.set
        · rintro G2 ⟨g2, w2⟩
          rw [List.length_map, List.take_length] at w2
          refine ⟨D, _, rfl, SqL.of w2.h, _, rfl, ?_⟩
          have e : okW S w x = ((x.l.map fun z => decide (0 ≤ z) && decide (z < (S : Int))).all id) := by
            unfold okW
            rw [decide_eq_true c1, List.all_map]; rfl
          rw [← e]
          cases e2 : okW S w x with
          | true =>
            refine ifF rfl ?_
            exact ⟨_, _, rfl, g2, all_take hx e2 t⟩
          | false =>
            refine ifT rfl ?_
            rw [all_bad hx e2] at q
            exact q G2 g2
      · refine ifT (by rw [decide_eq_false c1]; rfl) ?_
        have e : okW S w x = false := by unfold okW; rw [decide_eq_false c1]; rfl
        rw [all_bad hx e] at q
        exact q G g
    · rintro σ G ⟨v3, v4, rfl, g, t⟩
      rw [al.1, List.take_length] at t
      rw [t] at q
      exact q G g
def okM (R S : Nat) (w : Int) (m : Md) : Bool := [m.a, m.d].all (okW S w) && ((decide (0 ≤ m.b) && decide (m.b < R)) && (decide (0 ≤ m.c) && decide (m.c < S)))
theorem okM_iff {R S : Nat} {k : Nat} {m : Md} : okM R S k m = true ↔ CMd R S k m := by
  unfold okM
  rw [Bool.and_eq_true, Bool.and_eq_true, Bool.and_eq_true, Bool.and_eq_true, List.all_cons, List.all_cons, List.all_nil, Bool.and_true, Bool.and_eq_true, okW_iff, okW_iff]
  simp only [decide_eq_true_iff]
  exact ⟨fun ⟨⟨h1, h2⟩, h3, h4⟩ => ⟨h1, h2, h3, h4⟩, fun h => ⟨⟨h.a, h.d⟩, h.b, h.c⟩⟩
def sp_are_middles : Sp := fun vs H Q _ => ∃ (F : Hp) (m : V) (M : Mach) (R S : Nat) (a : Addr) (xs : List V) (C : List Md) (w : Int), vs = [m, .int w, .ref a] ∧ Same F H ∧ Is F m M ∧ MOk M R S ∧ F a = some (.lst xs) ∧ IsAll F xs C ∧ (∀ x ∈ C, x.a.l.length ≤ 100000 ∧ x.d.l.length ≤ 100000) ∧ ∀ F' H', Gr mu0 F H F' H' → Q (.bl (C.all (okM R S w))) H'
theorem ok_are_middles (t : Tx K mg) : FnOk P w K mg base CX0 2 t.a_are_middles t.fd_are_middles ["machine", "width", "middles"] sp_are_middles := by
  refine t.F_are_middles.ok sc_are_middles (fun vs H Q E h => ?_) (fun cdv A outer s H vs Q E hr h => ?_)
  · obtain ⟨F, m, M, R, S, a, xs, C, w, rfl, _⟩ := h
    rfl
  · obtain ⟨F, m, M, R, S, a, xs, C, w, rfl, sF, hm, hM, ha, al, hl, q⟩ := h
    refine ⟨_, (pss_cons (ps_set (i := 3) sc_are_middles.nd rfl (by first | exact Or.inl rfl | exact Or.inr rfl) (pe_callB (id := "len") call_lenQ (by rfl) t.n_len (by decide +kernel) (pa_cons (pe_ix ix_list (pv 0) pe_int (fun _ _ => rfl)) pa_nil)))
      (pss_cons (ps_for PassesOwn.never rfl (pi_list (pv 2)) (pg_tup rfl (pgs_cons (pg_name (i := 4) sc_are_middles.nd rfl (by first | exact Or.inl rfl | exact Or.inr rfl)) (pgs_cons (pg_name (i := 5) sc_are_middles.nd rfl (by first | exact Or.inl rfl | exact Or.inr rfl)) (pgs_cons (pg_name (i := 6) sc_are_middles.nd rfl (by first | exact Or.inl rfl | exact Or.inr rfl)) (pgs_cons (pg_name (i := 7) sc_are_middles.nd rfl (by first | exact Or.inl rfl | exact Or.inr rfl)) pgs_nil))))) (pss_cons (ps_if (pt_not (pt_val (pe_call (ok_are_words t) (hr.mono (by decide)) (by rfl) t.m_are_words t.F_are_words.kp t.b_are_words .nil pass0 (pa_cons (pe_lst (pa_cons (pv 4) (pa_cons (pv 7) pa_nil))) (pa_cons (pv 1) (pa_cons (pv 3) pa_nil)))))) (pss_one (ps_ret pe_bl)) pss_nil)
      (pss_one (ps_if (PW.pt (pw_or (pt_not (pt_chain op_le op_lt pe_int (pv 5) (pe_callB (id := "len") call_lenQ (by rfl) t.n_len (by decide +kernel) (pa_cons (pv 0) pa_nil)))) (pw_or1 (pt_not (pt_chain op_le op_lt pe_int (pv 6) (pv 3)))))) (pss_one (ps_ret pe_bl)) pss_nil))))
      (pss_one (ps_ret pe_bl)))), ?_⟩
    have g0 : Gr mu0 F H F H := Gr.refl sF
    obtain ⟨am, rws, rfl, ham, hrs⟩ := id hm
    have lrs : rws.length = R := hrs.1.trans hM.len
    have hr0 : 0 < M.length := by rw [hM.len]; exact hM.r1
    obtain ⟨v0, h0, ⟨a0, es, rfl, ha0, hes⟩⟩ := hrs.get (List.getElem?_eq_getElem hr0)
    have les : es.length = S := hes.1.trans (hM.row _ (List.getElem_mem hr0))
    refine ⟨_, rfl, am, rws, _, _, rfl, rfl, SqL.of (sF _ _ ham), atI_nat (j := 0) h0, a0, es, rfl, .inl (SqL.of (sF _ _ ha0)), ?_⟩
    rw [les]
    refine ⟨_, rfl, a, rfl, ⟨_, SqL.of (sF _ _ ha)⟩, for_list (K := K) (a := a) (xs := xs) (fun i σ G => ∃ (F1 : Hp) (v4 v5 v6 v7 : Option V), σ = [some (.ref am), some (.int w), some (.ref a), some (.int S), v4, v5, v6, v7] ∧ Gr mu0 F H F1 G ∧ (C.take i).all (okM R S w) = true)
      ⟨F, none, none, none, none, rfl, g0, rfl⟩ (fun i σ G _ ⟨_, _, _, _, _, _, g, _⟩ => SqL.of (g.fh _ _ (g.ff _ _ ha))) ?_ ?_⟩
    · rintro i y σ G hi ⟨F1, v4, v5, v6, v7, rfl, g, t⟩
      obtain ⟨x, hx, ix⟩ := al.get' hi
      have hlx := hl x (List.mem_of_getElem? hx)
      have ix := Is.up ix g.ff
      obtain ⟨p0, x0, x1, x2, x3, rfl, hp, i0, i1, i2, i3⟩ := id ix
      have i1 : x1 = .int x.b := i1
      have i2 : x2 = .int x.c := i2
      subst i1 i2
      refine ⟨p0, _, rfl, SqT.of (g.fh _ _ hp), rfl, _, _, rfl, _, _, rfl, _, _, rfl, _, _, rfl, rfl, ?_⟩
      refine ⟨_, rfl, _, rfl, two_le, fun l nl => ?_⟩
      have g2 := g.new (o := .lst [x0, x3]) nl
      have k2 := ((Gr.refl (mu := mu0) g.fh).new (o := .lst [x0, x3]) nl).ff
      refine ⟨_, rfl, _, rfl, _, l, [x0, x3], [x.a, x.d], w, S, rfl, g2.fh, upd_same, All2.cons (Is.up i0 k2) (All2.one (Is.up i3 k2)), ?_, fun G2 g2' => ?_⟩
      · intro z hz
        rcases List.mem_cons.mp hz with rfl | hz
        · exact hlx.1
        · rw [List.mem_singleton.mp hz]; exact hlx.2
      have g3 := g2.trans g2'
      have bad : okM R S w x = false → ∀ F' H', Gr mu0 F H F' H' → Q (.bl false) H' := fun e F' H' g' => by
        have := q F' H' g'
        rw [all_bad hx e] at this; exact this
      refine ⟨_, rfl, ?_⟩
      cases e1 : [x.a, x.d].all (okW S w) with
      | false =>
        refine ifT rfl ?_
        exact bad (by unfold okM; rw [e1]; rfl) _ _ g3
      | true =>
        refine ifF rfl ?_
        refine ⟨_, rfl, _, _, rfl, rfl, _, rfl, ?_⟩
        by_cases c1 : 0 ≤ x.b
        · refine ifT (decide_eq_true c1) ⟨_, rfl, am, rws, rfl, .inl (SqL.of (g3.fh _ _ (g3.ff _ _ ham))), _, _, rfl, rfl, _, rfl, ?_⟩
          rw [lrs]
          by_cases c2 : x.b < R
          · refine ifF (by rw [decide_eq_true c2]; rfl) ?_
            refine ⟨_, rfl, _, _, rfl, rfl, _, rfl, ?_⟩
            by_cases c3 : 0 ≤ x.c
            · refine ifT (decide_eq_true c3) ⟨_, rfl, _, _, rfl, rfl, _, rfl, ?_⟩
              by_cases c4 : x.c < S
              · refine ifF (by rw [decide_eq_true c4]; rfl) ?_
                exact ⟨_, _, _, _, _, rfl, g3, all_take hx (by unfold okM; rw [e1, decide_eq_true c1, decide_eq_true c2, decide_eq_true c3, decide_eq_true c4]; rfl) t⟩
              · refine ifT (by rw [decide_eq_false c4]; rfl) ?_
                exact bad (by unfold okM; rw [decide_eq_false c4, Bool.and_false, Bool.and_false, Bool.and_false]) _ _ g3
            · refine ifF (decide_eq_false c3) ⟨_, rfl, ?_⟩
              refine ifT rfl ?_
              exact bad (by unfold okM; rw [decide_eq_false c3, Bool.false_and, Bool.and_false, Bool.and_false]) _ _ g3
          · refine ifT (by rw [decide_eq_false c2]; rfl) ?_
            exact bad (by unfold okM; rw [decide_eq_false c2, Bool.and_false, Bool.false_and, Bool.and_false]) _ _ g3
        · refine ifF (decide_eq_false c1) ⟨_, rfl, ?_⟩
          refine ifT rfl ?_
          exact bad (by unfold okM; rw [decide_eq_false c1, Bool.false_and, Bool.false_and, Bool.and_false]) _ _ g3
    · rintro σ G ⟨F1, v4, v5, v6, v7, rfl, g, t⟩
      rw [al.1, List.take_length] at t
      rw [t] at q
      exact q F1 G g
/-! ### the looker of shut papers -/
theorem notin_c {α : Type} [Dat α] {K : PySem.W.Frag} {H : Hp} {v w : V} {x : α} {l : List α} {Q : VK} (hx : Is H v x) (hl : Is H w l) (q1 : x ∈ l → Q (.bl false) H) (q2 : x ∉ l → Q (.bl true) H) (hd : Dat.dep α + 1 ≤ 64 := by decide) : rNotInD K v w H Q := by
  refine ⟨Dat.py x, l.map Dat.py, Dat.dp hx, Dat.dp (d := l) hl, ?_, ?_, ?_⟩
  · show (PyData.canLay0 _ && decide _) = true
    rw [Dat.can, decide_eq_true (Nat.le_trans (Dat.depth x) (by omega))]; rfl
  · show (PyData.canLay0 (Dat.py l) && decide ((Dat.py l).depth ≤ 64)) = true
    rw [Dat.can, decide_eq_true (Nat.le_trans (Dat.depth l) hd)]; rfl
  · cases e : ((l.map Dat.py).any fun z => PyData.eqv z (Dat.py x)) with
    | true => exact q1 ((any_eqv x l).mp e)
    | false => exact q2 fun m => by rw [(any_eqv x l).mpr m] at e; cases e
theorem KD.nil {α : Type} [Dat α] {mu : Addr → Prop} {P : Program} {w : World} {F0 H0 F H : Hp} {p : Addr} (g : Gr mu F0 H0 F H) (np : H p = none) : KD P w F (upd H p (DictN P w p [])) p ([] : List α) :=
  ⟨g.free np, [], upd_same, (fun t m => nomatch m), rfl⟩
def setOf (A B : List Wd) (C : List Md) : SS := ⟨adKs [] A, adKs [] B, adKs [] C⟩
/-- what a shut paper must keep -/
structure ShutOk (M : Mach) (R S : Nat) (w : Int) (A B : List Wd) (C : List Md) : Prop where
  wd : isW S w = true
  c : C.all (okM R S w) = true
  a : A.all (okW S w) = true
  b : B.all (okW S w) = true
  na : nts w.toNat ∈ A
  nb : nts w.toNat ∈ B
  nc : (⟨nts w.toNat, 0, 0, nts w.toNat⟩ : Md) ∈ C
  cl : gall M (setOf A B C) (setOf A B C).C = some (setOf A B C)
theorem setOf_ok {R S k : Nat} {A B : List Wd} {C : List Md} (a : A.all (okW S k) = true) (b : B.all (okW S k) = true) (c : C.all (okM R S k) = true) : SSOk R S k (setOf A B C) := by
  rw [List.all_eq_true] at a b c
  refine ⟨adKs_nd _ List.nodup_nil, adKs_nd _ List.nodup_nil, adKs_nd _ List.nodup_nil, fun x hx => ?_, fun x hx => ?_, fun x hx => ?_⟩
  · exact okW_iff.mp (a x ((mem_adKs.mp hx).resolve_left (fun z => nomatch z)))
  · exact okW_iff.mp (b x ((mem_adKs.mp hx).resolve_left (fun z => nomatch z)))
  · exact okM_iff.mp (c x ((mem_adKs.mp hx).resolve_left (fun z => nomatch z)))
/-- a paper of these lists, as they are, stands at T -/
def PaAt (F : Hp) (T : Addr) (kd : Str) (w : Int) (A B : List Wd) (C : List Md) : Prop := ∃ (a b c : Addr) (xs ys zs : List V), F T = some (.tup [.str kd, .int w, .ref a, .ref b, .ref c]) ∧ F a = some (.lst xs) ∧ F b = some (.lst ys) ∧ F c = some (.lst zs) ∧ IsAll F xs A ∧ IsAll F ys B ∧ IsAll F zs C
def sp_shows_shut (P : Program) (w : World) : Sp := fun vs H Q _ => ∃ (F : Hp) (m : V) (M : Mach) (R S : Nat) (T : Addr) (kd : Str) (wi : Int) (A B : List Wd) (C : List Md), vs = [m, .ref T] ∧ Same F H ∧ Is F m M ∧ MOk M R S ∧ PaAt F T kd wi A B C ∧ A.length ≤ 20000 ∧ B.length ≤ 20000 ∧ C.length ≤ 20000 ∧ (∀ x ∈ A, x.l.length ≤ 100000) ∧ (∀ x ∈ B, x.l.length ≤ 100000) ∧ (∀ x ∈ C, x.a.l.length ≤ 100000 ∧ x.d.l.length ≤ 100000) ∧
  (ShutOk M R S wi A B C → ∀ F' H', Gr mu0 F H F' H' → Q (.bl true) H') ∧ (¬ ShutOk M R S wi A B C → ∀ F' H', Gr mu0 F H F' H' → Q (.bl false) H')
theorem ok_shows_shut (t : Tx K mg) : FnOk P w K mg base CX0 4 t.a_shows_shut t.fd_shows_shut ["machine", "paper"] (sp_shows_shut P w) := by
  refine t.F_shows_shut.ok sc_shows_shut (fun vs H Q E h => ?_) (fun cdv A outer s H vs Q E hr h => ?_)
  · obtain ⟨F, m, M, R, S, T, kd, wi, A, B, C, rfl, _⟩ := h
    rfl
  · obtain ⟨F, m, M, R, S, T, kd, wi, LA, LB, LC, rfl, sF, hm, hM, hT, nA, nB, nC, bA, bB, bC, qt, qf⟩ := h
    refine ⟨_, (pss_cons (ps_expr (pe_call (ok_must_machine t) (hr.mono (by decide)) (by rfl) t.m_must_machine t.F_must_machine.kp t.b_must_machine .nil pass0 (pa_cons (pv 0) pa_nil)))
      (pss_cons (ps_asg (pv 1) (pg_tup rfl (pgs_cons (pg_name (i := 2) sc_shows_shut.nd rfl (by first | exact Or.inl rfl | exact Or.inr rfl)) (pgs_cons (pg_name (i := 3) sc_shows_shut.nd rfl (by first | exact Or.inl rfl | exact Or.inr rfl)) (pgs_cons (pg_name (i := 4) sc_shows_shut.nd rfl (by first | exact Or.inl rfl | exact Or.inr rfl)) (pgs_cons (pg_name (i := 5) sc_shows_shut.nd rfl (by first | exact Or.inl rfl | exact Or.inr rfl)) (pgs_cons (pg_name (i := 6) sc_shows_shut.nd rfl (by first | exact Or.inl rfl | exact Or.inr rfl)) pgs_nil)))))))
      (pss_cons (ps_if (PW.pt (pw_or (pt_not (pt_val (pe_call (ok_is_width t) (hr.mono (by decide)) (by rfl) t.m_is_width t.F_is_width.kp t.b_is_width .nil pass0 (pa_cons (pv 0) (pa_cons (pv 3) pa_nil))))) (pw_or1 (pt_not (pt_val (pe_call (ok_are_middles t) (hr.mono (by decide)) (by rfl) t.m_are_middles t.F_are_middles.kp t.b_are_middles .nil pass0 (pa_cons (pv 0) (pa_cons (pv 3) (pa_cons (pv 6) pa_nil))))))))) (pss_one (ps_ret pe_bl)) pss_nil)
      (pss_cons (ps_set (i := 7) sc_shows_shut.nd rfl (by first | exact Or.inl rfl | exact Or.inr rfl) (pe_callB (id := "len") call_lenQ (by rfl) t.n_len (by decide +kernel) (pa_cons (pe_ix ix_list (pv 0) pe_int (fun _ _ => rfl)) pa_nil)))
      (pss_cons (ps_set (i := 8) sc_shows_shut.nd rfl (by first | exact Or.inl rfl | exact Or.inr rfl) (pe_op op_repW (pe_tup (pa_cons pe_int pa_nil)) (pv 3)))
      (pss_cons (ps_if (PW.pt (pw_or (pt_not (pt_val (pe_call (ok_are_words t) (hr.mono (by decide)) (by rfl) t.m_are_words t.F_are_words.kp t.b_are_words .nil pass0 (pa_cons (pv 4) (pa_cons (pv 3) (pa_cons (pv 7) pa_nil)))))) (pw_or1 (pt_not (pt_val (pe_call (ok_are_words t) (hr.mono (by decide)) (by rfl) t.m_are_words t.F_are_words.kp t.b_are_words .nil pass0 (pa_cons (pv 5) (pa_cons (pv 3) (pa_cons (pv 7) pa_nil))))))))) (pss_one (ps_ret pe_bl)) pss_nil)
      (pss_cons (ps_if (PW.pt (pw_or (pt_cmpR (op_notInD (u65 hr)) (pv 8) (pv 4) (by rfl)) (pw_or (pt_cmpR (op_notInD (u65 hr)) (pv 8) (pv 5) (by rfl)) (pw_or1 (pt_cmpR (op_notInD (u65 hr)) (pe_tup (pa_cons (pv 8) (pa_cons pe_int (pa_cons pe_int (pa_cons (pv 8) pa_nil))))) (pv 6) (by rfl)))))) (pss_one (ps_ret pe_bl)) pss_nil)
      (pss_cons (ps_set (i := 9) sc_shows_shut.nd rfl (by first | exact Or.inl rfl | exact Or.inr rfl) pe_nnew)
      (pss_cons (ps_set (i := 10) sc_shows_shut.nd rfl (by first | exact Or.inl rfl | exact Or.inr rfl) pe_nnew)
      (pss_cons (ps_set (i := 11) sc_shows_shut.nd rfl (by first | exact Or.inl rfl | exact Or.inr rfl) pe_nnew)
      (pss_cons (ps_expr (pe_call (ok_put_new t) (hr.mono (by decide)) (by rfl) t.m_put_new t.F_put_new.kp t.b_put_new .nil pass0 (pa_cons (pv 9) (pa_cons (pv 4) pa_nil))))
      (pss_cons (ps_expr (pe_call (ok_put_new t) (hr.mono (by decide)) (by rfl) t.m_put_new t.F_put_new.kp t.b_put_new .nil pass0 (pa_cons (pv 10) (pa_cons (pv 5) pa_nil))))
      (pss_cons (ps_expr (pe_call (ok_put_new t) (hr.mono (by decide)) (by rfl) t.m_put_new t.F_put_new.kp t.b_put_new .nil pass0 (pa_cons (pv 11) (pa_cons (pv 6) pa_nil))))
      (pss_one (ps_ret (pe_cmpR op_is_bn (pe_call (ok_grown t) (hr.mono (by decide)) (by rfl) t.m_grown t.F_grown.kp t.b_grown .nil pass0 (pa_cons (pv 0) (pa_cons (pv 9) (pa_cons (pv 10) (pa_cons (pv 11) pa_nil))))) pe_bl (by rfl))))))))))))))))), ?_⟩
    have g0 : Gr mu0 F H F H := Gr.refl sF
    obtain ⟨ta, tb, tc, xs, ys, zs, hTT, hta, htb, htc, ia, ib, ic⟩ := id hT
    obtain ⟨am, rws, rfl, ham, hrs⟩ := id hm
    have hr0 : 0 < M.length := by rw [hM.len]; exact hM.r1
    obtain ⟨v0, h0, ⟨a0, es, rfl, ha0, hes⟩⟩ := hrs.get (List.getElem?_eq_getElem hr0)
    have les : es.length = S := hes.1.trans (hM.row _ (List.getElem_mem hr0))
    refine ⟨_, rfl, F, .ref am, M, R, S, rfl, sF, hm, hM, fun H1 g1 => ?_⟩
    refine ⟨_, rfl, T, _, rfl, SqT.of (g1.fh _ _ hTT), rfl, _, _, rfl, _, _, rfl, _, _, rfl, _, _, rfl, _, _, rfl, rfl, ?_⟩
    refine ⟨_, rfl, _, rfl, F, .ref am, M, R, S, wi, rfl, g1.fh, hm, hM, _, rfl, ?_⟩
    cases ew : isW S wi with
    | false =>
      refine ifT rfl ?_
      exact qf (fun z => by have := z.wd; rw [ew] at this; cases this) F H1 g1
    | true =>
      refine ifF rfl ?_
      have hw' := of_decide_eq_true ew
      obtain ⟨k, rfl⟩ : ∃ k : Nat, wi = (k : Int) := Int.eq_ofNat_of_zero_le (by omega)
      have kS : S ^ k ≤ 16 := by have := hw'.2.2; rwa [Int.toNat_natCast] at this
      refine ⟨_, rfl, _, rfl, _, rfl, F, .ref am, M, R, S, tc, zs, LC, k, rfl, g1.fh, hm, hM, htc, ic, bC, fun F2 H2 g2' => ?_⟩
      have g2 := g1.trans g2'
      refine ⟨_, rfl, ?_⟩
      cases ec : LC.all (okM R S k) with
      | false =>
        refine ifT rfl ?_
        exact qf (fun z => by have := z.c; rw [ec] at this; cases this) F2 H2 g2
      | true =>
        refine ifF rfl ?_
        refine ⟨_, rfl, am, rws, _, _, rfl, rfl, SqL.of (g2.fh _ _ (g2.ff _ _ ham)), atI_nat (j := 0) h0, a0, es, rfl, .inl (SqL.of (g2.fh _ _ (g2.ff _ _ ha0))), ?_⟩
        rw [les]
        refine ⟨one_le, fun p0 np0 => ⟨_, rfl, ?_⟩⟩
        have g3 := g2.new (o := .tup [.int 0]) np0
        refine rep_wd g3 upd_same (by omega) (by omega) fun F4 H4 c2 g4 k4 hc2 => ?_
        have iA : Is F4 (.ref ta) LA := ⟨ta, xs, rfl, g4.ff _ _ hta, IsAll.up ia g4.ff⟩
        have iB : Is F4 (.ref tb) LB := ⟨tb, ys, rfl, g4.ff _ _ htb, IsAll.up ib g4.ff⟩
        have iC : Is F4 (.ref tc) LC := ⟨tc, zs, rfl, g4.ff _ _ htc, IsAll.up ic g4.ff⟩
        have iw : Is F4 (.ref c2) (nts k) := wd_is hc2
        refine ⟨_, rfl, _, rfl, _, rfl, F4, ta, xs, LA, k, S, rfl, g4.fh, g4.ff _ _ hta, IsAll.up ia g4.ff, bA, fun H5 g5' => ?_⟩
        have g5 := g4.trans g5'
        refine ⟨_, rfl, ?_⟩
        cases ea : LA.all (okW S k) with
        | false =>
          refine ifT rfl ?_
          exact qf (fun z => by have := z.a; rw [ea] at this; cases this) F4 H5 g5
        | true =>
        refine ifF rfl ?_
        refine ⟨_, rfl, _, rfl, _, rfl, F4, tb, ys, LB, k, S, rfl, g5.fh, g5.ff _ _ htb, IsAll.up ib g5.ff, bB, fun H6 g6' => ?_⟩
        have g6 := g5.trans g6'
        refine ⟨_, rfl, ?_⟩
        cases eb : LB.all (okW S k) with
        | false =>
          refine ifT rfl ?_
          exact qf (fun z => by have := z.b; rw [eb] at this; cases this) F4 H6 g6
        | true =>
        refine ifF rfl ?_
        refine ⟨_, rfl, _, rfl, notin_c (x := nts k) (l := LA) (iw.up g6.fh) (Is.up iA g6.fh) (fun mA => ⟨_, rfl, ?_⟩) (fun mA => ⟨_, rfl, ?_⟩)⟩
        case' refine_2 =>
          refine ifT rfl ?_
          exact qf (fun z => mA (by have := z.na; rwa [Int.toNat_natCast] at this)) F4 H6 g6
        refine ifF rfl ?_
        refine ⟨_, rfl, _, rfl, notin_c (x := nts k) (l := LB) (iw.up g6.fh) (Is.up iB g6.fh) (fun mB => ⟨_, rfl, ?_⟩) (fun mB => ⟨_, rfl, ?_⟩)⟩
        case' refine_2 =>
          refine ifT rfl ?_
          exact qf (fun z => mB (by have := z.nb; rwa [Int.toNat_natCast] at this)) F4 H6 g6
        refine ifF rfl ?_
        refine ⟨_, rfl, _, rfl, len4, fun T2 nT2 => ⟨_, rfl, ?_⟩⟩
        have g7 := g6.new (o := .tup [.ref c2, .int 0, .int 0, .ref c2]) nT2
        have k7 := ((Gr.refl (mu := mu0) g6.fh).new (o := .tup [.ref c2, .int 0, .int 0, .ref c2]) nT2).ff
        have im : Is (upd F4 T2 (.tup [.ref c2, .int 0, .int 0, .ref c2])) (.ref T2) (⟨nts k, 0, 0, nts k⟩ : Md) := ⟨T2, _, _, _, _, rfl, upd_same, iw.up k7, rfl, rfl, iw.up k7⟩
        generalize upd F4 T2 (.tup [.ref c2, .int 0, .int 0, .ref c2]) = F7 at g7 k7 im
        change rNotInD _ _ _ (upd H6 T2 (.tup [.ref c2, .int 0, .int 0, .ref c2])) _
        generalize upd H6 T2 (.tup [.ref c2, .int 0, .int 0, .ref c2]) = H7 at g7 ⊢
        refine notin_c (x := (⟨nts k, 0, 0, nts k⟩ : Md)) (l := LC) (Is.up im g7.fh) (Is.up (Is.up iC k7) g7.fh) (fun mC => ⟨_, rfl, ?_⟩) (fun mC => ⟨_, rfl, ?_⟩)
        case' refine_2 =>
          refine ifT rfl ?_
          exact qf (fun z => mC (by have := z.nc; rwa [Int.toNat_natCast] at this)) F7 H7 g7
        refine ifF rfl ?_
        generalize hs1 : List.set _ _ _ = s1
        have es1 : s1 = [some (V.ref am), some (V.ref T), some (V.str kd), some (V.int k), some (V.ref ta), some (V.ref tb), some (V.ref tc), some (V.int S), some (V.ref c2), none, none, none] := hs1.symm
        subst es1
        clear hs1
        have htaF := g7.ff _ _ hta
        have htbF := g7.ff _ _ htb
        have htcF := g7.ff _ _ htc
        have iaF := IsAll.up ia g7.ff
        have ibF := IsAll.up ib g7.ff
        have icF := IsAll.up ic g7.ff
        have hmF := hm.up g7.ff
        rw [cxP, cxW]
        refine fun d1 nd1 => ?_
        have g8 := g7.own (o := DictN P w d1 []) nd1
        have p1 : KD P w F7 _ d1 ([] : List Wd) := KD.nil g7 nd1
        have n1 : H d1 = none := g7.th _ nd1
        generalize upd H7 d1 (DictN P w d1 []) = H8 at g8 p1 ⊢
        refine fun d2 nd2 => ?_
        have g9 := g8.own (o := DictN P w d2 []) nd2
        have p2 : KD P w F7 _ d2 ([] : List Wd) := KD.nil g8 nd2
        have n2 : H d2 = none := g8.th _ nd2
        have n12 : d1 ≠ d2 := by
          obtain ⟨_, L, h1, _⟩ := p1
          exact ne_of_none h1 nd2
        have p1 := p1.gr ((Gr.refl (mu := mu0) g8.fh).own (o := DictN P w d2 []) nd2) (fun z => z)
        change Ends.nx _ _ (upd H8 d2 (DictN P w d2 []))
        generalize upd H8 d2 (DictN P w d2 []) = H9 at g9 p1 p2 ⊢
        refine fun d3 nd3 => ?_
        have g10 := g9.own (o := DictN P w d3 []) nd3
        have p3 : KD P w F7 _ d3 ([] : List Md) := KD.nil g9 nd3
        have n3 : H d3 = none := g9.th _ nd3
        have n13 : d1 ≠ d3 := by
          obtain ⟨_, L, h1, _⟩ := p1
          exact ne_of_none h1 nd3
        have n23 : d2 ≠ d3 := by
          obtain ⟨_, L, h1, _⟩ := p2
          exact ne_of_none h1 nd3
        have kk := (Gr.refl (mu := mu0) g9.fh).own (o := DictN P w d3 []) nd3
        have p1 := p1.gr kk (fun z => z)
        have p2 := p2.gr kk (fun z => z)
        change Ends.nx _ _ (upd H9 d3 (DictN P w d3 []))
        generalize upd H9 d3 (DictN P w d3 []) = H10 at g10 p1 p2 p3 ⊢
        refine ⟨_, rfl, _, rfl, Wd, inferInstance, inferInstance, inferInstance, inferInstance, F7, d1, ta, [], LA, xs, rfl, g10.fh, p1, htaF, iaF, by rw [List.length_nil]; omega, by decide, fun H11 k11 q1 => ?_⟩
        have g11 := g10.thn k11 (fun c e => .inr (by rw [e]; exact n1))
        have p2 := p2.gr k11 (fun e => n12 e.symm)
        have p3 := p3.gr k11 (fun e => n13 e.symm)
        refine ⟨_, rfl, _, rfl, Wd, inferInstance, inferInstance, inferInstance, inferInstance, F7, d2, tb, [], LB, ys, rfl, g11.fh, p2, htbF, ibF, by rw [List.length_nil]; omega, by decide, fun H12 k12 q2 => ?_⟩
        have g12 := g11.thn k12 (fun c e => .inr (by rw [e]; exact n2))
        have q1 := q1.gr k12 (fun e => n12 e)
        have p3 := p3.gr k12 (fun e => n23 e.symm)
        refine ⟨_, rfl, _, rfl, Md, inferInstance, inferInstance, inferInstance, inferInstance, F7, d3, tc, [], LC, zs, rfl, g12.fh, p3, htcF, icF, by rw [List.length_nil]; omega, by decide, fun H13 k13 q3 => ?_⟩
        have g13 := g12.thn k13 (fun c e => .inr (by rw [e]; exact n3))
        have q1 := q1.gr k13 (fun e => n13 e)
        have q2 := q2.gr k13 (fun e => n23 e)
        have so := setOf_ok ea eb ec
        have nx : ∀ c, mu3 d1 d2 d3 c → mu0 c ∨ H c = none := fun c hc => .inr (by rcases hc with rfl | rfl | rfl; exact n1; exact n2; exact n3)
        refine ⟨_, rfl, _, rfl, _, rfl, _, rfl, F7, .ref am, M, R, S, k, d1, d2, d3, setOf LA LB LC, rfl, g13.fh, hmF, hM, by omega, kS, by omega, q1, q2, q3, n12, n13, n23, so, fun hn F14 H14 g14 => ?_, fun s' hs F14 H14 g14 r1 r2 r3 => ?_⟩
        · refine ⟨false, rfl, .inl ⟨rfl, ?_⟩⟩
          exact qf (fun z => by have := z.cl; rw [hn] at this; cases this) F14 H14 (g13.thn g14 nx)
        · refine ⟨false, rfl, .inr ⟨_, rfl, ?_⟩⟩
          by_cases c : (setOf LA LB LC).n < s'.n
          · rw [decide_eq_true c]
            refine qf (fun z => ?_) F14 H14 (g13.thn g14 nx)
            have e := z.cl
            rw [hs] at e
            rw [Option.some.inj e] at c
            exact Nat.lt_irrefl _ c
          · rw [decide_eq_false c]
            have e := gall_same hs c
            rw [e] at hs
            exact qt ⟨ew, ec, ea, eb, by rw [Int.toNat_natCast]; exact mA, by rw [Int.toNat_natCast]; exact mB, by rw [Int.toNat_natCast]; exact mC, hs⟩ F14 H14 (g13.thn g14 nx)
/-! ### what a middle asks for, by the law -/
def tLeft : TStr := ⟨"left", by decide +kernel⟩
def tRight : TStr := ⟨"right", by decide +kernel⟩
def sp_L_asked_by : Sp := fun vs H Q _ => ∃ (F : Hp) (m v : V) (M : Mach) (R S : Nat) (md : Md) (la lb : Addr) (xs ys : List V) (A B : List Wd), vs = [m, v, .ref la, .ref lb] ∧ Same F H ∧ Is F m M ∧ MOk M R S ∧ Is F v md ∧ 0 ≤ md.b ∧ md.b < R ∧ 0 ≤ md.c ∧ md.c < S ∧ 1 ≤ md.a.l.length ∧ md.a.l.length ≤ 1000 ∧ 1 ≤ md.d.l.length ∧ md.d.l.length ≤ 1000 ∧ H la = some (.lst xs) ∧ IsAll F xs A ∧ H lb = some (.lst ys) ∧ IsAll F ys B ∧ A.length ≤ 100000 ∧ B.length ≤ 100000 ∧
  (entM M md = .emp → ∀ F' H', Gr mu0 F H F' H' → Q .non H') ∧
  ∀ p w t, entM M md = .go p w t →
    (w = 1 → ∀ (F' H' : Hp) (T c : Addr) (wv : V) (zs : List V), Gr mu0 F H F' H' → F' T = some (.tup [.str tLeft.x, wv, .ref c]) → Is F' wv (nw1 md p) → F' c = some (.lst zs) → IsAll F' zs (more1 md p t B) → Q (.ref T) H') ∧
    (¬ w = 1 → ∀ (F' H' : Hp) (T c : Addr) (wv : V) (zs : List V), Gr mu0 F H F' H' → F' T = some (.tup [.str tRight.x, wv, .ref c]) → Is F' wv (nw2 md p) → F' c = some (.lst zs) → IsAll F' zs (more2 md p t A) → Q (.ref T) H')
theorem ok_L_asked_by (t : Tx K mg) : FnOk P w K mg base CX0 1 t.a_L_asked_by t.fd_L_asked_by ["_law_machine_here", "_law_middle", "_law_lefts", "_law_rights"] sp_L_asked_by := by
  refine t.F_L_asked_by.ok sc_L_asked_by (fun vs H Q E h => ?_) (fun cdv A outer s H vs Q E hr h => ?_)
  · obtain ⟨F, m, v, M, R, S, md, la, lb, xs, ys, A, B, rfl, _⟩ := h
    rfl
  · obtain ⟨F, m, v, M, R, S, md, la, lb, xs, ys, A, B, rfl, sF, hm, hM, hv, b0, b1, c0, c1, l1, l1', l2, l2', hla, ila, hlb, ilb, nA, nB, qe, qg⟩ := h
    refine ⟨_, (pss_cons (ps_asg (pv 1) (pg_tup rfl (pgs_cons (pg_name (i := 4) sc_L_asked_by.nd rfl (by first | exact Or.inl rfl | exact Or.inr rfl)) (pgs_cons (pg_name (i := 5) sc_L_asked_by.nd rfl (by first | exact Or.inl rfl | exact Or.inr rfl)) (pgs_cons (pg_name (i := 6) sc_L_asked_by.nd rfl (by first | exact Or.inl rfl | exact Or.inr rfl)) (pgs_cons (pg_name (i := 7) sc_L_asked_by.nd rfl (by first | exact Or.inl rfl | exact Or.inr rfl)) pgs_nil))))))
      (pss_cons (ps_set (i := 8) sc_L_asked_by.nd rfl (by first | exact Or.inl rfl | exact Or.inr rfl) (pe_ix ix_list (pe_ix ix_list (pv 0) (pv 5) (fun _ _ => rfl)) (pv 6) (fun _ _ => rfl)))
      (pss_cons (ps_if (pt_cmpR (op_eqD hr.units) (pv 8) (pe_tup pa_nil) (nomark _)) (pss_one (ps_ret pe_non)) pss_nil)
      (pss_cons (ps_asg (pv 8) (pg_tup rfl (pgs_cons (pg_name (i := 9) sc_L_asked_by.nd rfl (by first | exact Or.inl rfl | exact Or.inr rfl)) (pgs_cons (pg_name (i := 10) sc_L_asked_by.nd rfl (by first | exact Or.inl rfl | exact Or.inr rfl)) (pgs_cons (pg_name (i := 11) sc_L_asked_by.nd rfl (by first | exact Or.inl rfl | exact Or.inr rfl)) pgs_nil)))))
      (pss_cons (ps_if (pt_cmpR op_eq (pv 10) pe_int (nomark _)) (pss_cons (ps_set (i := 12) sc_L_asked_by.nd rfl (by first | exact Or.inl rfl | exact Or.inr rfl) (pe_op op_catQ (pe_slice sl_tupQ (pv 4) (po_some pe_int) po_none) (pe_tup (pa_cons (pv 9) pa_nil))))
      (pss_one (ps_ret (pe_tup (pa_cons pe_str (pa_cons (pv 12) (pa_cons (pe_lc (own := [("_law_one", 13)]) (g := gName 13) rfl sc_L_asked_by.nd (pi_list (pv 3)) (blkOk_by (N := N_L_asked_by) (sc := defScope s_L_asked_by) (by decide +kernel)) (fun _ _ _ _ _ => (pg_name (i := 13) sc_L_asked_by.nd rfl (by first | exact Or.inl rfl | exact Or.inr rfl))) (fun _ _ _ _ _ => (pts_one (pt_cmpR (orK (K := K) (r := rEqD) rfl (op_eqD hr.units)) (pe_slice (slK (K := K) (r := rSlQ) rfl sl_tupQ) (pv 13) po_none (po_some (pe_un un_neg pe_int))) (pe_slice (slK (K := K) (r := rSlQ) rfl sl_tupQ) (pv 7) (po_some pe_int) po_none) (nomark _)))) (fun _ _ _ _ _ => (pe_tup (pa_cons (pv 12) (pa_cons (pv 11) (pa_cons (pe_ix (ixK (K := K) (r := rIxT) rfl ix_tup) (pv 7) pe_int (fun _ _ => rfl)) (pa_cons (pv 13) pa_nil))))))) pa_nil))))))) pss_nil)
      (pss_cons (ps_set (i := 12) sc_L_asked_by.nd rfl (by first | exact Or.inl rfl | exact Or.inr rfl) (pe_op op_catQ (pe_tup (pa_cons (pv 9) pa_nil)) (pe_slice sl_tupQ (pv 7) po_none (po_some (pe_un un_neg pe_int)))))
      (pss_one (ps_ret (pe_tup (pa_cons pe_str (pa_cons (pv 12) (pa_cons (pe_lc (own := [("_law_one", 13)]) (g := gName 13) rfl sc_L_asked_by.nd (pi_list (pv 2)) (blkOk_by (N := N_L_asked_by) (sc := defScope s_L_asked_by) (by decide +kernel)) (fun _ _ _ _ _ => (pg_name (i := 13) sc_L_asked_by.nd rfl (by first | exact Or.inl rfl | exact Or.inr rfl))) (fun _ _ _ _ _ => (pts_one (pt_cmpR (orK (K := K) (r := rEqD) rfl (op_eqD hr.units)) (pe_slice (slK (K := K) (r := rSlQ) rfl sl_tupQ) (pv 13) (po_some pe_int) po_none) (pe_slice (slK (K := K) (r := rSlQ) rfl sl_tupQ) (pv 4) po_none (po_some (pe_un un_neg pe_int))) (nomark _)))) (fun _ _ _ _ _ => (pe_tup (pa_cons (pv 13) (pa_cons (pv 11) (pa_cons (pe_ix (ixK (K := K) (r := rIxT) rfl ix_tup) (pv 4) (pe_un un_neg pe_int) (fun _ _ => rfl)) (pa_cons (pv 12) pa_nil))))))) pa_nil)))))))))))), ?_⟩
    have g0 : Gr mu0 F H F H := Gr.refl sF
    obtain ⟨am, rws, rfl, ham, hrs⟩ := id hm
    obtain ⟨p0, x0, x1, x2, x3, rfl, hp, i0, i1, i2, i3⟩ := id hv
    have i1 : x1 = .int md.b := i1
    have i2 : x2 = .int md.c := i2
    subst i1 i2
    obtain ⟨a1, rfl, ha1⟩ := wd_ref i0
    obtain ⟨a2, rfl, ha2⟩ := wd_ref i3
    obtain ⟨row, e1, e2, eo⟩ := ent_of hM b0 b1 c0 c1
    obtain ⟨v1, h1, ⟨ar, es, e, har, hes⟩⟩ := hrs.get e1
    subst e
    obtain ⟨v2, h2, ie⟩ := hes.get e2
    have t1 : atI rws md.b = some (.ref ar) := by
      have := atI_nat h1
      rwa [Int.toNat_of_nonneg b0] at this
    have t2 : atI es md.c = some v2 := by
      have := atI_nat h2
      rwa [Int.toNat_of_nonneg c0] at this
    refine ⟨_, rfl, p0, _, rfl, SqT.of (sF _ _ hp), rfl, _, _, rfl, _, _, rfl, _, _, rfl, _, _, rfl, rfl, ?_⟩
    refine ⟨_, rfl, _, rfl, am, rws, _, _, rfl, rfl, SqL.of (sF _ _ ham), t1, _, rfl, ar, es, _, _, rfl, rfl, SqL.of (sF _ _ har), t2, ?_⟩
    refine ⟨_, rfl, nil_le, fun e0 ne0 => ?_⟩
    have g2 := g0.own (o := .tup []) ne0
    have ie : Is F v2 (entM M md) := ie
    refine eq_dat (a := entM M md) (b := Ent.emp) (ie.up g2.fh) ⟨e0, rfl, upd_same⟩ ⟨_, rfl, ?_⟩
    generalize upd H e0 (.tup []) = H2 at g2 ⊢
    cases ee : entM M md with
    | emp =>
      refine ifT (by rw [decide_eq_true rfl]) ?_
      exact qe ee F H2 g2
    | go pu wa to =>
      refine ifF (by rw [decide_eq_false (fun z => nomatch z)]) ?_
      rw [ee] at ie
      obtain ⟨qr, ql⟩ := qg pu wa to ee
      obtain ⟨ae, rfl, hae⟩ := ie
      refine ⟨_, rfl, ae, _, rfl, SqT.of (g2.fh _ _ hae), rfl, _, _, rfl, _, _, rfl, _, _, rfl, rfl, ?_⟩
      generalize hs1 : List.set _ _ _ = s1
      have es1 : s1 = [some (V.ref am), some (V.ref p0), some (V.ref la), some (V.ref lb), some (V.ref a1), some (V.int md.b), some (V.int md.c), some (V.ref a2), some (V.ref ae), some (V.int pu), some (V.int wa), some (V.int to), none, none] := hs1.symm
      subst es1
      clear hs1
      refine ⟨_, rfl, rfl, _, rfl, ?_⟩
      rw [eqvi]
      by_cases c : wa = 1
      · refine ifT (decide_eq_true c) ?_
        refine ⟨_, rfl, _, rfl, sl_wd1 g2 (g2.ff _ _ ha1) fun F1 H1 c1 g3 k3 hc1 => ?_⟩
        refine ⟨_, rfl, one_le, fun p1 np1 => ?_⟩
        have g4 := g3.new (o := .tup ([pu].map V.int)) np1
        have hc1 := ((Gr.refl (mu := mu0) g3.fh).new (o := .tup ([pu].map V.int)) np1).ff _ _ hc1
        refine cat_wd (l1 := md.a.l.drop 1) (l2 := [pu]) g4 hc1 upd_same (by rw [List.length_drop, List.length_singleton]; omega) fun F5 H5 c5 g5 k5 hc5 => ?_
        have ilb5 := IsAll.up ilb g5.ff
        have hlb5 := g5.fr _ _ hlb (fun z => z)
        refine ⟨_, rfl, _, rfl, lb, rfl, ⟨_, SqL.of hlb5⟩, fun D nD => lc_list (K := K) (a := lb) (xs := ys) (fun i G => ∃ (F6 : Hp) (zs : List V), Gr mu0 F H F6 G ∧ Same F5 F6 ∧ Ow H F6 G D (.lst zs) ∧ IsAll F6 zs (more1 md pu to (B.take i)))
          ⟨F5, [], g5.own nD, Same.refl F5, Ow.mk1 g5 nD, All2.nil⟩ (fun i G _ ⟨F6, zs, g, _⟩ => SqL.of (g.fr _ _ hlb (fun z => z))) ?_ ?_⟩
        · rintro i y G hi ⟨F6', zs, g, gb, wo, al⟩
          obtain ⟨wd, hx, iw⟩ := ilb5.get' hi
          have il : i < B.length := (List.getElem?_eq_some_iff.mp hx).1
          have st : B.take (i + 1) = B.take i ++ [wd] := by rw [List.take_add_one, hx]; rfl
          have iw := Is.up iw gb
          obtain ⟨b, rfl, hw⟩ := wd_ref iw
          have lm := more1_len md pu to (B.take i)
          rw [List.length_take] at lm
          refine ⟨rfl, _, rfl, _, rfl, _, rfl, sl_wdl g hw fun F6 H6 c6 g6 k6 hc6 => ?_⟩
          refine ⟨_, rfl, _, rfl, sl_wd1 g6 (k6.ff _ _ (g.ff _ _ ha2)) fun F7 H7 c7 g7 k7 hc7 => ?_⟩
          refine eq_dat (a := (⟨wd.l.dropLast⟩ : Wd)) (b := ⟨md.d.l.drop 1⟩) (Is.up (wd_is (k7.ff _ _ hc6)) g7.fh) (Is.up (wd_is hc7) g7.fh) ⟨_, rfl, ?_⟩
          have gb7 := (gb.trans k6.ff).trans k7.ff
          have w7 := (wo.call k6 (fun z => z)).call k7 (fun z => z)
          have al7 := (IsAll.up al k6.ff).up k7.ff
          by_cases c2 : wd.l.dropLast = md.d.l.drop 1
          · refine ifT (decide_eq_true (by rw [c2])) ?_
            refine ⟨_, rfl, _, rfl, _, rfl, a2, _, _, _, rfl, rfl, SqT.of (g7.fh _ _ (k7.ff _ _ (k6.ff _ _ (g.ff _ _ ha2)))), head_at l2, _, rfl, len4, fun T nT => ?_⟩
            have g8 := g7.new (o := .tup [.ref c5, .int to, .int (md.d.l.headD 0), .ref b]) nT
            have k8 := (Gr.refl (mu := mu0) g7.fh).new (o := .tup [.ref c5, .int to, .int (md.d.l.headD 0), .ref b]) nT
            have w8 := w7.new (u := .tup [.ref c5, .int to, .int (md.d.l.headD 0), .ref b]) nT
            refine ⟨_, w8.h, lt_size (by rw [al.1]; omega), _, zs ++ [.ref T], g8.set w8.f (.inl w8.n), gb7.trans k8.ff, w8.set, ?_⟩
            rw [st, more1_add, if_pos c2]
            exact (IsAll.up al7 k8.ff).app (All2.one ⟨T, _, _, _, _, rfl, upd_same, Is.up (wd_is hc5) ((gb.trans (k6.ff.trans k7.ff)).trans k8.ff), rfl, rfl, Is.up (Is.up iw (k6.ff.trans k7.ff)) k8.ff⟩)
          · refine ifF (decide_eq_false (fun z => c2 (congrArg Tup.l z))) ?_
            refine ⟨F7, zs, g7, gb7, w7, ?_⟩
            rw [st, more1_add, if_neg c2, List.append_nil]
            exact al7
        · rintro G ⟨F6, zs, g, gb, wo, al⟩
          rw [ilb.1, List.take_length] at al
          refine ⟨three_le, fun T nT => ?_⟩
          have g7 := g.frz wo.h wo.n wo.f
          have gs : Same F6 (upd F6 D (.lst zs)) := sm_new (Same.refl F6) wo.f
          have g8 := g7.new (o := .tup [.str tLeft.x, .ref c5, .ref D]) nT
          have s8 := ((Gr.refl (mu := mu0) g7.fh).new (o := .tup [.str tLeft.x, .ref c5, .ref D]) nT).ff
          exact qr c _ _ T D (.ref c5) zs g8 upd_same (Is.up (Is.up (Is.up (wd_is hc5) gb) gs) s8) (s8 _ _ upd_same) ((IsAll.up al gs).up s8)
      · refine ifF (decide_eq_false c) ?_
        refine ⟨_, rfl, one_le, fun p1 np1 => ?_⟩
        have g3 := g2.new (o := .tup ([pu].map V.int)) np1
        have hb1 := g3.ff _ _ ha2
        have hp1 : (upd F p1 (.tup ([pu].map V.int))) p1 = some (.tup ([pu].map V.int)) := upd_same
        generalize upd F p1 (.tup ([pu].map V.int)) = F1 at g3 hb1 hp1
        refine ⟨_, rfl, _, rfl, _, rfl, sl_wdl g3 hb1 fun F4 H4 c1 g4 k4 hc1 => ?_⟩
        refine cat_wd (l1 := [pu]) (l2 := md.d.l.dropLast) g4 (k4.ff _ _ hp1) hc1 (by rw [List.length_dropLast, List.length_singleton]; omega) fun F5 H5 c5 g5 k5 hc5 => ?_
        have ila5 := IsAll.up ila g5.ff
        have hla5 := g5.fr _ _ hla (fun z => z)
        refine ⟨_, rfl, _, rfl, la, rfl, ⟨_, SqL.of hla5⟩, fun D nD => lc_list (K := K) (a := la) (xs := xs) (fun i G => ∃ (F6 : Hp) (zs : List V), Gr mu0 F H F6 G ∧ Same F5 F6 ∧ Ow H F6 G D (.lst zs) ∧ IsAll F6 zs (more2 md pu to (A.take i)))
          ⟨F5, [], g5.own nD, Same.refl F5, Ow.mk1 g5 nD, All2.nil⟩ (fun i G _ ⟨F6, zs, g, _⟩ => SqL.of (g.fr _ _ hla (fun z => z))) ?_ ?_⟩
        · rintro i y G hi ⟨F6', zs, g, gb, wo, al⟩
          obtain ⟨wd, hx, iw⟩ := ila5.get' hi
          have il : i < A.length := (List.getElem?_eq_some_iff.mp hx).1
          have st : A.take (i + 1) = A.take i ++ [wd] := by rw [List.take_add_one, hx]; rfl
          have iw := Is.up iw gb
          obtain ⟨b, rfl, hw⟩ := wd_ref iw
          have lm := more2_len md pu to (A.take i)
          rw [List.length_take] at lm
          refine ⟨rfl, _, rfl, _, rfl, sl_wd1 g hw fun F6 H6 c6 g6 k6 hc6 => ?_⟩
          refine ⟨_, rfl, _, rfl, _, rfl, sl_wdl g6 (k6.ff _ _ (g.ff _ _ ha1)) fun F7 H7 c7 g7 k7 hc7 => ?_⟩
          refine eq_dat (a := (⟨wd.l.drop 1⟩ : Wd)) (b := ⟨md.a.l.dropLast⟩) (Is.up (wd_is (k7.ff _ _ hc6)) g7.fh) (Is.up (wd_is hc7) g7.fh) ⟨_, rfl, ?_⟩
          have gb7 := (gb.trans k6.ff).trans k7.ff
          have w7 := (wo.call k6 (fun z => z)).call k7 (fun z => z)
          have al7 := (IsAll.up al k6.ff).up k7.ff
          by_cases c2 : wd.l.drop 1 = md.a.l.dropLast
          · refine ifT (decide_eq_true (by rw [c2])) ?_
            refine ⟨_, rfl, _, rfl, _, rfl, _, rfl, a1, _, _, _, rfl, rfl, SqT.of (g7.fh _ _ (k7.ff _ _ (k6.ff _ _ (g.ff _ _ ha1)))), last_at l1, _, rfl, len4, fun T nT => ?_⟩
            have g8 := g7.new (o := .tup [.ref b, .int to, .int (md.a.l.getLastD 0), .ref c5]) nT
            have k8 := (Gr.refl (mu := mu0) g7.fh).new (o := .tup [.ref b, .int to, .int (md.a.l.getLastD 0), .ref c5]) nT
            have w8 := w7.new (u := .tup [.ref b, .int to, .int (md.a.l.getLastD 0), .ref c5]) nT
            refine ⟨_, w8.h, lt_size (by rw [al.1]; omega), _, zs ++ [.ref T], g8.set w8.f (.inl w8.n), gb7.trans k8.ff, w8.set, ?_⟩
            rw [st, more2_add, if_pos c2]
            exact (IsAll.up al7 k8.ff).app (All2.one ⟨T, _, _, _, _, rfl, upd_same, Is.up (Is.up iw (k6.ff.trans k7.ff)) k8.ff, rfl, rfl, Is.up (wd_is hc5) ((gb.trans (k6.ff.trans k7.ff)).trans k8.ff)⟩)
          · refine ifF (decide_eq_false (fun z => c2 (congrArg Tup.l z))) ?_
            refine ⟨F7, zs, g7, gb7, w7, ?_⟩
            rw [st, more2_add, if_neg c2, List.append_nil]
            exact al7
        · rintro G ⟨F6, zs, g, gb, wo, al⟩
          rw [ila.1, List.take_length] at al
          refine ⟨three_le, fun T nT => ?_⟩
          have g7 := g.frz wo.h wo.n wo.f
          have gs : Same F6 (upd F6 D (.lst zs)) := sm_new (Same.refl F6) wo.f
          have g8 := g7.new (o := .tup [.str tRight.x, .ref c5, .ref D]) nT
          have s8 := ((Gr.refl (mu := mu0) g7.fh).new (o := .tup [.str tRight.x, .ref c5, .ref D]) nT).ff
          exact ql c _ _ T D (.ref c5) zs g8 upd_same (Is.up (Is.up (Is.up (wd_is hc5) gb) gs) s8) (s8 _ _ upd_same) ((IsAll.up al gs).up s8)
/-! ### shut sets and setups, plainly -/
theorem gall_fix {M : Mach} : ∀ {ms : List Md} {s s' : SS}, gall M s ms = some s' → s'.n ≤ s.n → ∀ m ∈ ms, gstep M s m = some s
  | [], _, _, _, _, m, h => nomatch h
  | x :: ms, s, s', e, l, m, h => by
    unfold gall at e
    cases e1 : gstep M s x with
    | none => rw [e1] at e; cases e
    | some s1 =>
      rw [e1] at e
      have e : gall M s1 ms = some s' := e
      have l1 := gall_len e
      have e1' : gall M s [x] = some s1 := by unfold gall; rw [e1]; rfl
      have es : s1 = s := gall_same e1' (by omega)
      subst es
      rcases List.mem_cons.mp h with rfl | h
      · exact e1
      · exact gall_fix e l m h
/-- nothing more comes -/
structure Closed (M : Mach) (s : SS) : Prop where
  go : ∀ m ∈ s.C, ∃ p w t, entM M m = .go p w t ∧ (w = 1 → nw1 m p ∈ s.A ∧ ∀ y ∈ s.B, y.l.dropLast = m.d.l.drop 1 → mv1 m p t y ∈ s.C) ∧ (w ≠ 1 → nw2 m p ∈ s.B ∧ ∀ y ∈ s.A, y.l.drop 1 = m.a.l.dropLast → mv2 m p t y ∈ s.C)
theorem closed_of {M : Mach} {s : SS} (h : gall M s s.C = some s) : Closed M s := ⟨fun m hm => by
  have e := gall_fix h (Nat.le_refl _) m hm
  unfold gstep at e
  cases ee : entM M m with
  | emp => rw [ee] at e; cases e
  | go p w t =>
    rw [ee] at e
    dsimp only at e
    refine ⟨p, w, t, rfl, fun c => ?_, fun c => ?_⟩
    · rw [if_pos c] at e
      have e := Option.some.inj e
      have eA : adK s.A (nw1 m p) = s.A := congrArg SS.A e
      have eC : adKs s.C (more1 m p t s.B) = s.C := congrArg SS.C e
      refine ⟨by rw [← eA]; exact mem_adK.mpr (.inr rfl), fun y hy hd => ?_⟩
      rw [← eC]
      exact mem_adKs.mpr (.inr (List.mem_map.mpr ⟨y, List.mem_filter.mpr ⟨hy, decide_eq_true hd⟩, rfl⟩))
    · rw [if_neg c] at e
      have e := Option.some.inj e
      have eB : adK s.B (nw2 m p) = s.B := congrArg SS.B e
      have eC : adKs s.C (more2 m p t s.A) = s.C := congrArg SS.C e
      refine ⟨by rw [← eB]; exact mem_adK.mpr (.inr rfl), fun y hy hd => ?_⟩
      rw [← eC]
      exact mem_adKs.mpr (.inr (List.mem_map.mpr ⟨y, List.mem_filter.mpr ⟨hy, decide_eq_true hd⟩, rfl⟩))⟩
theorem Rn.pre {M : Mach} {s0 s : SS} (r : Rn M s0 s) : s0.A <+: s.A ∧ s0.B <+: s.B ∧ s0.C <+: s.C := by
  induction r with
  | refl => exact ⟨List.prefix_refl _, List.prefix_refl _, List.prefix_refl _⟩
  | step _ e ih =>
    obtain ⟨a, b, c⟩ := gall_pre e
    exact ⟨ih.1.trans a, ih.2.1.trans b, ih.2.2.trans c⟩
/-- a stretch of a strip -/
def strt (t : Int → Int) (f : Int) (n : Nat) : List Int := (List.range n).map fun j : Nat => t (f + (j : Int))
theorem strt_congr {t u : Int → Int} {f : Int} {n : Nat} (h : ∀ z, f ≤ z → z < f + n → t z = u z) : strt t f n = strt u f n :=
  List.map_congr_left fun j hj => h _ (by omega) (by have := List.mem_range.mp hj; omega)
theorem strt_succ (t : Int → Int) (f : Int) (n : Nat) : strt t f (n + 1) = strt t f n ++ [t (f + n)] := by
  unfold strt
  rw [List.range_succ, List.map_append]; rfl
theorem strt_cons (t : Int → Int) (f : Int) (n : Nat) : strt t f (n + 1) = t f :: strt t (f + 1) n := by
  unfold strt
  rw [List.range_succ_eq_map, List.map_cons, List.map_map]
  congr 1
  · show t (f + ((0 : Nat) : Int)) = t f
    rw [show f + ((0 : Nat) : Int) = f by omega]
  · refine List.map_congr_left fun j _ => ?_
    show t (f + ((j + 1 : Nat) : Int)) = t (f + 1 + (j : Int))
    rw [show f + ((j + 1 : Nat) : Int) = f + 1 + (j : Int) by omega]
theorem strt_drop (t : Int → Int) (f : Int) (n : Nat) : (strt t f (n + 1)).drop 1 = strt t (f + 1) n := by rw [strt_cons]; rfl
theorem strt_dl (t : Int → Int) (f : Int) (n : Nat) : (strt t f (n + 1)).dropLast = strt t f n := by rw [strt_succ, List.dropLast_concat]
theorem strt_len (t : Int → Int) (f : Int) (n : Nat) : (strt t f n).length = n := by unfold strt; rw [List.length_map, List.length_range]
/-- a setup of the law's own -/
structure IC where
  r : Int
  p : Int
  l : List PI
def tp (l : List PI) (z : Int) : Int := (look l z).getD 0
theorem tp_put (l : List PI) (x v y : Int) : tp (put l x v) y = if y = x then v else tp l y := by
  unfold tp
  rw [look_put]
  split <;> rfl
def midI (k : Nat) (c : IC) : Md := ⟨⟨strt (tp c.l) (c.p - k) k⟩, c.r, tp c.l c.p, ⟨strt (tp c.l) (c.p + 1) k⟩⟩
def stp (M : Mach) (c : IC) : Option IC := match entAt M c.r (tp c.l c.p) with
  | .emp => none
  | .go p w t => some ⟨t, c.p + w, put c.l c.p p⟩
/-- all stretches stand among the sets -/
structure Stands (k : Nat) (s : SS) (c : IC) : Prop where
  a : ∀ f : Int, f + k ≤ c.p → (⟨strt (tp c.l) f k⟩ : Wd) ∈ s.A
  b : ∀ f : Int, c.p < f → (⟨strt (tp c.l) f k⟩ : Wd) ∈ s.B
  m : midI k c ∈ s.C
theorem Stands.start {M : Mach} {k : Nat} {s : SS} (r : Rn M (start k) s) : Stands k s ⟨0, 0, []⟩ := by
  obtain ⟨a, b, c⟩ := r.pre
  have e : ∀ f : Int, strt (tp []) f k = List.replicate k 0 := fun f => by
    unfold strt
    rw [List.eq_replicate_iff]
    refine ⟨by rw [List.length_map, List.length_range], fun z hz => ?_⟩
    obtain ⟨j, _, rfl⟩ := List.mem_map.mp hz
    rfl
  refine ⟨fun f _ => ?_, fun f _ => ?_, ?_⟩
  · rw [e]; exact a.subset (List.mem_singleton.mpr rfl)
  · rw [e]; exact b.subset (List.mem_singleton.mpr rfl)
  · unfold midI
    dsimp only
    rw [e, e]; exact c.subset (List.mem_singleton.mpr rfl)
theorem Stands.step {M : Mach} {R S k : Nat} {s : SS} {c : IC} (hM : MOk M R S) (hk : 1 ≤ k) (ok : SSOk R S k s) (cl : Closed M s) (h : Stands k s c) : ∃ p w t, entAt M c.r (tp c.l c.p) = .go p w t ∧ Stands k s ⟨t, c.p + w, put c.l c.p p⟩ := by
  obtain ⟨p, w, t, e, h1, h2⟩ := cl.go _ h.m
  have cm := ok.c _ h.m
  obtain ⟨_, _, _, eo⟩ := ent_of hM cm.b.1 cm.b.2 cm.c.1 cm.c.2
  obtain ⟨o1, o2, o3⟩ := eo.ok _ _ _ e
  refine ⟨p, w, t, e, ?_⟩
  obtain ⟨n, rfl⟩ : ∃ n, k = n + 1 := ⟨k - 1, by omega⟩
  have ne : ∀ z, z ≠ c.p → tp (put c.l c.p p) z = tp c.l z := fun z hz => by rw [tp_put, if_neg hz]
  have at_ : tp (put c.l c.p p) c.p = p := by rw [tp_put, if_pos rfl]
  have cg : ∀ (f : Int) (j : Nat), (f + j ≤ c.p ∨ c.p < f) → strt (tp (put c.l c.p p)) f j = strt (tp c.l) f j := fun f j hf => strt_congr fun z z1 z2 => ne z (by omega)
  rcases o2 with rfl | rfl
  · -- to the left
    obtain ⟨hb, hc⟩ := h2 (by decide)
    have eb : nw2 (midI (n + 1) c) p = ⟨strt (tp (put c.l c.p p)) c.p (n + 1)⟩ := by
      show (⟨p :: (strt (tp c.l) (c.p + 1) (n + 1)).dropLast⟩ : Wd) = _
      rw [strt_dl, strt_cons, at_, cg _ _ (.inr (by omega))]
    refine ⟨fun f hf => ?_, fun f hf => ?_, ?_⟩
    · have hf : f + ((n + 1 : Nat) : Int) ≤ c.p + -1 := hf
      show (⟨strt (tp (put c.l c.p p)) f (n + 1)⟩ : Wd) ∈ s.A
      rw [cg _ _ (.inl (by omega))]
      exact h.a f (by omega)
    · have hf : c.p + -1 < f := hf
      show (⟨strt (tp (put c.l c.p p)) f (n + 1)⟩ : Wd) ∈ s.B
      by_cases x : f = c.p
      · rw [x, ← eb]; exact hb
      · rw [cg _ _ (.inr (by omega))]
        exact h.b f (by omega)
    · have q := hc ⟨strt (tp c.l) (c.p + -1 - ((n + 1 : Nat) : Int)) (n + 1)⟩ (h.a _ (by omega)) (by
        show (strt (tp c.l) (c.p + -1 - ((n + 1 : Nat) : Int)) (n + 1)).drop 1 = (strt (tp c.l) (c.p - ((n + 1 : Nat) : Int)) (n + 1)).dropLast
        rw [strt_drop, strt_dl]
        congr 1; omega)
      have e2 : midI (n + 1) ⟨t, c.p + -1, put c.l c.p p⟩ = mv2 (midI (n + 1) c) p t ⟨strt (tp c.l) (c.p + -1 - ((n + 1 : Nat) : Int)) (n + 1)⟩ := by
        unfold mv2
        rw [eb]
        unfold midI
        dsimp only
        rw [cg (c.p + -1 - ((n + 1 : Nat) : Int)) _ (.inl (by omega)), ne (c.p + -1) (by omega), strt_succ (tp c.l) (c.p - ((n + 1 : Nat) : Int)), List.getLastD_concat, show c.p + -1 + 1 = c.p by omega, show c.p - ((n + 1 : Nat) : Int) + (n : Int) = c.p + -1 by omega]
      rw [e2]; exact q
  · -- to the right
    obtain ⟨ha, hc⟩ := h1 rfl
    have ea : nw1 (midI (n + 1) c) p = ⟨strt (tp (put c.l c.p p)) (c.p + 1 - ((n + 1 : Nat) : Int)) (n + 1)⟩ := by
      show (⟨(strt (tp c.l) (c.p - ((n + 1 : Nat) : Int)) (n + 1)).drop 1 ++ [p]⟩ : Wd) = _
      rw [strt_drop, strt_succ, cg _ _ (.inl (by omega)), show c.p + 1 - ((n + 1 : Nat) : Int) + (n : Int) = c.p by omega, at_, show c.p - ((n + 1 : Nat) : Int) + 1 = c.p + 1 - ((n + 1 : Nat) : Int) by omega]
    refine ⟨fun f hf => ?_, fun f hf => ?_, ?_⟩
    · have hf : f + ((n + 1 : Nat) : Int) ≤ c.p + 1 := hf
      show (⟨strt (tp (put c.l c.p p)) f (n + 1)⟩ : Wd) ∈ s.A
      by_cases x : f = c.p + 1 - ((n + 1 : Nat) : Int)
      · rw [x, ← ea]; exact ha
      · rw [cg _ _ (.inl (by omega))]
        exact h.a f (by omega)
    · have hf : c.p + 1 < f := hf
      show (⟨strt (tp (put c.l c.p p)) f (n + 1)⟩ : Wd) ∈ s.B
      rw [cg _ _ (.inr (by omega))]
      exact h.b f (by omega)
    · have q := hc ⟨strt (tp c.l) (c.p + 1 + 1) (n + 1)⟩ (h.b _ (by omega)) (by
        show (strt (tp c.l) (c.p + 1 + 1) (n + 1)).dropLast = (strt (tp c.l) (c.p + 1) (n + 1)).drop 1
        rw [strt_drop, strt_dl])
      have e2 : midI (n + 1) ⟨t, c.p + 1, put c.l c.p p⟩ = mv1 (midI (n + 1) c) p t ⟨strt (tp c.l) (c.p + 1 + 1) (n + 1)⟩ := by
        unfold mv1
        rw [ea]
        unfold midI
        dsimp only
        rw [cg (c.p + 1 + 1) _ (.inr (by omega)), ne (c.p + 1) (by omega), strt_cons (tp c.l) (c.p + 1)]
        rfl
      rw [e2]; exact q
/-! ### closed sets, plainly -/
theorem adKs_in {α : Type} [DecidableEq α] : ∀ {xs ks : List α}, (∀ x ∈ xs, x ∈ ks) → adKs ks xs = ks
  | [], ks, _ => rfl
  | x :: xs, ks, h => by
    show adKs (adK ks x) xs = ks
    rw [adK_in (h x (List.mem_cons_self ..))]
    exact adKs_in fun y hy => h y (List.mem_cons_of_mem _ hy)
theorem closed_step {M : Mach} {s : SS} (h : Closed M s) {m : Md} (hm : m ∈ s.C) : gstep M s m = some s := by
  obtain ⟨p, w, t, e, h1, h2⟩ := h.go m hm
  unfold gstep
  rw [e]
  dsimp only
  by_cases c : w = 1
  · obtain ⟨a, b⟩ := h1 c
    rw [if_pos c, adK_in a, adKs_in fun x hx => ?_]
    obtain ⟨y, hy, rfl⟩ := List.mem_map.mp hx
    obtain ⟨hy, hd⟩ := List.mem_filter.mp hy
    exact b y hy (of_decide_eq_true hd)
  · obtain ⟨a, b⟩ := h2 c
    rw [if_neg c, adK_in a, adKs_in fun x hx => ?_]
    obtain ⟨y, hy, rfl⟩ := List.mem_map.mp hx
    obtain ⟨hy, hd⟩ := List.mem_filter.mp hy
    exact b y hy (of_decide_eq_true hd)
theorem closed_gall {M : Mach} {s : SS} (h : Closed M s) : ∀ {ms : List Md}, (∀ m ∈ ms, m ∈ s.C) → gall M s ms = some s
  | [], _ => rfl
  | m :: ms, hm => by
    unfold gall
    rw [closed_step h (hm m (List.mem_cons_self ..))]
    exact closed_gall h fun x hx => hm x (List.mem_cons_of_mem _ hx)
/-- all that the one has, the other has -/
structure SSub (s u : SS) : Prop where
  a : ∀ x ∈ s.A, x ∈ u.A
  b : ∀ x ∈ s.B, x ∈ u.B
  c : ∀ x ∈ s.C, x ∈ u.C
theorem gstep_sub {M : Mach} {s s' u : SS} {m : Md} (cl : Closed M u) (h : SSub s u) (hm : m ∈ u.C) (e : gstep M s m = some s') : SSub s' u := by
  obtain ⟨p, w, t, ee, h1, h2⟩ := cl.go m hm
  unfold gstep at e
  rw [ee] at e
  dsimp only at e
  by_cases c : w = 1
  · obtain ⟨ha, hb⟩ := h1 c
    rw [if_pos c] at e
    cases e
    refine ⟨fun x hx => ?_, h.b, fun x hx => ?_⟩
    · rcases mem_adK.mp hx with hx | rfl
      · exact h.a x hx
      · exact ha
    · rcases mem_adKs.mp hx with hx | hx
      · exact h.c x hx
      · obtain ⟨y, hy, rfl⟩ := List.mem_map.mp hx
        obtain ⟨hy, hd⟩ := List.mem_filter.mp hy
        exact hb y (h.b y hy) (of_decide_eq_true hd)
  · obtain ⟨ha, hb⟩ := h2 c
    rw [if_neg c] at e
    cases e
    refine ⟨h.a, fun x hx => ?_, fun x hx => ?_⟩
    · rcases mem_adK.mp hx with hx | rfl
      · exact h.b x hx
      · exact ha
    · rcases mem_adKs.mp hx with hx | hx
      · exact h.c x hx
      · obtain ⟨y, hy, rfl⟩ := List.mem_map.mp hx
        obtain ⟨hy, hd⟩ := List.mem_filter.mp hy
        exact hb y (h.a y hy) (of_decide_eq_true hd)
theorem gall_sub {M : Mach} {u : SS} (cl : Closed M u) : ∀ {ms : List Md} {s : SS}, SSub s u → (∀ m ∈ ms, m ∈ u.C) → ∃ s', gall M s ms = some s' ∧ SSub s' u
  | [], s, h, _ => ⟨s, rfl, h⟩
  | m :: ms, s, h, hm => by
    unfold gall
    have hmu := hm m (List.mem_cons_self ..)
    obtain ⟨p, w, t, ee, _, _⟩ := cl.go m hmu
    cases e : gstep M s m with
    | none =>
      exfalso
      unfold gstep at e
      rw [ee] at e
      dsimp only at e
      split at e <;> cases e
    | some s1 => exact gall_sub cl (gstep_sub cl h hmu e) fun x hx => hm x (List.mem_cons_of_mem _ hx)
theorem Rn.sub {M : Mach} {s0 s u : SS} (cl : Closed M u) (h0 : SSub s0 u) (r : Rn M s0 s) : SSub s u := by
  induction r with
  | refl => exact h0
  | step _ e ih =>
    obtain ⟨s', e', h'⟩ := gall_sub cl ih ih.c
    rw [e] at e'
    cases e'
    exact h'
theorem Rn.some {M : Mach} {s0 s u : SS} (cl : Closed M u) (h0 : SSub s0 u) (r : Rn M s0 s) : gall M s s.C ≠ none := by
  have h := r.sub cl h0
  obtain ⟨s', e', _⟩ := gall_sub cl h h.c
  rw [e']
  exact fun z => nomatch z
theorem Rn.start_sub {M : Mach} {s0 s : SS} (r : Rn M s0 s) : SSub s0 s := by
  obtain ⟨a, b, c⟩ := r.pre
  exact ⟨fun x hx => a.subset hx, fun x hx => b.subset hx, fun x hx => c.subset hx⟩
theorem perm_of_sub {α : Type} {l m : List α} (hl : l.Nodup) (hm : m.Nodup) (h : ∀ x ∈ l, x ∈ m) (h' : ∀ x ∈ m, x ∈ l) : l.Perm m :=
  (List.perm_ext_iff_of_nodup hl hm).mpr fun x => ⟨h x, h' x⟩
theorem le_ltD {α : Type} [Dat α] (a b : α) : PySem.W.dataLe false Dat.py a b = !ltD b a := by
  rw [PySem.W.dataLe_eq]; rfl
theorem sortD_eq {α : Type} [Dat α] [Lk α] {l m : List α} (h : l.Perm m) : sortD l = sortD m := by
  have tr : ∀ a b c : α, PySem.W.dataLe false Dat.py a b = true → PySem.W.dataLe false Dat.py b c = true → PySem.W.dataLe false Dat.py a c = true := fun a b c h k => by
    rw [le_ltD] at h k ⊢
    cases e : ltD c a with
    | false => rfl
    | true =>
      rcases ltD_neg (b := b) e with z | z
      · rw [z] at k; cases k
      · rw [z] at h; cases h
  have to : ∀ a b : α, (PySem.W.dataLe false Dat.py a b || PySem.W.dataLe false Dat.py b a) = true := fun a b => by
    rw [le_ltD, le_ltD]
    cases e : ltD b a with
    | false => rfl
    | true =>
      cases e2 : ltD a b with
      | false => rfl
      | true => have := ltD_tr e e2; rw [ltD_irr] at this; cases this
  have pl := List.pairwise_mergeSort (le := PySem.W.dataLe false Dat.py) tr to l
  have pm := List.pairwise_mergeSort (le := PySem.W.dataLe false Dat.py) tr to m
  refine List.Perm.eq_of_pairwise (le := fun a b => PySem.W.dataLe false Dat.py a b = true) (fun a b _ _ h k => ?_) pl pm (((sortD_perm l).trans h).trans (sortD_perm m).symm)
  rw [le_ltD] at h k
  exact ltD_tot (by simpa using k) (by simpa using h)
theorem mem_sD {α : Type} [Dat α] {l : List α} {x : α} : x ∈ sortD l ↔ x ∈ l := (sortD_perm l).mem_iff
/-! ### five -/
structure T5 (α β γ δ ε : Type) where
  a : α
  b : β
  c : γ
  d : δ
  e : ε
  deriving DecidableEq
instance [Dat α] [Dat β] [Dat γ] [Dat δ] [Dat ε] : Dat (T5 α β γ δ ε) where
  rep := fun H v q => ∃ p x1 x2 x3 x4 x5, v = .ref p ∧ H p = some (.tup [x1, x2, x3, x4, x5]) ∧ Is H x1 q.a ∧ Is H x2 q.b ∧ Is H x3 q.c ∧ Is H x4 q.d ∧ Is H x5 q.e
  mono := fun s h => by
    obtain ⟨p, x1, x2, x3, x4, x5, e, h, i1, i2, i3, i4, i5⟩ := h
    exact ⟨p, x1, x2, x3, x4, x5, e, s _ _ h, Is.up i1 s, Is.up i2 s, Is.up i3 s, Is.up i4 s, Is.up i5 s⟩
  py := fun q => .tuple [Dat.py q.a, Dat.py q.b, Dat.py q.c, Dat.py q.d, Dat.py q.e]
  dp := fun h => by
    obtain ⟨p, x1, x2, x3, x4, x5, rfl, h, i1, i2, i3, i4, i5⟩ := h
    exact .tup (SqT.of h) (.cons (Dat.dp i1) (.cons (Dat.dp i2) (.cons (Dat.dp i3) (.cons (Dat.dp i4) (.cons (Dat.dp i5) .nil)))))
  can := fun q => by
    show (PyData.canLay0 (Dat.py q.a) && (PyData.canLay0 (Dat.py q.b) && (PyData.canLay0 (Dat.py q.c) && (PyData.canLay0 (Dat.py q.d) && (PyData.canLay0 (Dat.py q.e) && true))))) = true
    rw [Dat.can, Dat.can, Dat.can, Dat.can, Dat.can]; rfl
  dep := max (Dat.dep α) (max (Dat.dep β) (max (Dat.dep γ) (max (Dat.dep δ) (Dat.dep ε)))) + 1
  depth := fun q => by
    have h1 := Dat.depth q.a
    have h2 := Dat.depth q.b
    have h3 := Dat.depth q.c
    have h4 := Dat.depth q.d
    have h5 := Dat.depth q.e
    show max (PyData.depth (Dat.py q.a)) (max (PyData.depth (Dat.py q.b)) (max (PyData.depth (Dat.py q.c)) (max (PyData.depth (Dat.py q.d)) (max (PyData.depth (Dat.py q.e)) 0)))) + 1 ≤ _
    omega
  eqv := fun a b => by
    obtain ⟨a1, a2, a3, a4, a5⟩ := a; obtain ⟨b1, b2, b3, b4, b5⟩ := b
    simp [PyData.eqv, PyData.eqvAll, Dat.eqv]
/-! ### closed sets and their papers -/
theorem ShO_at {H F H1 : Hp} {T : Addr} {k : Nat} {s : SS} (h : ShO H F H1 T k s) (g : Same F H1) : ShAt H1 T k s := by
  obtain ⟨a, b, c, xs, ys, zs, hT, wa, wb, wc, _, _, _, ia, ib, ic⟩ := h
  exact ⟨a, b, c, xs, ys, zs, g _ _ hT, wa.h, wb.h, wc.h, IsAll.up ia g, IsAll.up ib g, IsAll.up ic g⟩
/-- the same sets -/
theorem sets_eq {R S k : Nat} {s u : SS} (hs : SSOk R S k s) (hu : SSOk R S k u) (h : SSub s u) (h' : SSub u s) : sortD s.A = sortD u.A ∧ sortD s.B = sortD u.B ∧ sortD s.C = sortD u.C := by
  have eA : s.A.Perm u.A := perm_of_sub hs.na hu.na h.a h'.a
  have eB : s.B.Perm u.B := perm_of_sub hs.nb hu.nb h.b h'.b
  refine ⟨?_, ?_, sortD_eq (perm_of_sub hs.nc hu.nc h.c h'.c)⟩
  · exact sortD_eq eA
  · exact sortD_eq eB
theorem Closed.same {M : Mach} {s u : SS} (h : Closed M s) (a : ∀ x, x ∈ u.A ↔ x ∈ s.A) (b : ∀ x, x ∈ u.B ↔ x ∈ s.B) (c : ∀ x, x ∈ u.C ↔ x ∈ s.C) : Closed M u := ⟨fun m hm => by
  obtain ⟨p, w, t, e, h1, h2⟩ := h.go m ((c m).mp hm)
  exact ⟨p, w, t, e, fun x => ⟨(a _).mpr (h1 x).1, fun y hy hd => (c _).mpr ((h1 x).2 y ((b y).mp hy) hd)⟩, fun x => ⟨(b _).mpr (h2 x).1, fun y hy hd => (c _).mpr ((h2 x).2 y ((a y).mp hy) hd)⟩⟩⟩
theorem shut_ok {M : Mach} {R S k : Nat} {s : SS} (hw : isW S k = true) (ok : SSOk R S k s) (st : SSub (start k) s) (cl : Closed M s) : ShutOk M R S k (sortD s.A) (sortD s.B) (sortD s.C) := by
  refine ⟨hw, ?_, ?_, ?_, ?_, ?_, ?_, ?_⟩
  · exact List.all_eq_true.mpr fun x hx => okM_iff.mpr (ok.c x (mem_sD.mp hx))
  · exact List.all_eq_true.mpr fun x hx => okW_iff.mpr (ok.a x (mem_sD.mp hx))
  · exact List.all_eq_true.mpr fun x hx => okW_iff.mpr (ok.b x (mem_sD.mp hx))
  · rw [Int.toNat_natCast]; exact mem_sD.mpr (st.a _ (List.mem_singleton.mpr rfl))
  · rw [Int.toNat_natCast]; exact mem_sD.mpr (st.b _ (List.mem_singleton.mpr rfl))
  · rw [Int.toNat_natCast]; exact mem_sD.mpr (st.c _ (List.mem_singleton.mpr rfl))
  · refine closed_gall (cl.same (fun x => ?_) (fun x => ?_) (fun x => ?_)) (fun m h => h)
    · exact mem_adKs.trans ⟨fun h => mem_sD.mp (h.resolve_left (fun z => nomatch z)), fun h => .inr (mem_sD.mpr h)⟩
    · exact mem_adKs.trans ⟨fun h => mem_sD.mp (h.resolve_left (fun z => nomatch z)), fun h => .inr (mem_sD.mpr h)⟩
    · exact mem_adKs.trans ⟨fun h => mem_sD.mp (h.resolve_left (fun z => nomatch z)), fun h => .inr (mem_sD.mpr h)⟩
abbrev Pap := T5 TStr Int (List Wd) (List Wd) (List Md)
def papOf (k : Nat) (s : SS) : Pap := ⟨tShut, k, sortD s.A, sortD s.B, sortD s.C⟩
theorem ShAt_up {F F' : Hp} {T : Addr} {k : Nat} {s : SS} (h : ShAt F T k s) (g : Same F F') : ShAt F' T k s := by
  obtain ⟨a, b, c, xs, ys, zs, h1, h2, h3, h4, h5, h6, h7⟩ := h
  exact ⟨a, b, c, xs, ys, zs, g _ _ h1, g _ _ h2, g _ _ h3, g _ _ h4, IsAll.up h5 g, IsAll.up h6 g, IsAll.up h7 g⟩
theorem ShAt.is {F : Hp} {T : Addr} {k : Nat} {s : SS} (h : ShAt F T k s) : Is F (.ref T) (papOf k s) := by
  obtain ⟨a, b, c, xs, ys, zs, hT, ha, hb, hc, ia, ib, ic⟩ := h
  exact ⟨T, _, _, _, _, _, rfl, hT, rfl, rfl, ⟨a, xs, rfl, ha, ia⟩, ⟨b, ys, rfl, hb, ib⟩, ⟨c, zs, rfl, hc, ic⟩⟩
/-! ### the law's looker of shut papers -/
theorem pow9 {S : Nat} (h2 : 2 ≤ S) {n : Nat} (hn : 9 ≤ n) : 16 < S ^ n := by
  calc 16 < 2 ^ 9 := by decide
    _ ≤ 2 ^ n := Nat.pow_le_pow_right (by decide) hn
    _ ≤ S ^ n := Nat.pow_le_pow_left h2 n
def cap9 (w : Int) : Int := if (9 : Int) < (if w > 0 then w else 0) then 9 else (if w > 0 then w else 0)
theorem cap9_ok (w : Int) : 0 ≤ cap9 w ∧ cap9 w ≤ 9 := by
  unfold cap9
  split <;> split <;> omega
theorem cap9_eq {w : Int} (h : 1 ≤ w) (k : w < 9) : cap9 w = w := by
  unfold cap9
  rw [if_pos (by omega : w > 0), if_neg (by omega)]
def sp_L_is_width : Sp := fun vs H Q _ => ∃ (S : Nat) (w : Int), vs = [.int S, .int w] ∧ 2 ≤ S ∧ S ≤ 4 ∧ Q (.bl (isW S w)) H
theorem ok_L_is_width (t : Tx K mg) : FnOk P w K mg base CX0 1 t.a_L_is_width t.fd_L_is_width ["_law_signs", "_law_width"] sp_L_is_width := by
  refine t.F_L_is_width.ok sc_L_is_width (fun vs H Q E h => ?_) (fun cdv A outer s H vs Q E hr h => ?_)
  · obtain ⟨S, w, rfl, _⟩ := h
    rfl
  · obtain ⟨S, w, rfl, S2, S4, q⟩ := h
    refine ⟨_, (pss_cons (ps_set (i := 2) sc_L_is_width.nd rfl (by first | exact Or.inl rfl | exact Or.inr rfl) pe_int)
      (pss_cons (ps_for PassesOwn.never rfl (pi_range1 (by rfl) t.n_range (pa_cons (pe_callB (id := "min") (call_min2 rfl) (by rfl) t.n_min (by decide +kernel) (pa_cons (pe_callB (id := "max") (call_max2 rfl) (by rfl) t.n_max (by decide +kernel) (pa_cons pe_int (pa_cons (pv 1) pa_nil))) (pa_cons pe_int pa_nil))) pa_nil)) (pg_name (i := 3) sc_L_is_width.nd rfl (by first | exact Or.inl rfl | exact Or.inr rfl)) (pss_one (ps_set (i := 2) sc_L_is_width.nd rfl (by first | exact Or.inl rfl | exact Or.inr rfl) (pe_op op_mul (pv 2) (pv 0)))))
      (pss_one (ps_ret (pe_and (pe_chain op_le op_lt pe_int (pv 1) pe_int) (pe_one (pe_cmpR op_le (pv 2) pe_int (nomark _)))))))), ?_⟩
    have c9 := cap9_ok w
    refine ⟨_, rfl, 0, w, rfl, _, 9, rfl, cap9 w, rfl, by omega, by omega, for_range (lo := 0) (n := (cap9 w).toNat) (fun i σ G => ∃ v3, σ = [some (.int S), some (.int w), some (.int ((S ^ i : Nat) : Int)), v3] ∧ G = H) ⟨none, rfl, rfl⟩ ?_ ?_⟩
    · rintro i σ G hi ⟨v3, rfl, rfl⟩
      have b := pow_big S4 i (by omega)
      refine ⟨_, rfl, _, rfl, _, _, rfl, rfl, .inl ⟨by omega, by omega⟩, some (.int (0 + (i : Int))), ?_, rfl⟩
      show [some (V.int S), some (V.int w), some (V.int (((S ^ i : Nat) : Int) * (S : Int))), some (V.int (0 + (i : Int)))] = _
      rw [← Int.natCast_mul, ← Nat.pow_succ]
    · rintro σ G ⟨v3, rfl, rfl⟩
      refine ⟨_, rfl, _, _, rfl, rfl, _, rfl, ?_⟩
      unfold isW at q
      by_cases c : 1 ≤ w
      · refine ifT (decide_eq_true c) ⟨_, _, rfl, rfl, _, rfl, ?_⟩
        by_cases c2 : w < 9
        · refine ifT (decide_eq_true c2) ⟨_, rfl, _, _, rfl, rfl, ?_⟩
          rw [cap9_eq c c2]
          show Q (.bl (decide (((S ^ w.toNat : Nat) : Int) ≤ 16))) G
          rw [show decide (((S ^ w.toNat : Nat) : Int) ≤ 16) = decide (1 ≤ w ∧ w ≤ 16 ∧ S ^ w.toNat ≤ 16) from by
            congr 1
            exact propext ⟨fun z => ⟨by omega, by omega, by omega⟩, fun z => by omega⟩]
          exact q
        · refine ifF (decide_eq_false c2) ?_
          have := pow9 S2 (n := w.toNat) (by omega)
          rw [decide_eq_false (by omega)] at q
          exact q
      · refine ifF (decide_eq_false c) ⟨_, rfl, ?_⟩
        refine ifF rfl ?_
        rw [decide_eq_false (by omega)] at q
        exact q
theorem okW_law {S : Nat} {w : Int} {x : Wd} : okW S w x = if (x.l.length : Int) = w then decide (((x.l.filter fun z => decide (0 ≤ z) && decide (z < (S : Int))).length : Int) = w) else false := by
  unfold okW
  by_cases c : (x.l.length : Int) = w
  · rw [if_pos c, decide_eq_true c, Bool.true_and]
    have e := List.length_filter_eq_length_iff (l := x.l) (p := fun z => decide (0 ≤ z) && decide (z < (S : Int)))
    rw [Bool.eq_iff_iff, List.all_eq_true, decide_eq_true_iff, ← c, Int.natCast_inj, e]
  · rw [if_neg c, decide_eq_false c, Bool.false_and]
def sp_L_word_fine : Sp := fun vs H Q _ => ∃ (F : Hp) (b : Addr) (x : Wd) (w : Int) (S : Nat), vs = [.ref b, .int w, .int S] ∧ Same F H ∧ F b = some (.tup (x.l.map V.int)) ∧ x.l.length ≤ 100000 ∧ ∀ H', Gr mu0 F H F H' → Q (.bl (okW S w x)) H'
theorem ok_L_word_fine (t : Tx K mg) : FnOk P w K mg base CX0 1 t.a_L_word_fine t.fd_L_word_fine ["_law_word", "_law_width", "_law_signs"] sp_L_word_fine := by
  refine t.F_L_word_fine.ok sc_L_word_fine (fun vs H Q E h => ?_) (fun cdv A outer s H vs Q E hr h => ?_)
  · obtain ⟨F, b, x, w, S, rfl, _⟩ := h
    rfl
  · obtain ⟨F, b, x, w, S, rfl, sF, hb, lx, q⟩ := h
    refine ⟨_, (pss_one (ps_ret (pe_and (pe_cmpR op_eq (pe_callB (id := "len") call_lenQ (by rfl) t.n_len (by decide +kernel) (pa_cons (pv 0) pa_nil)) (pv 1) (nomark _)) (pe_one (pe_cmpR op_eq (pe_callB (id := "len") call_lenQ (by rfl) t.n_len (by decide +kernel) (pa_cons (pe_lc (own := [("_law_sign", 3)]) (g := gName 3) rfl sc_L_word_fine.nd (pi_tup (pv 0)) (blkOk_by (N := N_L_word_fine) (sc := defScope s_L_word_fine) (by decide +kernel)) (fun _ _ _ _ _ => (pg_name (i := 3) sc_L_word_fine.nd rfl (by first | exact Or.inl rfl | exact Or.inr rfl))) (fun _ _ _ _ _ => (pts_one (pt_chain op_le op_lt pe_int (pv 3) (pv 2)))) (fun _ _ _ _ _ => (pv 3))) pa_nil)) (pv 1) (nomark _)))))), ?_⟩
    have g0 : Gr mu0 F H F H := Gr.refl sF
    rw [okW_law] at q
    refine ⟨_, rfl, b, _, rfl, .inr (SqT.of (sF _ _ hb)), _, rfl, rfl, _, rfl, ?_⟩
    rw [List.length_map, eqvi]
    by_cases c1 : (x.l.length : Int) = w
    · rw [if_pos c1] at q
      refine ifT (decide_eq_true c1) ?_
      refine ⟨_, rfl, b, rfl, ⟨_, SqT.of (g0.fh _ _ hb)⟩, fun D nD => lc_tup (K := K) (a := b) (xs := x.l.map V.int) (fun j G2 => Gr mu0 F H F G2 ∧ Ow H F G2 D (.lst (((x.l.take j).filter fun z => decide (0 ≤ z) && decide (z < (S : Int))).map V.int)))
        ⟨g0.own nD, Ow.mk1 g0 nD⟩ (fun j G2 _ ⟨g, _⟩ => SqT.of (g.fh _ _ hb)) ?_ ?_⟩
      · rintro j y G2 hj ⟨g2, w2⟩
        rw [List.getElem?_map] at hj
        obtain ⟨z, hz, rfl⟩ := Option.map_eq_some_iff.mp hj
        have ll : (((x.l.take j).filter fun z => decide (0 ≤ z) && decide (z < (S : Int))).map V.int).length < sizeLine := by
          rw [List.length_map]
          have := List.length_filter_le (fun z => decide (0 ≤ z) && decide (z < (S : Int))) (x.l.take j)
          rw [List.length_take] at this
          exact lt_size (by omega)
        have st : x.l.take (j + 1) = x.l.take j ++ [z] := by rw [List.take_add_one, hz]; rfl
        have no : (decide (0 ≤ z) && decide (z < (S : Int))) = false → (((x.l.take (j + 1)).filter fun z => decide (0 ≤ z) && decide (z < (S : Int))).map V.int) = (((x.l.take j).filter fun z => decide (0 ≤ z) && decide (z < (S : Int))).map V.int) := fun e => by
          rw [st, List.filter_append, List.filter_cons_of_neg (by rw [e]; decide), List.filter_nil, List.append_nil]
        refine ⟨rfl, _, rfl, _, _, rfl, rfl, _, rfl, ?_⟩
        by_cases c : 0 ≤ z
        · refine ifT (decide_eq_true c) ⟨_, rfl, _, _, rfl, rfl, _, rfl, ?_⟩
          by_cases c2 : z < (S : Int)
          · refine ifT (decide_eq_true c2) ⟨_, rfl, _, w2.h, ll, g2.set w2.f (.inl w2.n), ?_⟩
            rw [st, List.filter_append, List.filter_cons_of_pos (by rw [decide_eq_true c, decide_eq_true c2]; rfl), List.filter_nil, List.map_append]
            exact w2.set
          · refine ifF (decide_eq_false c2) ?_
            rw [no (by rw [decide_eq_false c2, Bool.and_false])]
            exact ⟨g2, w2⟩
        · refine ifF (decide_eq_false c) ⟨_, rfl, ifF rfl ?_⟩
          rw [no (by rw [decide_eq_false c, Bool.false_and])]
          exact ⟨g2, w2⟩
      · rintro G2 ⟨g2, w2⟩
        rw [List.length_map, List.take_length] at w2
        refine ⟨D, _, rfl, .inl (SqL.of w2.h), _, rfl, rfl, ?_⟩
        rw [List.length_map, eqvi]
        exact q _ g2
    · rw [if_neg c1] at q
      refine ifF (decide_eq_false c1) ?_
      exact q _ g0
/-- what the law's looker finds -/
def LookOk (M : Mach) (s : SS) (m : Md) : Prop := ∃ p w t, entM M m = .go p w t ∧ (w = 1 → nw1 m p ∈ s.A ∧ ∀ y ∈ s.B, y.l.dropLast = m.d.l.drop 1 → mv1 m p t y ∈ s.C) ∧ (w ≠ 1 → nw2 m p ∈ s.B ∧ ∀ y ∈ s.A, y.l.drop 1 = m.a.l.dropLast → mv2 m p t y ∈ s.C)
theorem mem_ad0 {α : Type} [DecidableEq α] {x : α} {l : List α} : x ∈ adKs [] l ↔ x ∈ l := ⟨fun h => (mem_adKs.mp h).resolve_left List.not_mem_nil, fun h => mem_adKs.mpr (.inr h)⟩
theorem shut_closed {M : Mach} {R S : Nat} {w : Int} {A B : List Wd} {C : List Md} (h : ShutOk M R S w A B C) : Closed M ⟨A, B, C⟩ := (closed_of h.cl).same (fun _ => mem_ad0.symm) (fun _ => mem_ad0.symm) (fun _ => mem_ad0.symm)
theorem closed_shut {M : Mach} {A B : List Wd} {C : List Md} (h : Closed M ⟨A, B, C⟩) : gall M (setOf A B C) (setOf A B C).C = some (setOf A B C) :=
  closed_gall (h.same (fun _ => mem_ad0) (fun _ => mem_ad0) (fun _ => mem_ad0)) fun m h => h
def sp_L_good : Sp := fun vs H Q _ => ∃ (F : Hp) (m : V) (M : Mach) (R S : Nat) (T : Addr) (kd : Str) (wi : Int) (A B : List Wd) (C : List Md), vs = [m, .ref T] ∧ Same F H ∧ Is F m M ∧ MOk M R S ∧ PaAt F T kd wi A B C ∧ A.length ≤ 20000 ∧ B.length ≤ 20000 ∧ C.length ≤ 20000 ∧ (∀ x ∈ A, x.l.length ≤ 100000) ∧ (∀ x ∈ B, x.l.length ≤ 100000) ∧ (∀ x ∈ C, x.a.l.length ≤ 100000 ∧ x.d.l.length ≤ 100000) ∧
  (ShutOk M R S wi A B C → ∀ F' H', Gr mu0 F H F' H' → Q (.bl true) H') ∧ (¬ ShutOk M R S wi A B C → ∀ F' H', Gr mu0 F H F' H' → Q (.bl false) H')
theorem ok_L_good (t : Tx K mg) : FnOk P w K mg base CX0 2 t.a_L_good t.fd_L_good ["_law_machine_here", "_law_paper"] sp_L_good := by
  refine t.F_L_good.ok sc_L_good (fun vs H Q E h => ?_) (fun cdv A outer s H vs Q E hr h => ?_)
  · obtain ⟨F, m, M, R, S, T, kd, wi, A, B, C, rfl, _⟩ := h
    rfl
  · obtain ⟨F, m, M, R, S, T, kd, wi, LA, LB, LC, rfl, sF, hm, hM, hT, nA, nB, nC, bA, bB, bC, qt, qf⟩ := h
    refine ⟨_, (pss_cons (ps_asg (pv 1) (pg_tup rfl (pgs_cons (pg_name (i := 2) sc_L_good.nd rfl (by first | exact Or.inl rfl | exact Or.inr rfl)) (pgs_cons (pg_name (i := 3) sc_L_good.nd rfl (by first | exact Or.inl rfl | exact Or.inr rfl)) (pgs_cons (pg_name (i := 4) sc_L_good.nd rfl (by first | exact Or.inl rfl | exact Or.inr rfl)) (pgs_cons (pg_name (i := 5) sc_L_good.nd rfl (by first | exact Or.inl rfl | exact Or.inr rfl)) (pgs_cons (pg_name (i := 6) sc_L_good.nd rfl (by first | exact Or.inl rfl | exact Or.inr rfl)) pgs_nil)))))))
      (pss_cons (ps_set (i := 7) sc_L_good.nd rfl (by first | exact Or.inl rfl | exact Or.inr rfl) (pe_callB (id := "len") call_lenQ (by rfl) t.n_len (by decide +kernel) (pa_cons (pe_ix ix_list (pv 0) pe_int (fun _ _ => rfl)) pa_nil)))
      (pss_cons (ps_if (pt_not (pt_val (pe_call (ok_L_is_width t) (hr.mono (by decide)) (by rfl) t.m_L_is_width t.F_L_is_width.kp t.b_L_is_width .nil pass0 (pa_cons (pv 7) (pa_cons (pv 3) pa_nil))))) (pss_one (ps_ret pe_bl)) pss_nil)
      (pss_cons (ps_for PassesOwn.never rfl (pi_list (pe_op op_cat (pv 4) (pv 5))) (pg_name (i := 8) sc_L_good.nd rfl (by first | exact Or.inl rfl | exact Or.inr rfl)) (pss_one (ps_if (pt_not (pt_val (pe_call (ok_L_word_fine t) (hr.mono (by decide)) (by rfl) t.m_L_word_fine t.F_L_word_fine.kp t.b_L_word_fine .nil pass0 (pa_cons (pv 8) (pa_cons (pv 3) (pa_cons (pv 7) pa_nil)))))) (pss_one (ps_ret pe_bl)) pss_nil)))
      (pss_cons (ps_for PassesOwn.never rfl (pi_list (pv 6)) (pg_tup rfl (pgs_cons (pg_name (i := 9) sc_L_good.nd rfl (by first | exact Or.inl rfl | exact Or.inr rfl)) (pgs_cons (pg_name (i := 10) sc_L_good.nd rfl (by first | exact Or.inl rfl | exact Or.inr rfl)) (pgs_cons (pg_name (i := 11) sc_L_good.nd rfl (by first | exact Or.inl rfl | exact Or.inr rfl)) (pgs_cons (pg_name (i := 12) sc_L_good.nd rfl (by first | exact Or.inl rfl | exact Or.inr rfl)) pgs_nil))))) (pss_cons (ps_if (PW.pt (pw_or (pt_not (pt_val (pe_call (ok_L_word_fine t) (hr.mono (by decide)) (by rfl) t.m_L_word_fine t.F_L_word_fine.kp t.b_L_word_fine .nil pass0 (pa_cons (pv 9) (pa_cons (pv 3) (pa_cons (pv 7) pa_nil)))))) (pw_or1 (pt_not (pt_val (pe_call (ok_L_word_fine t) (hr.mono (by decide)) (by rfl) t.m_L_word_fine t.F_L_word_fine.kp t.b_L_word_fine .nil pass0 (pa_cons (pv 12) (pa_cons (pv 3) (pa_cons (pv 7) pa_nil))))))))) (pss_one (ps_ret pe_bl)) pss_nil)
      (pss_one (ps_if (PW.pt (pw_or (pt_not (pt_chain op_le op_lt pe_int (pv 10) (pe_callB (id := "len") call_lenQ (by rfl) t.n_len (by decide +kernel) (pa_cons (pv 0) pa_nil)))) (pw_or1 (pt_not (pt_chain op_le op_lt pe_int (pv 11) (pv 7)))))) (pss_one (ps_ret pe_bl)) pss_nil))))
      (pss_cons (ps_set (i := 13) sc_L_good.nd rfl (by first | exact Or.inl rfl | exact Or.inr rfl) (pe_op op_repW (pe_tup (pa_cons pe_int pa_nil)) (pv 3)))
      (pss_cons (ps_if (PW.pt (pw_or (pt_cmpR (op_notInD (u65 hr)) (pv 13) (pv 4) (by rfl)) (pw_or (pt_cmpR (op_notInD (u65 hr)) (pv 13) (pv 5) (by rfl)) (pw_or1 (pt_cmpR (op_notInD (u65 hr)) (pe_tup (pa_cons (pv 13) (pa_cons pe_int (pa_cons pe_int (pa_cons (pv 13) pa_nil))))) (pv 6) (by rfl)))))) (pss_one (ps_ret pe_bl)) pss_nil)
      (pss_cons (ps_for PassesOwn.never rfl (pi_list (pv 6)) (pg_name (i := 14) sc_L_good.nd rfl (by first | exact Or.inl rfl | exact Or.inr rfl)) (pss_cons (ps_set (i := 15) sc_L_good.nd rfl (by first | exact Or.inl rfl | exact Or.inr rfl) (pe_call (ok_L_asked_by t) (hr.mono (by decide)) (by rfl) t.m_L_asked_by t.F_L_asked_by.kp t.b_L_asked_by .nil pass0 (pa_cons (pv 0) (pa_cons (pv 14) (pa_cons (pv 4) (pa_cons (pv 5) pa_nil))))))
      (pss_cons (ps_if (pt_cmpR op_isN (pv 15) pe_non (nomark _)) (pss_one (ps_ret pe_bl)) pss_nil)
      (pss_cons (ps_asg (pv 15) (pg_tup rfl (pgs_cons (pg_name (i := 16) sc_L_good.nd rfl (by first | exact Or.inl rfl | exact Or.inr rfl)) (pgs_cons (pg_name (i := 8) sc_L_good.nd rfl (by first | exact Or.inl rfl | exact Or.inr rfl)) (pgs_cons (pg_name (i := 17) sc_L_good.nd rfl (by first | exact Or.inl rfl | exact Or.inr rfl)) pgs_nil)))))
      (pss_cons (ps_if (PW.pt (pw_or (PW.pt (pw_and (pt_cmpR op_eq (pv 16) pe_str (nomark _)) (pw_and1 (pt_cmpR (op_notInD (u65 hr)) (pv 8) (pv 4) (by rfl))))) (pw_or1 (PW.pt (pw_and (pt_cmpR op_eq (pv 16) pe_str (nomark _)) (pw_and1 (pt_cmpR (op_notInD (u65 hr)) (pv 8) (pv 5) (by rfl)))))))) (pss_one (ps_ret pe_bl)) pss_nil)
      (pss_one (ps_if (pt_cmpR op_gt (pe_callB (id := "len") call_lenQ (by rfl) t.n_len (by decide +kernel) (pa_cons (pe_lc (own := [("_law_one", 18)]) (g := gName 18) rfl sc_L_good.nd (pi_list (pv 17)) (blkOk_by (N := N_L_good) (sc := defScope s_L_good) (by decide +kernel)) (fun _ _ _ _ _ => (pg_name (i := 18) sc_L_good.nd rfl (by first | exact Or.inl rfl | exact Or.inr rfl))) (fun _ _ _ _ _ => (pts_one (pt_cmpR (orK (K := K) (r := rNotInD) rfl (op_notInD (u65 hr))) (pv 18) (pv 6) (by rfl)))) (fun _ _ _ _ _ => (pv 18))) pa_nil)) pe_int (nomark _)) (pss_one (ps_ret pe_bl)) pss_nil)))))))
      (pss_one (ps_ret pe_bl)))))))))), ?_⟩
    have g0 : Gr mu0 F H F H := Gr.refl sF
    have s2 := hM.s2
    have s4 := hM.s4
    obtain ⟨ta, tb, tc, xs, ys, zs, hTT, hta, htb, htc, ia, ib, ic⟩ := id hT
    obtain ⟨am, rws, rfl, ham, hrs⟩ := id hm
    have lrs : rws.length = R := hrs.1.trans hM.len
    have hr0 : 0 < M.length := by rw [hM.len]; exact hM.r1
    obtain ⟨v0, h0, ⟨a0, es, rfl, ha0, hes⟩⟩ := hrs.get (List.getElem?_eq_getElem hr0)
    have les : es.length = S := hes.1.trans (hM.row _ (List.getElem_mem hr0))
    refine ⟨_, rfl, T, _, rfl, SqT.of (sF _ _ hTT), rfl, _, _, rfl, _, _, rfl, _, _, rfl, _, _, rfl, _, _, rfl, rfl, ?_⟩
    refine ⟨_, rfl, am, rws, _, _, rfl, rfl, SqL.of (sF _ _ ham), atI_nat (j := 0) h0, a0, es, rfl, .inl (SqL.of (sF _ _ ha0)), ?_⟩
    rw [les]
    refine ⟨_, rfl, _, rfl, S, wi, rfl, s2, s4, _, rfl, ?_⟩
    cases ew : isW S wi with
    | false =>
      refine ifT rfl ?_
      exact qf (fun z => by have := z.wd; rw [ew] at this; cases this) F H g0
    | true =>
    refine ifF rfl ?_
    have hw' := of_decide_eq_true ew
    obtain ⟨k, rfl⟩ : ∃ k : Nat, wi = (k : Int) := Int.eq_ofNat_of_zero_le (by omega)
    refine ⟨_, rfl, _, rfl, ta, tb, _, _, rfl, rfl, sF _ _ hta, sF _ _ htb, le_size (by rw [ia.1, ib.1]; omega), fun L nL => ?_⟩
    have g1 := g0.new (o := .lst (xs ++ ys)) nL
    have hL : (upd F L (.lst (xs ++ ys))) L = some (.lst (xs ++ ys)) := upd_same
    have aL := (IsAll.up ia g1.ff).app (IsAll.up ib g1.ff)
    generalize upd F L (.lst (xs ++ ys)) = F1 at g1 hL aL
    change ∃ a, V.ref L = V.ref a ∧ (∃ xs_1, SqL K (upd H L (.lst (xs ++ ys))) a xs_1) ∧ _
    generalize upd H L (.lst (xs ++ ys)) = H1 at g1 ⊢
    have bAB : ∀ x ∈ LA ++ LB, x.l.length ≤ 100000 := fun x hx => by
      rcases List.mem_append.mp hx with hx | hx
      · exact bA x hx
      · exact bB x hx
    refine ⟨L, rfl, ⟨_, SqL.of (g1.fh _ _ hL)⟩, for_list (K := K) (a := L) (xs := xs ++ ys) (fun i σ G => ∃ v8, σ = [some (.ref am), some (.ref T), some (.str kd), some (.int k), some (.ref ta), some (.ref tb), some (.ref tc), some (.int S), v8, none, none, none, none, none, none, none, none, none, none] ∧ Gr mu0 F H F1 G ∧ ((LA ++ LB).take i).all (okW S k) = true)
      ⟨none, rfl, g1, rfl⟩ (fun i σ G _ ⟨_, _, g, _⟩ => SqL.of (g.fh _ _ hL)) ?_ ?_⟩
    · rintro i y σ G hi ⟨v8, rfl, g, t⟩
      obtain ⟨x, hx, ix⟩ := aL.get' hi
      obtain ⟨b, rfl, hb⟩ := wd_ref ix
      refine ⟨_, rfl, _, rfl, _, rfl, F1, b, x, k, S, rfl, g.fh, hb, bAB x (List.mem_of_getElem? hx), fun G2 g2 => ⟨_, rfl, ?_⟩⟩
      have g3 := g.trans g2
      cases e : okW S k x with
      | false =>
        refine ifT rfl ?_
        refine qf (fun z => ?_) F1 G2 g3
        have za := z.a
        have zb := z.b
        rw [List.all_eq_true] at za zb
        rcases List.mem_append.mp (List.mem_of_getElem? hx) with hx | hx
        · rw [za x hx] at e; cases e
        · rw [zb x hx] at e; cases e
      | true =>
        refine ifF rfl ?_
        exact ⟨_, rfl, g3, all_take hx e t⟩
    rintro σ G ⟨v8, rfl, g, t⟩
    rw [aL.1, List.take_length, List.all_append, Bool.and_eq_true] at t
    obtain ⟨okA, okB⟩ := t
    -- the middles
    refine ⟨_, rfl, tc, rfl, ⟨_, SqL.of (g.fh _ _ (g.ff _ _ htc))⟩, for_list (K := K) (a := tc) (xs := zs) (fun i σ G => ∃ (v9 v10 v11 v12 : Option V), σ = [some (.ref am), some (.ref T), some (.str kd), some (.int k), some (.ref ta), some (.ref tb), some (.ref tc), some (.int S), v8, v9, v10, v11, v12, none, none, none, none, none, none] ∧ Gr mu0 F H F1 G ∧ (LC.take i).all (okM R S k) = true)
      ⟨none, none, none, none, rfl, g, rfl⟩ (fun i σ G _ ⟨_, _, _, _, _, g, _⟩ => SqL.of (g.fh _ _ (g.ff _ _ htc))) ?_ ?_⟩
    · rintro i y σ G2 hi ⟨v9, v10, v11, v12, rfl, g2, t⟩
      obtain ⟨x, hx, ix⟩ := ic.get' hi
      have hlx := bC x (List.mem_of_getElem? hx)
      have ix := Is.up ix g2.ff
      obtain ⟨p0, x0, x1, x2, x3, rfl, hp, i0, i1, i2, i3⟩ := id ix
      obtain ⟨ba, rfl, hba⟩ := wd_ref i0
      obtain ⟨bd, rfl, hbd⟩ := wd_ref i3
      have i1 : x1 = .int x.b := i1
      have i2 : x2 = .int x.c := i2
      subst i1 i2
      refine ⟨p0, _, rfl, SqT.of (g2.fh _ _ hp), rfl, _, _, rfl, _, _, rfl, _, _, rfl, _, _, rfl, rfl, ?_⟩
      have bad : okM R S k x = false → ∀ F' H', Gr mu0 F H F' H' → Q (.bl false) H' := fun e F' H' g' => by
        refine qf (fun z => ?_) F' H' g'
        have zc := z.c
        rw [List.all_eq_true] at zc
        rw [zc x (List.mem_of_getElem? hx)] at e; cases e
      have ek : okM R S k x = ((okW S k x.a && (okW S k x.d && true)) && ((decide (0 ≤ x.b) && decide (x.b < R)) && (decide (0 ≤ x.c) && decide (x.c < S)))) := rfl
      refine ⟨_, rfl, _, rfl, _, rfl, F1, ba, x.a, k, S, rfl, g2.fh, hba, hlx.1, fun G3 g3' => ⟨_, rfl, ?_⟩⟩
      have g3 := g2.trans g3'
      cases e1 : okW S k x.a with
      | false =>
        refine ifT rfl (ifT rfl ?_)
        exact bad (by rw [ek, e1]; rfl) _ _ g3
      | true =>
      refine ifF rfl ⟨_, rfl, _, rfl, _, rfl, F1, bd, x.d, k, S, rfl, g3.fh, hbd, hlx.2, fun G4 g4' => ⟨_, rfl, ?_⟩⟩
      have g4 := g3.trans g4'
      cases e2 : okW S k x.d with
      | false =>
        refine ifT rfl ?_
        exact bad (by rw [ek, e1, e2]; rfl) _ _ g4
      | true =>
      refine ifF rfl ?_
      refine ⟨_, rfl, _, _, rfl, rfl, _, rfl, ?_⟩
      by_cases c1 : 0 ≤ x.b
      · refine ifT (decide_eq_true c1) ⟨_, rfl, am, rws, rfl, .inl (SqL.of (g4.fh _ _ (g4.ff _ _ ham))), _, _, rfl, rfl, _, rfl, ?_⟩
        rw [lrs]
        by_cases c2 : x.b < R
        · refine ifF (by rw [decide_eq_true c2]; rfl) ?_
          refine ⟨_, rfl, _, _, rfl, rfl, _, rfl, ?_⟩
          by_cases c3 : 0 ≤ x.c
          · refine ifT (decide_eq_true c3) ⟨_, rfl, _, _, rfl, rfl, _, rfl, ?_⟩
            by_cases c4 : x.c < S
            · refine ifF (by rw [decide_eq_true c4]; rfl) ?_
              exact ⟨_, _, _, _, rfl, g4, all_take hx (by rw [ek, e1, e2, decide_eq_true c1, decide_eq_true c2, decide_eq_true c3, decide_eq_true c4]; rfl) t⟩
            · refine ifT (by rw [decide_eq_false c4]; rfl) ?_
              exact bad (by rw [ek, decide_eq_false c4, Bool.and_false, Bool.and_false, Bool.and_false]) _ _ g4
          · refine ifF (decide_eq_false c3) ⟨_, rfl, ?_⟩
            refine ifT rfl ?_
            exact bad (by rw [ek, decide_eq_false c3, Bool.false_and, Bool.and_false, Bool.and_false]) _ _ g4
        · refine ifT (by rw [decide_eq_false c2]; rfl) ?_
          exact bad (by rw [ek, decide_eq_false c2, Bool.and_false, Bool.false_and, Bool.and_false]) _ _ g4
      · refine ifF (decide_eq_false c1) ⟨_, rfl, ?_⟩
        refine ifT rfl ?_
        exact bad (by rw [ek, decide_eq_false c1, Bool.false_and, Bool.false_and, Bool.and_false]) _ _ g4
    rintro σ G2 ⟨v9, v10, v11, v12, rfl, g2, okC⟩
    rw [ic.1, List.take_length] at okC
    clear g
    refine ⟨one_le, fun p0 np0 => ⟨_, rfl, ?_⟩⟩
    have g3 := g2.new (o := .tup [.int 0]) np0
    refine rep_wd g3 upd_same (by omega) (by omega) fun F4 H4 c2 g4 k4 hc2 => ?_
    have iA : Is F4 (.ref ta) LA := ⟨ta, xs, rfl, g4.ff _ _ hta, IsAll.up ia g4.ff⟩
    have iB : Is F4 (.ref tb) LB := ⟨tb, ys, rfl, g4.ff _ _ htb, IsAll.up ib g4.ff⟩
    have iC : Is F4 (.ref tc) LC := ⟨tc, zs, rfl, g4.ff _ _ htc, IsAll.up ic g4.ff⟩
    have iw : Is F4 (.ref c2) (nts k) := wd_is hc2
    refine ⟨_, rfl, _, rfl, notin_c (x := nts k) (l := LA) (iw.up g4.fh) (Is.up iA g4.fh) (fun mA => ⟨_, rfl, ?_⟩) (fun mA => ⟨_, rfl, ?_⟩)⟩
    case' refine_2 =>
      refine ifT rfl (ifT rfl ?_)
      exact qf (fun z => mA (by have := z.na; rwa [Int.toNat_natCast] at this)) F4 H4 g4
    refine ifF rfl ?_
    refine ⟨_, rfl, _, rfl, notin_c (x := nts k) (l := LB) (iw.up g4.fh) (Is.up iB g4.fh) (fun mB => ⟨_, rfl, ?_⟩) (fun mB => ⟨_, rfl, ?_⟩)⟩
    case' refine_2 =>
      refine ifT rfl (ifT rfl ?_)
      exact qf (fun z => mB (by have := z.nb; rwa [Int.toNat_natCast] at this)) F4 H4 g4
    refine ifF rfl ?_
    refine ⟨_, rfl, _, rfl, len4, fun T2 nT2 => ⟨_, rfl, ?_⟩⟩
    have g7 := g4.new (o := .tup [.ref c2, .int 0, .int 0, .ref c2]) nT2
    have k7 := ((Gr.refl (mu := mu0) g4.fh).new (o := .tup [.ref c2, .int 0, .int 0, .ref c2]) nT2).ff
    have im : Is (upd F4 T2 (.tup [.ref c2, .int 0, .int 0, .ref c2])) (.ref T2) (⟨nts k, 0, 0, nts k⟩ : Md) := ⟨T2, _, _, _, _, rfl, upd_same, iw.up k7, rfl, rfl, iw.up k7⟩
    generalize upd F4 T2 (.tup [.ref c2, .int 0, .int 0, .ref c2]) = F7 at g7 k7 im
    change rNotInD _ _ _ (upd H4 T2 (.tup [.ref c2, .int 0, .int 0, .ref c2])) _
    generalize upd H4 T2 (.tup [.ref c2, .int 0, .int 0, .ref c2]) = H7 at g7 ⊢
    refine notin_c (x := (⟨nts k, 0, 0, nts k⟩ : Md)) (l := LC) (Is.up im g7.fh) (Is.up (Is.up iC k7) g7.fh) (fun mC => ⟨_, rfl, ?_⟩) (fun mC => ⟨_, rfl, ?_⟩)
    case' refine_2 =>
      refine ifT rfl ?_
      exact qf (fun z => mC (by have := z.nc; rwa [Int.toNat_natCast] at this)) F7 H7 g7
    refine ifF rfl ?_
    generalize hs1 : List.set _ _ _ = s1
    have es1 : s1 = [some (V.ref am), some (V.ref T), some (V.str kd), some (V.int k), some (V.ref ta), some (V.ref tb), some (V.ref tc), some (V.int S), v8, v9, v10, v11, v12, some (V.ref c2), none, none, none, none, none] := hs1.symm
    subst es1
    clear hs1
    have htaF := g7.ff _ _ hta
    have htbF := g7.ff _ _ htb
    have htcF := g7.ff _ _ htc
    have iaF := IsAll.up ia g7.ff
    have ibF := IsAll.up ib g7.ff
    have icF := IsAll.up ic g7.ff
    refine ⟨_, rfl, tc, rfl, ⟨_, SqL.of (g7.fh _ _ htcF)⟩, for_list (K := K) (a := tc) (xs := zs) (fun i σ G => ∃ (F8 : Hp) (v8 v14 v15 v16 v17 : Option V), σ = [some (V.ref am), some (V.ref T), some (V.str kd), some (V.int k), some (V.ref ta), some (V.ref tb), some (V.ref tc), some (V.int S), v8, v9, v10, v11, v12, some (V.ref c2), v14, v15, v16, v17, none] ∧ Gr mu0 F H F8 G ∧ Same F7 F8 ∧ ∀ m ∈ LC.take i, LookOk M ⟨LA, LB, LC⟩ m)
      ⟨F7, v8, none, none, none, none, rfl, g7, Same.refl F7, fun m z => nomatch z⟩ (fun i σ G _ ⟨_, _, _, _, _, _, _, g, gb, _⟩ => SqL.of (g.fh _ _ (gb _ _ htcF))) ?_ ?_⟩
    · rintro i y σ G3 hi ⟨F8, v8, v14, v15, v16, v17, rfl, g, gb, lk⟩
      obtain ⟨md, hx, ix⟩ := ic.get' hi
      have mC := List.mem_of_getElem? hx
      have okC' := okC
      rw [List.all_eq_true] at okC'
      have cm := okM_iff.mp (okC' md mC)
      obtain ⟨_, _, _, eo⟩ := ent_of hM cm.b.1 cm.b.2 cm.c.1 cm.c.2
      refine ⟨_, rfl, _, rfl, _, rfl, _, rfl, F8, .ref am, y, M, R, S, md, ta, tb, xs, ys, LA, LB, rfl, g.fh, Is.up hm g.ff, hM, Is.up ix g.ff, cm.b.1, cm.b.2, cm.c.1, cm.c.2, by rw [cm.a.len]; omega, by rw [cm.a.len]; omega, by rw [cm.d.len]; omega, by rw [cm.d.len]; omega, g.fh _ _ (gb _ _ htaF), IsAll.up iaF gb, g.fh _ _ (gb _ _ htbF), IsAll.up ibF gb, by omega, by omega, fun ee F9 H9 g9 => ?_, fun p w t ee => ⟨fun w1 F9 H9 T1 c1 wv ws g9 hT1 iwv hc1 iws => ?_, fun w1 F9 H9 T1 c1 wv ws g9 hT1 iwv hc1 iws => ?_⟩⟩
      · refine ⟨_, rfl, rfl, _, rfl, ifT (by decide) ?_⟩
        refine qf (fun z => ?_) F9 H9 (g.trans g9)
        obtain ⟨_, _, _, e, _⟩ := (shut_closed z).go md mC
        rw [ee] at e; cases e
      · have ga := g.trans g9
        refine ⟨_, rfl, rfl, _, rfl, ifF (by simp) ?_⟩
        refine ⟨_, rfl, T1, _, rfl, SqT.of (ga.fh _ _ hT1), rfl, _, _, rfl, _, _, rfl, _, _, rfl, rfl, ?_⟩
        have iA9 : Is F9 (.ref ta) LA := ⟨ta, xs, rfl, g9.ff _ _ (gb _ _ htaF), IsAll.up iaF (gb.trans g9.ff)⟩
        have iC9 : Is F9 (.ref tc) LC := ⟨tc, zs, rfl, g9.ff _ _ (gb _ _ htcF), IsAll.up icF (gb.trans g9.ff)⟩
        refine ⟨_, rfl, rfl, _, rfl, ifT (decide_eq_true rfl) ⟨_, rfl, _, rfl, notin_c (x := nw1 md p) (l := LA) (Is.up iwv ga.fh) (Is.up iA9 ga.fh) (fun mA => ⟨_, rfl, ?_⟩) (fun mA => ⟨_, rfl, ?_⟩)⟩⟩
        case' refine_2 =>
          refine ifT rfl (ifT rfl ?_)
          refine qf (fun z => ?_) F9 H9 ga
          obtain ⟨p', w', t', e, h1, _⟩ := (shut_closed z).go md mC
          rw [ee] at e; cases e
          exact mA (h1 w1).1
        refine ifF rfl ?_
        refine ⟨_, rfl, rfl, _, rfl, ifF (decide_eq_false (by decide +kernel)) (ifF rfl ?_)⟩
        refine ⟨_, rfl, c1, rfl, ⟨_, SqL.of (ga.fh _ _ hc1)⟩, fun D nD => lc_list (K := K) (a := c1) (xs := ws) (fun j G5 => ∃ us, Gr mu0 F H F9 G5 ∧ Ow H F9 G5 D (.lst us) ∧ us.length ≤ j ∧ (us = [] ↔ ∀ z ∈ (more1 md p t LB).take j, z ∈ LC))
          ⟨[], ga.own nD, Ow.mk1 ga nD, Nat.le_refl _, ⟨fun _ z hz => (nomatch hz), fun _ => rfl⟩⟩ (fun j G5 _ ⟨_, g, _⟩ => SqL.of (g.fh _ _ hc1)) ?_ ?_⟩
        · rintro j u G5 hj ⟨us, g5, wo, lu, iff⟩
          obtain ⟨z, hz, iz⟩ := iws.get' hj
          have st : (more1 md p t LB).take (j + 1) = (more1 md p t LB).take j ++ [z] := by rw [List.take_add_one, hz]; rfl
          have jl : j < (more1 md p t LB).length := (List.getElem?_eq_some_iff.mp hz).1
          have lm := more1_len md p t LB
          refine ⟨rfl, _, rfl, _, rfl, notin_c (x := z) (l := LC) (Is.up iz g5.fh) (Is.up iC9 g5.fh) (fun mz => ⟨_, rfl, ?_⟩) (fun mz => ⟨_, rfl, ?_⟩)⟩
          · refine ifF rfl ⟨us, g5, wo, by omega, ?_⟩
            rw [iff, st]
            exact ⟨fun h x hx => by
              rcases List.mem_append.mp hx with hx | hx
              · exact h x hx
              · rw [List.mem_singleton.mp hx]; exact mz, fun h x hx => h x (List.mem_append_left _ hx)⟩
          · refine ifT rfl ⟨_, rfl, us, wo.h, lt_size (by omega), us ++ [u], g5.set wo.f (.inl wo.n), wo.set, by rw [List.length_append]; exact Nat.succ_le_succ lu, ?_⟩
            exact ⟨fun e => absurd e (by simp), fun h => absurd (h z (by rw [st]; exact List.mem_append_right _ (List.mem_singleton.mpr rfl))) mz⟩
        · rintro G5 ⟨us, g5, wo, lu, iff⟩
          rw [iws.1, List.take_length] at iff
          refine ⟨D, _, rfl, .inl (SqL.of wo.h), _, _, rfl, rfl, _, rfl, ?_⟩
          have all : LookOk M ⟨LA, LB, LC⟩ md ↔ ∀ z ∈ more1 md p t LB, z ∈ LC := by
            constructor
            · rintro ⟨p', w', t', e, h1, _⟩ z hz
              rw [ee] at e; cases e
              obtain ⟨y, hy, rfl⟩ := List.mem_map.mp hz
              obtain ⟨hy, hd⟩ := List.mem_filter.mp hy
              exact (h1 w1).2 y hy (of_decide_eq_true hd)
            · intro h
              exact ⟨p, w, t, ee, fun _ => ⟨mA, fun y hy hd => h _ (List.mem_map.mpr ⟨y, List.mem_filter.mpr ⟨hy, decide_eq_true hd⟩, rfl⟩)⟩, fun n => absurd w1 n⟩
          by_cases c : us = []
          · refine ifF (by rw [c]; rfl) ?_
            refine ⟨F9, _, _, _, _, _, rfl, g5, gb.trans g9.ff, fun x hx => ?_⟩
            rw [List.take_add_one] at hx
            rcases List.mem_append.mp hx with hx | hx
            · exact lk x hx
            · rw [‹LC[i]? = some md›] at hx
              rw [List.mem_singleton.mp hx]
              exact all.mpr (iff.mp c)
          · have := List.length_pos_iff.mpr c
            refine ifT (decide_eq_true (by omega)) ?_
            refine qf (fun z => c (iff.mpr (all.mp ((shut_closed z).go md mC)))) F9 G5 g5
      · have ga := g.trans g9
        refine ⟨_, rfl, rfl, _, rfl, ifF (by simp) ?_⟩
        refine ⟨_, rfl, T1, _, rfl, SqT.of (ga.fh _ _ hT1), rfl, _, _, rfl, _, _, rfl, _, _, rfl, rfl, ?_⟩
        have iB9 : Is F9 (.ref tb) LB := ⟨tb, ys, rfl, g9.ff _ _ (gb _ _ htbF), IsAll.up ibF (gb.trans g9.ff)⟩
        have iC9 : Is F9 (.ref tc) LC := ⟨tc, zs, rfl, g9.ff _ _ (gb _ _ htcF), IsAll.up icF (gb.trans g9.ff)⟩
        refine ⟨_, rfl, rfl, _, rfl, ifF (decide_eq_false (by decide +kernel)) (ifF rfl ?_)⟩
        refine ⟨_, rfl, rfl, _, rfl, ifT (decide_eq_true rfl) ⟨_, rfl, _, rfl, notin_c (x := nw2 md p) (l := LB) (Is.up iwv ga.fh) (Is.up iB9 ga.fh) (fun mA => ⟨_, rfl, ?_⟩) (fun mA => ⟨_, rfl, ?_⟩)⟩⟩
        case' refine_2 =>
          refine ifT rfl ?_
          refine qf (fun z => ?_) F9 H9 ga
          obtain ⟨p', w', t', e, _, h1⟩ := (shut_closed z).go md mC
          rw [ee] at e; cases e
          exact mA (h1 w1).1
        refine ifF rfl ?_
        refine ⟨_, rfl, c1, rfl, ⟨_, SqL.of (ga.fh _ _ hc1)⟩, fun D nD => lc_list (K := K) (a := c1) (xs := ws) (fun j G5 => ∃ us, Gr mu0 F H F9 G5 ∧ Ow H F9 G5 D (.lst us) ∧ us.length ≤ j ∧ (us = [] ↔ ∀ z ∈ (more2 md p t LA).take j, z ∈ LC))
          ⟨[], ga.own nD, Ow.mk1 ga nD, Nat.le_refl _, ⟨fun _ z hz => (nomatch hz), fun _ => rfl⟩⟩ (fun j G5 _ ⟨_, g, _⟩ => SqL.of (g.fh _ _ hc1)) ?_ ?_⟩
        · rintro j u G5 hj ⟨us, g5, wo, lu, iff⟩
          obtain ⟨z, hz, iz⟩ := iws.get' hj
          have st : (more2 md p t LA).take (j + 1) = (more2 md p t LA).take j ++ [z] := by rw [List.take_add_one, hz]; rfl
          have jl : j < (more2 md p t LA).length := (List.getElem?_eq_some_iff.mp hz).1
          have lm := more2_len md p t LA
          refine ⟨rfl, _, rfl, _, rfl, notin_c (x := z) (l := LC) (Is.up iz g5.fh) (Is.up iC9 g5.fh) (fun mz => ⟨_, rfl, ?_⟩) (fun mz => ⟨_, rfl, ?_⟩)⟩
          · refine ifF rfl ⟨us, g5, wo, by omega, ?_⟩
            rw [iff, st]
            exact ⟨fun h x hx => by
              rcases List.mem_append.mp hx with hx | hx
              · exact h x hx
              · rw [List.mem_singleton.mp hx]; exact mz, fun h x hx => h x (List.mem_append_left _ hx)⟩
          · refine ifT rfl ⟨_, rfl, us, wo.h, lt_size (by omega), us ++ [u], g5.set wo.f (.inl wo.n), wo.set, by rw [List.length_append]; exact Nat.succ_le_succ lu, ?_⟩
            exact ⟨fun e => absurd e (by simp), fun h => absurd (h z (by rw [st]; exact List.mem_append_right _ (List.mem_singleton.mpr rfl))) mz⟩
        · rintro G5 ⟨us, g5, wo, lu, iff⟩
          rw [iws.1, List.take_length] at iff
          refine ⟨D, _, rfl, .inl (SqL.of wo.h), _, _, rfl, rfl, _, rfl, ?_⟩
          have all : LookOk M ⟨LA, LB, LC⟩ md ↔ ∀ z ∈ more2 md p t LA, z ∈ LC := by
            constructor
            · rintro ⟨p', w', t', e, _, h1⟩ z hz
              rw [ee] at e; cases e
              obtain ⟨y, hy, rfl⟩ := List.mem_map.mp hz
              obtain ⟨hy, hd⟩ := List.mem_filter.mp hy
              exact (h1 w1).2 y hy (of_decide_eq_true hd)
            · intro h
              exact ⟨p, w, t, ee, fun n => absurd n w1, fun _ => ⟨mA, fun y hy hd => h _ (List.mem_map.mpr ⟨y, List.mem_filter.mpr ⟨hy, decide_eq_true hd⟩, rfl⟩)⟩⟩
          by_cases c : us = []
          · refine ifF (by rw [c]; rfl) ?_
            refine ⟨F9, _, _, _, _, _, rfl, g5, gb.trans g9.ff, fun x hx => ?_⟩
            rw [List.take_add_one] at hx
            rcases List.mem_append.mp hx with hx | hx
            · exact lk x hx
            · rw [‹LC[i]? = some md›] at hx
              rw [List.mem_singleton.mp hx]
              exact all.mpr (iff.mp c)
          · have := List.length_pos_iff.mpr c
            refine ifT (decide_eq_true (by omega)) ?_
            refine qf (fun z => c (iff.mpr (all.mp ((shut_closed z).go md mC)))) F9 G5 g5
    · rintro σ G3 ⟨F8, v8, v14, v15, v16, v17, rfl, g, gb, lk⟩
      rw [ic.1, List.take_length] at lk
      refine qt ⟨ew, okC, okA, okB, by rw [Int.toNat_natCast]; exact mA, by rw [Int.toNat_natCast]; exact mB, by rw [Int.toNat_natCast]; exact mC, closed_shut ⟨lk⟩⟩ F8 G3 g
/-! ### sets grown by the law -/
theorem mv1_inj {m : Md} {p t : Int} {x y : Wd} (h : mv1 m p t x = mv1 m p t y) : x = y := congrArg T4.d h
theorem mv2_inj {m : Md} {p t : Int} {x y : Wd} (h : mv2 m p t x = mv2 m p t y) : x = y := congrArg T4.a h
theorem nd_map {α β : Type} {f : α → β} (hf : ∀ x y, f x = f y → x = y) : ∀ {l : List α}, l.Nodup → (l.map f).Nodup
  | [], _ => List.nodup_nil
  | x :: l, h => by
    obtain ⟨h1, h2⟩ := List.nodup_cons.mp h
    rw [List.map_cons]
    refine List.nodup_cons.mpr ⟨fun z => ?_, nd_map hf h2⟩
    obtain ⟨y, hy, e⟩ := List.mem_map.mp z
    rw [hf y x e] at hy
    exact h1 hy
theorem more1_nd {m : Md} {p t : Int} {B : List Wd} (h : B.Nodup) : (more1 m p t B).Nodup := nd_map (fun _ _ => mv1_inj) (h.filter _)
theorem more2_nd {m : Md} {p t : Int} {A : List Wd} (h : A.Nodup) : (more2 m p t A).Nodup := nd_map (fun _ _ => mv2_inj) (h.filter _)
/-- what is new of it -/
def newOf (C l : List Md) : List Md := l.filter fun x => decide (x ∉ C)
theorem newOf_in {C l : List Md} {z : Md} (h : z ∈ C) : newOf C (l ++ [z]) = newOf C l := by
  unfold newOf
  rw [List.filter_append, show [z].filter (fun x => decide (x ∉ C)) = [] from List.filter_cons_of_neg (by rw [decide_eq_true_iff]; exact fun n => n h), List.append_nil]
theorem newOf_out {C l : List Md} {z : Md} (h : z ∉ C) : newOf C (l ++ [z]) = newOf C l ++ [z] := by
  unfold newOf
  rw [List.filter_append, show [z].filter (fun x => decide (x ∉ C)) = [z] from List.filter_cons_of_pos (decide_eq_true h)]
theorem newOf_nd {C l : List Md} (h : l.Nodup) (hC : C.Nodup) : (C ++ newOf C l).Nodup := by
  unfold newOf
  refine List.nodup_append.mpr ⟨hC, h.filter _, fun x hx y hy e => ?_⟩
  subst e
  exact of_decide_eq_true (List.mem_filter.mp hy).2 hx
theorem IsAll.app' {F : Hp} {xs : List V} {A : List Wd} {v : V} {x : Wd} (h : IsAll F xs A) (i : Is F v x) : IsAll F (xs ++ [v]) (A ++ [x]) := h.app (All2.one i)
theorem nd_snoc' {α : Type} {l : List α} {x : α} (h : l.Nodup) (n : x ∉ l) : (l ++ [x]).Nodup :=
  List.nodup_append.mpr ⟨h, List.nodup_cons.mpr ⟨List.not_mem_nil, List.nodup_nil⟩, fun a ha b hb e => by
    rw [List.mem_singleton.mp hb] at e; rw [e] at ha; exact n ha⟩
def sp_L_grown : Sp := fun vs H Q _ => ∃ (F : Hp) (m : V) (M : Mach) (R S k n : Nat), vs = [m, .int k, .int n] ∧ Same F H ∧ Is F m M ∧ MOk M R S ∧ 1 ≤ k ∧ S ^ k ≤ 16 ∧ k ≤ 16 ∧ n ≤ 12 ∧
  ∀ (F' H' : Hp) (T : Addr) (s : SS), Gr mu0 F H F' H' → PaAt F' T tShut.x k s.A s.B s.C → SSOk R S k s → nts k ∈ s.A → nts k ∈ s.B → (⟨nts k, 0, 0, nts k⟩ : Md) ∈ s.C → Q (.ref T) H'
theorem ok_L_grown (t : Tx K mg) : FnOk P w K mg base CX0 2 t.a_L_grown t.fd_L_grown ["_law_machine_here", "_law_width", "_law_turns"] sp_L_grown := by
  refine t.F_L_grown.ok sc_L_grown (fun vs H Q E h => ?_) (fun cdv A outer s H vs Q E hr h => ?_)
  · obtain ⟨F, m, M, R, S, k, n, rfl, _⟩ := h
    rfl
  · obtain ⟨F, m, M, R, S, k, n, rfl, sF, hm, hM, k1, kS, k16, n12, q⟩ := h
    refine ⟨_, (pss_cons (ps_set (i := 3) sc_L_grown.nd rfl (by first | exact Or.inl rfl | exact Or.inr rfl) (pe_op op_repW (pe_tup (pa_cons pe_int pa_nil)) (pv 1)))
      (pss_cons (ps_set (i := 4) sc_L_grown.nd rfl (by first | exact Or.inl rfl | exact Or.inr rfl) (pe_lst (pa_cons (pv 3) pa_nil)))
      (pss_cons (ps_set (i := 5) sc_L_grown.nd rfl (by first | exact Or.inl rfl | exact Or.inr rfl) (pe_lst (pa_cons (pv 3) pa_nil)))
      (pss_cons (ps_set (i := 6) sc_L_grown.nd rfl (by first | exact Or.inl rfl | exact Or.inr rfl) (pe_lst (pa_cons (pe_tup (pa_cons (pv 3) (pa_cons pe_int (pa_cons pe_int (pa_cons (pv 3) pa_nil))))) pa_nil)))
      (pss_cons (ps_for PassesOwn.never rfl (pi_range1 (by rfl) t.n_range (pa_cons (pv 2) pa_nil)) (pg_name (i := 7) sc_L_grown.nd rfl (by first | exact Or.inl rfl | exact Or.inr rfl)) (pss_one (ps_for PassesOwn.never rfl (pi_list (pe_callTy (T := "list") call_listQ (by rfl) t.n_list (by decide +kernel) (pa_cons (pv 6) pa_nil))) (pg_name (i := 8) sc_L_grown.nd rfl (by first | exact Or.inl rfl | exact Or.inr rfl)) (pss_cons (ps_set (i := 9) sc_L_grown.nd rfl (by first | exact Or.inl rfl | exact Or.inr rfl) (pe_call (ok_L_asked_by t) (hr.mono (by decide)) (by rfl) t.m_L_asked_by t.F_L_asked_by.kp t.b_L_asked_by .nil pass0 (pa_cons (pv 0) (pa_cons (pv 8) (pa_cons (pv 4) (pa_cons (pv 5) pa_nil))))))
      (pss_one (ps_if (pt_cmpR op_notN (pv 9) pe_non (nomark _)) (pss_cons (ps_asg (pv 9) (pg_tup rfl (pgs_cons (pg_name (i := 10) sc_L_grown.nd rfl (by first | exact Or.inl rfl | exact Or.inr rfl)) (pgs_cons (pg_name (i := 11) sc_L_grown.nd rfl (by first | exact Or.inl rfl | exact Or.inr rfl)) (pgs_cons (pg_name (i := 12) sc_L_grown.nd rfl (by first | exact Or.inl rfl | exact Or.inr rfl)) pgs_nil)))))
      (pss_cons (ps_if (PW.pt (pw_and (pt_cmpR op_eq (pv 10) pe_str (nomark _)) (pw_and1 (pt_cmpR (op_notInD (u65 hr)) (pv 11) (pv 4) (by rfl))))) (pss_one (ps_expr (pe_bm PySem.F.plainAttrs_list PySem.F.slot_list_append PySem.F.type_list_append mt_append (pv 4) (pa_cons (pv 11) pa_nil)))) pss_nil)
      (pss_cons (ps_if (PW.pt (pw_and (pt_cmpR op_eq (pv 10) pe_str (nomark _)) (pw_and1 (pt_cmpR (op_notInD (u65 hr)) (pv 11) (pv 5) (by rfl))))) (pss_one (ps_expr (pe_bm PySem.F.plainAttrs_list PySem.F.slot_list_append PySem.F.type_list_append mt_append (pv 5) (pa_cons (pv 11) pa_nil)))) pss_nil)
      (pss_one (ps_set (i := 6) sc_L_grown.nd rfl (by first | exact Or.inl rfl | exact Or.inr rfl) (pe_op op_cat (pv 6) (pe_lc (own := [("_law_one", 13)]) (g := gName 13) rfl sc_L_grown.nd (pi_list (pv 12)) (blkOk_by (N := N_L_grown) (sc := defScope s_L_grown) (by decide +kernel)) (fun _ _ _ _ _ => (pg_name (i := 13) sc_L_grown.nd rfl (by first | exact Or.inl rfl | exact Or.inr rfl))) (fun _ _ _ _ _ => (pts_one (pt_cmpR (orK (K := K) (r := rNotInD) rfl (op_notInD (u65 hr))) (pv 13) (pv 6) (by rfl)))) (fun _ _ _ _ _ => (pv 13))))))))) pss_nil))))))
      (pss_one (ps_ret (pe_tup (pa_cons pe_str (pa_cons (pv 1) (pa_cons (pv 4) (pa_cons (pv 5) (pa_cons (pv 6) pa_nil))))))))))))), ?_⟩
    have g0 : Gr mu0 F H F H := Gr.refl sF
    refine ⟨one_le, fun p0 np0 => ⟨_, rfl, ?_⟩⟩
    have g1 := g0.new (o := .tup [.int 0]) np0
    refine rep_wd g1 upd_same k1 (by omega) fun F2 H2 c2 g2 k2 hc2 => ?_
    have iw : Is F2 (.ref c2) (nts k) := wd_is hc2
    refine ⟨_, rfl, one_le, fun la nla => ?_⟩
    have g3 := g2.own (o := .lst [.ref c2]) nla
    have wa : Ow H F2 (upd H2 la (.lst [.ref c2])) la (.lst [.ref c2]) := Ow.mk1 g2 nla
    change Ends.nx _ _ (upd H2 la (.lst [.ref c2]))
    generalize upd H2 la (.lst [.ref c2]) = H3 at g3 wa ⊢
    refine ⟨_, rfl, one_le, fun lb nlb => ?_⟩
    have g4 := g3.own (o := .lst [.ref c2]) nlb
    have wb : Ow H F2 (upd H3 lb (.lst [.ref c2])) lb (.lst [.ref c2]) := Ow.mk1 g3 nlb
    have nab : la ≠ lb := wa.ne nlb
    have wa := wa.own (u := .lst [.ref c2]) nlb
    change Ends.nx _ _ (upd H3 lb (.lst [.ref c2]))
    generalize upd H3 lb (.lst [.ref c2]) = H4 at g4 wa wb ⊢
    refine ⟨_, rfl, _, rfl, len4, fun T0 nT0 => ⟨one_le, fun lc nlc => ?_⟩⟩
    have g5 := g4.new (o := .tup [.ref c2, .int 0, .int 0, .ref c2]) nT0
    have k5 := ((Gr.refl (mu := mu0) g4.fh).new (o := .tup [.ref c2, .int 0, .int 0, .ref c2]) nT0)
    have im : Is (upd F2 T0 (.tup [.ref c2, .int 0, .int 0, .ref c2])) (.ref T0) (⟨nts k, 0, 0, nts k⟩ : Md) := ⟨T0, _, _, _, _, rfl, upd_same, iw.up k5.ff, rfl, rfl, iw.up k5.ff⟩
    have wa := wa.call k5 (fun z => z)
    have wb := wb.call k5 (fun z => z)
    have iw := iw.up k5.ff
    generalize upd F2 T0 (.tup [.ref c2, .int 0, .int 0, .ref c2]) = F5 at g5 im wa wb iw
    generalize upd H4 T0 (.tup [.ref c2, .int 0, .int 0, .ref c2]) = H5 at g5 wa wb nlc ⊢
    have g6 := g5.new (o := .lst [.ref T0]) nlc
    have k6 := ((Gr.refl (mu := mu0) g5.fh).new (o := .lst [.ref T0]) nlc)
    have iC : Is (upd F5 lc (.lst [.ref T0])) (.ref lc) ([⟨nts k, 0, 0, nts k⟩] : List Md) := ⟨lc, _, rfl, upd_same, All2.one (im.up k6.ff)⟩
    have wa := wa.call k6 (fun z => z)
    have wb := wb.call k6 (fun z => z)
    have iw := iw.up k6.ff
    generalize upd F5 lc (.lst [.ref T0]) = F6 at g6 iC wa wb iw
    change Ends.nx _ _ (upd H5 lc (.lst [.ref T0]))
    generalize upd H5 lc (.lst [.ref T0]) = H6 at g6 wa wb ⊢
    have ok0 : SSOk R S k ⟨[nts k], [nts k], [⟨nts k, 0, 0, nts k⟩]⟩ := start_ok hM
    refine ⟨_, rfl, (n : Int), rfl, by omega, by omega, for_range (lo := 0) (n := ((n : Int)).toNat) (fun i σ G => ∃ (F7 : Hp) (s : SS) (xs ys : List V) (vc : V) (v7 v8 v9 v10 v11 v12 : Option V), σ = [some m, some (.int k), some (.int n), some (.ref c2), some (.ref la), some (.ref lb), some vc, v7, v8, v9, v10, v11, v12, none] ∧ Gr mu0 F H F7 G ∧ Ow H F7 G la (.lst xs) ∧ Ow H F7 G lb (.lst ys) ∧ IsAll F7 xs s.A ∧ IsAll F7 ys s.B ∧ Is F7 vc s.C ∧ SSOk R S k s ∧ nts k ∈ s.A ∧ nts k ∈ s.B ∧ (⟨nts k, 0, 0, nts k⟩ : Md) ∈ s.C)
      ⟨F6, ⟨[nts k], [nts k], [⟨nts k, 0, 0, nts k⟩]⟩, _, _, .ref lc, none, none, none, none, none, none, rfl, g6, wa, wb, All2.one iw, All2.one iw, iC, ok0, List.mem_singleton.mpr rfl, List.mem_singleton.mpr rfl, List.mem_singleton.mpr rfl⟩ ?_ ?_⟩
    · rintro i σ G hi ⟨F7, s, xs, ys, vc, v7, v8, v9, v10, v11, v12, rfl, g, wa, wb, ia, ib, ic, ok, na, nb, nc⟩
      obtain ⟨tc, zs, rfl, htc, iz⟩ := ic
      refine ⟨_, rfl, tc, zs, rfl, .inl (SqL.of (g.fh _ _ htc)), fun tl ntl => ?_⟩
      have g8 := g.new (o := .lst zs) ntl
      have k8 := (Gr.refl (mu := mu0) g.fh).new (o := .lst zs) ntl
      have wa := wa.call k8 (fun z => z)
      have wb := wb.call k8 (fun z => z)
      have ia := IsAll.up ia k8.ff
      have ib := IsAll.up ib k8.ff
      have iz := IsAll.up iz k8.ff
      have ic : Is (upd F7 tl (.lst zs)) (.ref tc) s.C := ⟨tc, zs, rfl, k8.ff _ _ htc, iz⟩
      have htl : (upd F7 tl (.lst zs)) tl = some (.lst zs) := upd_same
      generalize upd F7 tl (.lst zs) = F8 at g8 wa wb ia ib iz ic htl
      change ∃ a, V.ref tl = V.ref a ∧ (∃ xs_1, SqL K (upd G tl (.lst zs)) a xs_1) ∧ _
      generalize upd G tl (.lst zs) = G8 at g8 wa wb ⊢
      refine ⟨tl, rfl, ⟨_, SqL.of (g8.fh _ _ htl)⟩, for_list (K := K) (a := tl) (xs := zs) (fun j σ G => ∃ (F7 : Hp) (s : SS) (xs ys : List V) (vc : V) (v8 v9 v10 v11 v12 : Option V), σ = [some m, some (.int k), some (.int n), some (.ref c2), some (.ref la), some (.ref lb), some vc, some (.int (0 + (i : Int))), v8, v9, v10, v11, v12, none] ∧ Gr mu0 F H F7 G ∧ Same F8 F7 ∧ Ow H F7 G la (.lst xs) ∧ Ow H F7 G lb (.lst ys) ∧ IsAll F7 xs s.A ∧ IsAll F7 ys s.B ∧ Is F7 vc s.C ∧ SSOk R S k s ∧ nts k ∈ s.A ∧ nts k ∈ s.B ∧ (⟨nts k, 0, 0, nts k⟩ : Md) ∈ s.C)
        ⟨F8, s, xs, ys, .ref tc, v8, v9, v10, v11, v12, rfl, g8, Same.refl F8, wa, wb, ia, ib, ic, ok, na, nb, nc⟩ (fun j σ G _ ⟨_, _, _, _, _, _, _, _, _, _, _, g, gb, _⟩ => SqL.of (g.fh _ _ (gb _ _ htl))) ?_ ?_⟩
      · have okC := ok.c
        clear wa wb ia ib ic ok na nb nc g htc g8 k8
        rintro j y σ G hj ⟨F7, s', xs, ys, vc, v8, v9, v10, v11, v12, rfl, g, gb, wa, wb, ia, ib, ic, ok, na, nb, nc⟩
        obtain ⟨md, hx, ix⟩ := iz.get' hj
        have cm := okC md (List.mem_of_getElem? hx)
        have fw := ok.few hM.r4 hM.s4 kS
        obtain ⟨row, e1, e2, eo⟩ := ent_of hM cm.b.1 cm.b.2 cm.c.1 cm.c.2
        refine ⟨_, rfl, _, rfl, _, rfl, _, rfl, F7, m, y, M, R, S, md, la, lb, xs, ys, s'.A, s'.B, rfl, g.fh, hm.up g.ff, hM, Is.up ix gb, cm.b.1, cm.b.2, cm.c.1, cm.c.2, by rw [cm.a.len]; omega, by rw [cm.a.len]; omega, by rw [cm.d.len]; omega, by rw [cm.d.len]; omega, wa.h, ia, wb.h, ib, by omega, by omega, fun ee F9 H9 g9 => ?_, fun p w t ee => ⟨fun w1 F9 H9 T1 c1 wv ws g9 hT1 iwv hc1 iws => ?_, fun w1 F9 H9 T1 c1 wv ws g9 hT1 iwv hc1 iws => ?_⟩⟩
        · refine ⟨_, rfl, rfl, _, rfl, ifF (by decide) ?_⟩
          exact ⟨F9, s', xs, ys, vc, _, _, _, _, _, rfl, g.trans g9, gb.trans g9.ff, wa.call g9 (fun z => z), wb.call g9 (fun z => z), IsAll.up ia g9.ff, IsAll.up ib g9.ff, Is.up ic g9.ff, ok, na, nb, nc⟩
        case' refine_2 =>
          have o := eo.ok p w t ee
          have okw : WOk S k (nw1 md p) := nw1_ok cm k1 o.1
          have ndm : (more1 md p t s'.B).Nodup := more1_nd ok.nb
          have okm : ∀ x ∈ more1 md p t s'.B, CMd R S k x := fun x hx => by
            obtain ⟨y, hy, rfl⟩ := List.mem_map.mp hx
            exact mv1_ok cm k1 o.1 o.2.2 (ok.b y (List.mem_filter.mp hy).1)
          generalize nw1 md p = nw at iwv okw
          have lm := more1_len md p t s'.B
          generalize more1 md p t s'.B = mo at iws ndm okm lm
        case' refine_3 =>
          have o := eo.ok p w t ee
          have okw : WOk S k (nw2 md p) := nw2_ok cm k1 o.1
          have ndm : (more2 md p t s'.A).Nodup := more2_nd ok.na
          have okm : ∀ x ∈ more2 md p t s'.A, CMd R S k x := fun x hx => by
            obtain ⟨y, hy, rfl⟩ := List.mem_map.mp hx
            exact mv2_ok cm k1 o.1 o.2.2 (ok.a y (List.mem_filter.mp hy).1)
          generalize nw2 md p = nw at iwv okw
          have lm := more2_len md p t s'.A
          generalize more2 md p t s'.A = mo at iws ndm okm lm
        all_goals
          have ga := g.trans g9
          have wa := wa.call g9 (fun z => z)
          have wb := wb.call g9 (fun z => z)
          have ia := IsAll.up ia g9.ff
          have ib := IsAll.up ib g9.ff
          have ic := Is.up ic g9.ff
          have gb := gb.trans g9.ff
          obtain ⟨tc, zc, rfl, htc, izc⟩ := ic
          refine ⟨_, rfl, rfl, _, rfl, ifT (by simp) ?_⟩
          refine ⟨_, rfl, T1, _, rfl, SqT.of (ga.fh _ _ hT1), rfl, _, _, rfl, _, _, rfl, _, _, rfl, rfl, ?_⟩
          have iA9 : Is H9 (.ref la) s'.A := ⟨la, xs, rfl, wa.h, IsAll.up ia ga.fh⟩
          have iB9 : Is H9 (.ref lb) s'.B := ⟨lb, ys, rfl, wb.h, IsAll.up ib ga.fh⟩
        case' refine_2 =>
          refine ⟨_, rfl, rfl, _, rfl, ifT (decide_eq_true rfl) ⟨_, rfl, _, rfl, notin_c (x := nw) (l := s'.A) (Is.up iwv ga.fh) iA9 (fun mA => ⟨_, rfl, ifF rfl ⟨_, rfl, rfl, _, rfl, ifF (decide_eq_false (by decide +kernel)) (ifF rfl ?_)⟩⟩) (fun mA => ⟨_, rfl, ifT rfl ⟨_, rfl, .inl ⟨rfl, _, SqL.of wa.h⟩, _, rfl, la, xs, wv, rfl, rfl, wa.h, lt_size (by rw [ia.1]; omega), ⟨_, rfl, rfl, _, rfl, ifF (decide_eq_false (by decide +kernel)) (ifF rfl ?_)⟩⟩⟩)⟩⟩
          case' refine_1 =>
            have g10 := ga
            obtain ⟨s2, xa, xb, eC, wa2, wb2, ia2, ib2, ok2, na2, nb2⟩ : ∃ (s2 : SS) (xa xb : List V), s2.C = s'.C ∧ Ow H F9 _ la (.lst xa) ∧ Ow H F9 _ lb (.lst xb) ∧ IsAll F9 xa s2.A ∧ IsAll F9 xb s2.B ∧ SSOk R S k s2 ∧ nts k ∈ s2.A ∧ nts k ∈ s2.B := ⟨s', xs, ys, rfl, wa, wb, ia, ib, ok, na, nb⟩
          case' refine_2 =>
            have g10 := ga.set (o := .lst (xs ++ [wv])) wa.f (.inl wa.n)
            obtain ⟨s2, xa, xb, eC, wa2, wb2, ia2, ib2, ok2, na2, nb2⟩ : ∃ (s2 : SS) (xa xb : List V), s2.C = s'.C ∧ Ow H F9 (upd H9 la (.lst (xs ++ [wv]))) la (.lst xa) ∧ Ow H F9 (upd H9 la (.lst (xs ++ [wv]))) lb (.lst xb) ∧ IsAll F9 xa s2.A ∧ IsAll F9 xb s2.B ∧ SSOk R S k s2 ∧ nts k ∈ s2.A ∧ nts k ∈ s2.B := ⟨⟨s'.A ++ [nw], s'.B, s'.C⟩, _, ys, rfl, Ow.set wa, wb.other nab.symm, IsAll.app' ia iwv, ib, ⟨nd_snoc' ok.na mA, ok.nb, ok.nc, fun x hx => (List.mem_append.mp hx).elim (ok.a x) (fun h => by rw [List.mem_singleton.mp h]; exact okw), ok.b, ok.c⟩, List.mem_append_left _ na, nb⟩
        case' refine_3 =>
          refine ⟨_, rfl, rfl, _, rfl, ifF (decide_eq_false (by decide +kernel)) (ifF rfl ⟨_, rfl, rfl, _, rfl, ifT (decide_eq_true rfl) ⟨_, rfl, _, rfl, notin_c (x := nw) (l := s'.B) (Is.up iwv ga.fh) iB9 (fun mA => ⟨_, rfl, ifF rfl ?_⟩) (fun mA => ⟨_, rfl, ifT rfl ⟨_, rfl, .inl ⟨rfl, _, SqL.of wb.h⟩, _, rfl, lb, ys, wv, rfl, rfl, wb.h, lt_size (by rw [ib.1]; omega), ?_⟩⟩)⟩⟩)⟩
          case' refine_1 =>
            have g10 := ga
            obtain ⟨s2, xa, xb, eC, wa2, wb2, ia2, ib2, ok2, na2, nb2⟩ : ∃ (s2 : SS) (xa xb : List V), s2.C = s'.C ∧ Ow H F9 _ la (.lst xa) ∧ Ow H F9 _ lb (.lst xb) ∧ IsAll F9 xa s2.A ∧ IsAll F9 xb s2.B ∧ SSOk R S k s2 ∧ nts k ∈ s2.A ∧ nts k ∈ s2.B := ⟨s', xs, ys, rfl, wa, wb, ia, ib, ok, na, nb⟩
          case' refine_2 =>
            have g10 := ga.set (o := .lst (ys ++ [wv])) wb.f (.inl wb.n)
            obtain ⟨s2, xa, xb, eC, wa2, wb2, ia2, ib2, ok2, na2, nb2⟩ : ∃ (s2 : SS) (xa xb : List V), s2.C = s'.C ∧ Ow H F9 (upd H9 lb (.lst (ys ++ [wv]))) la (.lst xa) ∧ Ow H F9 (upd H9 lb (.lst (ys ++ [wv]))) lb (.lst xb) ∧ IsAll F9 xa s2.A ∧ IsAll F9 xb s2.B ∧ SSOk R S k s2 ∧ nts k ∈ s2.A ∧ nts k ∈ s2.B := ⟨⟨s'.A, s'.B ++ [nw], s'.C⟩, xs, _, rfl, wa.other nab, Ow.set wb, ia, IsAll.app' ib iwv, ⟨ok.na, nd_snoc' ok.nb mA, ok.nc, ok.a, fun x hx => (List.mem_append.mp hx).elim (ok.b x) (fun h => by rw [List.mem_singleton.mp h]; exact okw), ok.c⟩, na, List.mem_append_left _ nb⟩
        all_goals
          rw [← eC] at izc
          have nc2 : (⟨nts k, 0, 0, nts k⟩ : Md) ∈ s2.C := by rw [eC]; exact nc
          have fw2 := ok2.few hM.r4 hM.s4 kS
          refine ⟨_, rfl, _, rfl, c1, rfl, ⟨_, SqL.of (g10.fh _ _ hc1)⟩, fun D nD => lc_list (K := K) (a := c1) (xs := ws) (fun j G5 => ∃ us, Gr mu0 F H F9 G5 ∧ Ow H F9 G5 la (.lst xa) ∧ Ow H F9 G5 lb (.lst xb) ∧ Ow H F9 G5 D (.lst us) ∧ IsAll F9 us (newOf s2.C (mo.take j)))
            ⟨[], g10.own nD, wa2.own nD, wb2.own nD, Ow.mk1 g10 nD, All2.nil⟩ (fun j G5 _ ⟨_, g, _⟩ => SqL.of (g.fh _ _ hc1)) ?_ ?_⟩
          · rintro j u G5 hj ⟨us, g5, wa5, wb5, wo, al⟩
            obtain ⟨z, hz, iz'⟩ := iws.get' hj
            have st : mo.take (j + 1) = mo.take j ++ [z] := by rw [List.take_add_one, hz]; rfl
            have jl : j < mo.length := (List.getElem?_eq_some_iff.mp hz).1
            have lu : us.length ≤ j := by
              rw [al.1]; unfold newOf
              have := List.length_filter_le (fun x => decide (x ∉ s2.C)) (mo.take j)
              rw [List.length_take] at this; omega
            have nDa : D ≠ la := fun e => by rw [e, wa2.h] at nD; cases nD
            have nDb : D ≠ lb := fun e => by rw [e, wb2.h] at nD; cases nD
            refine ⟨rfl, _, rfl, _, rfl, notin_c (x := z) (l := s2.C) (Is.up iz' g5.fh) (Is.up (⟨tc, zc, rfl, htc, izc⟩ : Is F9 (.ref tc) s2.C) g5.fh) (fun mz => ⟨_, rfl, ?_⟩) (fun mz => ⟨_, rfl, ?_⟩)⟩
            · refine ifF rfl ⟨us, g5, wa5, wb5, wo, ?_⟩
              rw [st, newOf_in mz]
              exact al
            · refine ifT rfl ⟨_, rfl, us, wo.h, lt_size (by omega), us ++ [u], g5.set wo.f (.inl wo.n), wa5.other nDa.symm, wb5.other nDb.symm, wo.set, ?_⟩
              rw [st, newOf_out mz]
              exact al.app (All2.one iz')
          · rintro G5 ⟨us, g5, wa5, wb5, wo, al⟩
            rw [iws.1, List.take_length] at al
            have lz : (zc ++ us).length ≤ 5000 := by
              rw [List.length_append, izc.1, al.1]; unfold newOf
              have := List.length_filter_le (fun x => decide (x ∉ s2.C)) mo
              omega
            rw [List.length_append] at lz
            refine ⟨tc, D, zc, us, rfl, rfl, g5.fh _ _ htc, wo.h, le_size (by omega), fun tn ntn => ?_⟩
            have g6 := g5.new (o := .lst (zc ++ us)) ntn
            have k6 := (Gr.refl (mu := mu0) g5.fh).new (o := .lst (zc ++ us)) ntn
            refine ⟨upd F9 tn (.lst (zc ++ us)), ⟨s2.A, s2.B, s2.C ++ newOf s2.C mo⟩, xa, xb, .ref tn, _, _, _, _, _, rfl, g6, gb.trans k6.ff, wa5.call k6 (fun z => z), wb5.call k6 (fun z => z), IsAll.up ia2 k6.ff, IsAll.up ib2 k6.ff, ⟨tn, _, rfl, upd_same, (IsAll.up izc k6.ff).app (IsAll.up al k6.ff)⟩, ⟨ok2.na, ok2.nb, newOf_nd ndm ok2.nc, ok2.a, ok2.b, fun x hx => ?_⟩, na2, nb2, List.mem_append_left _ nc2⟩
            rcases List.mem_append.mp hx with hx | hx
            · exact ok2.c x hx
            · exact okm x (List.mem_filter.mp hx).1
      · rintro σ G ⟨F7, s', xs, ys, vc, v8, v9, v10, v11, v12, rfl, g, gb, wa, wb, ia, ib, ic, ok, na, nb, nc⟩
        exact ⟨F7, s', xs, ys, vc, _, v8, v9, v10, v11, v12, rfl, g, wa, wb, ia, ib, ic, ok, na, nb, nc⟩
    · rintro σ G ⟨F7, s', xs, ys, vc, v7, v8, v9, v10, v11, v12, rfl, g, wa, wb, ia, ib, ic, ok, na, nb, nc⟩
      obtain ⟨tc, zs, rfl, htc, iz⟩ := ic
      refine ⟨_, rfl, _, rfl, _, rfl, _, rfl, five_le, fun T nT => ?_⟩
      have h1 := g.frz wa.h wa.n wa.f
      have e1 := (sm_new (o := .lst xs) (Same.refl F7) wa.f)
      have fb : (upd F7 la (.lst xs)) lb = none := by rw [upd_ne nab.symm]; exact wb.f
      have h2 := h1.frz wb.h wb.n fb
      have e2 := e1.trans (sm_new (o := .lst ys) (Same.refl _) fb)
      have h3 := h2.new (o := .tup [.str tShut.x, .int k, .ref la, .ref lb, .ref tc]) nT
      have e3 := ((Gr.refl (mu := mu0) h2.fh).new (o := .tup [.str tShut.x, .int k, .ref la, .ref lb, .ref tc]) nT).ff
      have ee := e2.trans e3
      have hla : (upd (upd F7 la (.lst xs)) lb (.lst ys)) la = some (.lst xs) := by rw [upd_ne nab, upd_same]
      exact q _ _ T s' h3 ⟨la, lb, tc, xs, ys, zs, upd_same, e3 _ _ hla, e3 _ _ upd_same, ee _ _ htc, IsAll.up ia ee, IsAll.up ib ee, IsAll.up iz ee⟩ ok na nb nc
/-! ### papers bent by the law -/
theorem nw {mu : Addr → Prop} {F0 H0 F H : Hp} {q : Addr} {o : HO} (g : Gr mu F0 H0 F H) (n : H q = none) : ∃ F', Gr mu F0 H0 F' (upd H q o) ∧ F' q = some o ∧ Gr mu0 F H F' (upd H q o) := ⟨_, g.new n, upd_same, (Gr.refl g.fh).new n⟩
theorem sl_ls {α : Type} [Dat α] {K : PySem.W.Frag} {mu : Addr → Prop} {F0 H0 F H : Hp} {v : V} {A : List α} {lo hi : Option Int} {Q : VK} (g : Gr mu F0 H0 F H) (hA : Is F v A)
    (q : ∀ (F' H' : Hp) (v' : V) (A' : List α), Gr mu F0 H0 F' H' → Gr mu0 F H F' H' → Is F' v' A' → A'.length ≤ A.length → (∀ x ∈ A', x ∈ A) → Q v' H') : rSlL K v lo hi H Q := by
  obtain ⟨a, xs, rfl, ha, al⟩ := hA
  refine ⟨a, xs, rfl, SqL.of (g.fh _ _ ha), fun p np => ?_⟩
  unfold cutV
  generalize HT.sIx xs.length 0 lo = i
  generalize HT.sIx xs.length xs.length hi - i = j
  have k := (Gr.refl (mu := mu0) g.fh).new (o := .lst ((xs.drop i).take j)) np
  refine q _ _ _ ((A.drop i).take j) (g.new np) k ⟨p, _, rfl, upd_same, IsAll.up ((al.drop i).take j) k.ff⟩ ?_ fun x hx => List.mem_of_mem_drop (List.mem_of_mem_take hx)
  rw [List.length_take, List.length_drop]; omega
theorem cat_ls {α : Type} [Dat α] {mu : Addr → Prop} {F0 H0 F H : Hp} {v w : V} {A B : List α} {Q : VK} (g : Gr mu F0 H0 F H) (hA : Is F v A) (hB : Is F w B) (l : A.length + B.length ≤ 100000)
    (q : ∀ (F' H' : Hp) (v' : V), Gr mu F0 H0 F' H' → Gr mu0 F H F' H' → Is F' v' (A ++ B) → Q v' H') : rCat v w H Q := by
  obtain ⟨a, xs, rfl, ha, al⟩ := hA
  obtain ⟨b, ys, rfl, hb, bl⟩ := hB
  refine ⟨a, b, xs, ys, rfl, rfl, g.fh _ _ ha, g.fh _ _ hb, le_size (by rw [al.1, bl.1]; omega), fun p np => ?_⟩
  have k := (Gr.refl (mu := mu0) g.fh).new (o := .lst (xs ++ ys)) np
  exact q _ _ _ (g.new np) k ⟨p, _, rfl, upd_same, (IsAll.up al k.ff).app (IsAll.up bl k.ff)⟩
theorem All2.rev {α β : Type} {r : α → β → Prop} {xs : List α} {ys : List β} (h : All2 r xs ys) : All2 r xs.reverse ys.reverse := by
  refine ⟨by rw [List.length_reverse, List.length_reverse, h.1], fun i x y p q => ?_⟩
  have l1 : i < xs.length := by have := (List.getElem?_eq_some_iff.mp p).1; rwa [List.length_reverse] at this
  rw [List.getElem?_reverse l1] at p
  rw [List.getElem?_reverse (by rw [← h.1]; exact l1), ← h.1] at q
  exact h.2 _ x y p q
def wB (x : Wd) : Prop := x.l.length ≤ 100
structure PB (A B : List Wd) (C : List Md) : Prop where
  la : A.length ≤ 100
  lb : B.length ≤ 100
  lc : C.length ≤ 9000
  a : ∀ x ∈ A, wB x
  b : ∀ x ∈ B, wB x
  c : ∀ x ∈ C, wB x.a ∧ wB x.d
def sp_L_bent : Sp := fun vs H Q _ => ∃ (F : Hp) (p : Addr) (a b : Int) (m : V) (M : Mach) (R S k : Nat) (T : Addr) (s : SS), vs = [.ref p, m, .ref T] ∧ Same F H ∧ F p = none ∧ H p = some (PurseO a b) ∧ 0 ≤ a ∧ 0 ≤ b ∧ Is F m M ∧ MOk M R S ∧ 1 ≤ k ∧ S ^ k ≤ 16 ∧ k ≤ 16 ∧ PaAt F T tShut.x k s.A s.B s.C ∧ SSOk R S k s ∧ nts k ∈ s.A ∧ nts k ∈ s.B ∧ (⟨nts k, 0, 0, nts k⟩ : Md) ∈ s.C ∧
  ∀ (F' H' : Hp) (T' : Addr) (wi : Int) (A B : List Wd) (C : List Md) (a' b' : Int), Gr (muP p) F H F' H' → H' p = some (PurseO a' b') → 0 ≤ a' → 0 ≤ b' → PaAt F' T' tShut.x wi A B C → PB A B C → Q (.ref T') H'
theorem ok_L_bent (t : Tx K mg) : FnOk P w K mg base CX0 2 t.a_L_bent t.fd_L_bent ["_law_purse_here", "_law_machine_here", "_law_paper"] sp_L_bent := by
  refine t.F_L_bent.ok sc_L_bent (fun vs H Q E h => ?_) (fun cdv A outer s H vs Q E hr h => ?_)
  · obtain ⟨F, p, a, b, m, M, R, S, k, T, s, rfl, _⟩ := h
    rfl
  · obtain ⟨F, p, a, b, m, M, R, S, k, T, s, rfl, sF, fp, hp, ha, hb, hm, hM, k1, kS, k16, hT, ok, na, nb, nc, q⟩ := h
    refine ⟨_, (pss_cons (ps_asg (pv 2) (pg_tup rfl (pgs_cons (pg_name (i := 3) sc_L_bent.nd rfl (by first | exact Or.inl rfl | exact Or.inr rfl)) (pgs_cons (pg_name (i := 4) sc_L_bent.nd rfl (by first | exact Or.inl rfl | exact Or.inr rfl)) (pgs_cons (pg_name (i := 5) sc_L_bent.nd rfl (by first | exact Or.inl rfl | exact Or.inr rfl)) (pgs_cons (pg_name (i := 6) sc_L_bent.nd rfl (by first | exact Or.inl rfl | exact Or.inr rfl)) (pgs_cons (pg_name (i := 7) sc_L_bent.nd rfl (by first | exact Or.inl rfl | exact Or.inr rfl)) pgs_nil)))))))
      (pss_cons (ps_set (i := 8) sc_L_bent.nd rfl (by first | exact Or.inl rfl | exact Or.inr rfl) (pe_callB (id := "len") call_lenQ (by rfl) t.n_len (by decide +kernel) (pa_cons (pe_ix ix_list (pv 1) pe_int (fun _ _ => rfl)) pa_nil)))
      (pss_cons (ps_set (i := 9) sc_L_bent.nd rfl (by first | exact Or.inl rfl | exact Or.inr rfl) (pe_call (ok_L_draw t) (hr.mono (by decide)) (by rfl) t.m_L_draw t.F_L_draw.kp t.b_L_draw .nil pass0 (pa_cons (pv 0) (pa_cons pe_int pa_nil))))
      (pss_cons (ps_set (i := 10) sc_L_bent.nd rfl (by first | exact Or.inl rfl | exact Or.inr rfl) (pe_callTy (T := "tuple") call_tupQ (by rfl) t.n_tuple (by decide +kernel) (pa_cons (pe_lc (own := [("_law_k", 11)]) (g := gName 11) (tt := tYes) rfl sc_L_bent.nd (pi_range1 (by rfl) t.n_range (pa_cons (pv 4) pa_nil)) (blkOk_by (N := N_L_bent) (sc := defScope s_L_bent) (by decide +kernel)) (fun _ _ _ _ _ => (pg_name (i := 11) sc_L_bent.nd rfl (by first | exact Or.inl rfl | exact Or.inr rfl))) (fun _ _ _ _ _ => pts_nil) (fun _ _ _ _ _ => (pe_call (ok_L_draw t) (hr.mono (by decide)) (by rfl) t.m_L_draw t.F_L_draw.kp t.b_L_draw .nil pass0 (pa_cons (pv 0) (pa_cons (pv 8) pa_nil))))) pa_nil)))
      (pss_cons (ps_set (i := 12) sc_L_bent.nd rfl (by first | exact Or.inl rfl | exact Or.inr rfl) (pe_call (ok_L_draw t) (hr.mono (by decide)) (by rfl) t.m_L_draw t.F_L_draw.kp t.b_L_draw .nil pass0 (pa_cons (pv 0) (pa_cons (pe_callB (id := "len") call_lenQ (by rfl) t.n_len (by decide +kernel) (pa_cons (pv 5) pa_nil)) pa_nil))))
      (pss_cons (ps_set (i := 13) sc_L_bent.nd rfl (by first | exact Or.inl rfl | exact Or.inr rfl) (pe_call (ok_L_draw t) (hr.mono (by decide)) (by rfl) t.m_L_draw t.F_L_draw.kp t.b_L_draw .nil pass0 (pa_cons (pv 0) (pa_cons (pe_callB (id := "len") call_lenQ (by rfl) t.n_len (by decide +kernel) (pa_cons (pv 6) pa_nil)) pa_nil))))
      (pss_cons (ps_set (i := 11) sc_L_bent.nd rfl (by first | exact Or.inl rfl | exact Or.inr rfl) (pe_call (ok_L_draw t) (hr.mono (by decide)) (by rfl) t.m_L_draw t.F_L_draw.kp t.b_L_draw .nil pass0 (pa_cons (pv 0) (pa_cons (pe_callB (id := "len") call_lenQ (by rfl) t.n_len (by decide +kernel) (pa_cons (pv 7) pa_nil)) pa_nil))))
      (pss_cons (ps_if (pt_cmpR op_eq (pv 9) pe_int (nomark _)) (pss_one (ps_ret (pe_tup (pa_cons (pv 3) (pa_cons (pv 4) (pa_cons (pe_op op_cat (pe_slice sl_list (pv 5) po_none (po_some (pv 12))) (pe_slice sl_list (pv 5) (po_some (pe_op op_add (pv 12) pe_int)) po_none)) (pa_cons (pv 6) (pa_cons (pv 7) pa_nil)))))))) pss_nil)
      (pss_cons (ps_if (pt_cmpR op_eq (pv 9) pe_int (nomark _)) (pss_one (ps_ret (pe_tup (pa_cons (pv 3) (pa_cons (pv 4) (pa_cons (pv 5) (pa_cons (pe_op op_cat (pe_slice sl_list (pv 6) po_none (po_some (pv 13))) (pe_slice sl_list (pv 6) (po_some (pe_op op_add (pv 13) pe_int)) po_none)) (pa_cons (pv 7) pa_nil)))))))) pss_nil)
      (pss_cons (ps_if (pt_cmpR op_lt (pv 9) pe_int (nomark _)) (pss_one (ps_ret (pe_tup (pa_cons (pv 3) (pa_cons (pv 4) (pa_cons (pv 5) (pa_cons (pv 6) (pa_cons (pe_op op_cat (pe_slice sl_list (pv 7) po_none (po_some (pv 11))) (pe_slice sl_list (pv 7) (po_some (pe_op op_add (pv 11) pe_int)) po_none)) pa_nil)))))))) pss_nil)
      (pss_cons (ps_if (pt_cmpR op_eq (pv 9) pe_int (nomark _)) (pss_one (ps_ret (pe_tup (pa_cons (pv 3) (pa_cons (pv 4) (pa_cons (pe_op op_cat (pv 5) (pe_lst (pa_cons (pv 10) pa_nil))) (pa_cons (pe_op op_cat (pv 6) (pe_lst (pa_cons (pe_ix ix_list (pv 5) (pv 12) (fun _ _ => rfl)) pa_nil))) (pa_cons (pv 7) pa_nil)))))))) pss_nil)
      (pss_cons (ps_if (pt_cmpR op_eq (pv 9) pe_int (nomark _)) (pss_cons (ps_set (i := 14) sc_L_bent.nd rfl (by first | exact Or.inl rfl | exact Or.inr rfl) (pe_lst (pa_cons (pe_tup (pa_cons (pv 10) (pa_cons (pe_callB (id := "len") call_lenQ (by rfl) t.n_len (by decide +kernel) (pa_cons (pv 1) pa_nil)) (pa_cons pe_int (pa_cons (pv 10) pa_nil))))) (pa_cons (pe_tup (pa_cons (pv 10) (pa_cons pe_int (pa_cons (pv 8) (pa_cons (pv 10) pa_nil))))) (pa_cons (pe_tup (pa_cons (pv 10) (pa_cons (pe_call (ok_L_draw t) (hr.mono (by decide)) (by rfl) t.m_L_draw t.F_L_draw.kp t.b_L_draw .nil pass0 (pa_cons (pv 0) (pa_cons (pe_callB (id := "len") call_lenQ (by rfl) t.n_len (by decide +kernel) (pa_cons (pv 1) pa_nil)) pa_nil))) (pa_cons pe_int (pa_cons (pv 10) pa_nil))))) pa_nil)))))
      (pss_cons (ps_set (i := 14) sc_L_bent.nd rfl (by first | exact Or.inl rfl | exact Or.inr rfl) (pe_op op_cat (pv 14) (pe_lst (pa_cons (pe_tup (pa_cons (pv 10) (pa_cons (pe_un un_neg pe_int) (pa_cons pe_int (pa_cons (pv 10) pa_nil))))) (pa_cons (pe_tup (pa_cons (pv 10) (pa_cons pe_int (pa_cons (pe_un un_neg pe_int) (pa_cons (pv 10) pa_nil))))) (pa_cons (pe_tup (pa_cons (pe_slice sl_tupQ (pv 10) (po_some pe_int) po_none) (pa_cons pe_int (pa_cons pe_int (pa_cons (pv 10) pa_nil))))) (pa_cons (pe_tup (pa_cons (pv 10) (pa_cons pe_int (pa_cons pe_int (pa_cons (pe_op op_catQ (pv 10) (pe_tup (pa_cons pe_int pa_nil))) pa_nil))))) pa_nil)))))))
      (pss_one (ps_ret (pe_tup (pa_cons (pv 3) (pa_cons (pv 4) (pa_cons (pv 5) (pa_cons (pv 6) (pa_cons (pe_op op_cat (pe_op op_cat (pe_slice sl_list (pv 7) po_none (po_some (pv 11))) (pe_lst (pa_cons (pe_ix ix_list (pv 14) (pe_call (ok_L_draw t) (hr.mono (by decide)) (by rfl) t.m_L_draw t.F_L_draw.kp t.b_L_draw .nil pass0 (pa_cons (pv 0) (pa_cons pe_int pa_nil))) (fun _ _ => rfl)) pa_nil))) (pe_slice sl_list (pv 7) (po_some (pv 11)) po_none)) pa_nil)))))))))) pss_nil)
      (pss_cons (ps_if (pt_cmpR op_eq (pv 9) pe_int (nomark _)) (pss_cons (ps_set (i := 15) sc_L_bent.nd rfl (by first | exact Or.inl rfl | exact Or.inr rfl) (pe_ix ix_list (pe_lst (pa_cons (pe_op op_catQ (pv 10) (pe_tup (pa_cons pe_int pa_nil))) (pa_cons (pe_slice sl_tupQ (pv 10) (po_some pe_int) po_none) (pa_cons (pe_op op_catQ (pe_slice sl_tupQ (pv 10) (po_some pe_int) po_none) (pe_tup (pa_cons (pv 8) pa_nil))) (pa_cons (pe_op op_catQ (pe_slice sl_tupQ (pv 10) (po_some pe_int) po_none) (pe_tup (pa_cons (pe_un un_neg pe_int) pa_nil))) pa_nil))))) (pe_call (ok_L_draw t) (hr.mono (by decide)) (by rfl) t.m_L_draw t.F_L_draw.kp t.b_L_draw .nil pass0 (pa_cons (pv 0) (pa_cons pe_int pa_nil))) (fun _ _ => rfl)))
      (pss_cons (ps_if (pt_cmpR op_eq (pe_call (ok_L_draw t) (hr.mono (by decide)) (by rfl) t.m_L_draw t.F_L_draw.kp t.b_L_draw .nil pass0 (pa_cons (pv 0) (pa_cons pe_int pa_nil))) pe_int (nomark _)) (pss_one (ps_ret (pe_tup (pa_cons (pv 3) (pa_cons (pv 4) (pa_cons (pe_op op_cat (pe_op op_cat (pe_slice sl_list (pv 5) po_none (po_some (pv 12))) (pe_lst (pa_cons (pv 15) pa_nil))) (pe_slice sl_list (pv 5) (po_some (pv 12)) po_none)) (pa_cons (pv 6) (pa_cons (pv 7) pa_nil)))))))) pss_nil)
      (pss_one (ps_ret (pe_tup (pa_cons (pv 3) (pa_cons (pv 4) (pa_cons (pv 5) (pa_cons (pe_op op_cat (pe_op op_cat (pe_slice sl_list (pv 6) po_none (po_some (pv 13))) (pe_lst (pa_cons (pv 15) pa_nil))) (pe_slice sl_list (pv 6) (po_some (pv 13)) po_none)) (pa_cons (pv 7) pa_nil)))))))))) pss_nil)
      (pss_cons (ps_if (pt_cmpR op_eq (pv 9) pe_int (nomark _)) (pss_one (ps_ret (pe_tup (pa_cons (pv 3) (pa_cons (pe_ix ix_list (pe_lst (pa_cons pe_int (pa_cons (pe_un un_neg pe_int) (pa_cons pe_int (pa_cons (pe_op op_add (pv 4) pe_int) (pa_cons (pe_op op_pow pe_int pe_int) pa_nil)))))) (pe_call (ok_L_draw t) (hr.mono (by decide)) (by rfl) t.m_L_draw t.F_L_draw.kp t.b_L_draw .nil pass0 (pa_cons (pv 0) (pa_cons pe_int pa_nil))) (fun _ _ => rfl)) (pa_cons (pv 5) (pa_cons (pv 6) (pa_cons (pv 7) pa_nil)))))))) pss_nil)
      (pss_one (ps_ret (pe_tup (pa_cons (pv 3) (pa_cons (pv 4) (pa_cons (pe_op op_cat (pe_revL (pv 5)) (pe_slice sl_list (pv 5) po_none (po_some pe_int))) (pa_cons (pe_revL (pv 6)) (pa_cons (pe_op op_cat (pe_revL (pv 7)) (pe_slice sl_list (pv 7) (po_some (pv 11)) (po_some (pe_op op_add (pv 11) pe_int)))) pa_nil)))))))))))))))))))))), ?_⟩
    have g0 : Gr (muP p) F H F H := Gr.refl sF
    have r1 := hM.r1
    have r4 := hM.r4
    have s2 := hM.s2
    have s4 := hM.s4
    have fw := ok.few r4 s4 kS
    have pA := List.length_pos_of_mem na
    have pB := List.length_pos_of_mem nb
    have pC := List.length_pos_of_mem nc
    have fin : ∀ {F2 H2 : Hp} {va vb vc : V} {wi : Int} {A' B' : List Wd} {C' : List Md} {a b : Int}, Gr (muP p) F H F2 H2 → H2 p = some (PurseO a b) → 0 ≤ a → 0 ≤ b → Is F2 va A' → Is F2 vb B' → Is F2 vc C' → PB A' B' C' → ∀ T, H2 T = none → Q (.ref T) (upd H2 T (.tup [.str tShut.x, .int wi, va, vb, vc])) := fun g hp ha hb ia ib ic pb T nT => by
      obtain ⟨ta, xs, rfl, hta, ia⟩ := ia
      obtain ⟨tb, ys, rfl, htb, ib⟩ := ib
      obtain ⟨tc, zs, rfl, htc, ic⟩ := ic
      obtain ⟨F3, g3, h3, k3⟩ := nw (o := .tup [.str tShut.x, .int _, .ref ta, .ref tb, .ref tc]) g nT
      exact q F3 _ T _ _ _ _ _ _ g3 (k3.fr _ _ hp (fun z => z)) ha hb ⟨ta, tb, tc, xs, ys, zs, h3, k3.ff _ _ hta, k3.ff _ _ htb, k3.ff _ _ htc, IsAll.up ia k3.ff, IsAll.up ib k3.ff, IsAll.up ic k3.ff⟩ pb
    have wA : ∀ x ∈ s.A, wB x := fun x hx => by unfold wB; rw [(ok.a x hx).len]; omega
    have wBB : ∀ x ∈ s.B, wB x := fun x hx => by unfold wB; rw [(ok.b x hx).len]; omega
    have wC : ∀ x ∈ s.C, wB x.a ∧ wB x.d := fun x hx => by unfold wB; rw [(ok.c x hx).a.len, (ok.c x hx).d.len]; omega
    obtain ⟨ta, tb, tc, xs, ys, zs, hTT, hta, htb, htc, ia, ib, ic⟩ := hT
    have iA : Is F (.ref ta) s.A := ⟨ta, xs, rfl, hta, ia⟩
    have iB : Is F (.ref tb) s.B := ⟨tb, ys, rfl, htb, ib⟩
    have iC : Is F (.ref tc) s.C := ⟨tc, zs, rfl, htc, ic⟩
    obtain ⟨am, rws, rfl, ham, hrs⟩ := id hm
    have lrs : rws.length = R := hrs.1.trans hM.len
    have hr0 : 0 < M.length := by rw [hM.len]; exact hM.r1
    obtain ⟨v0, h0, ⟨a0, es, rfl, ha0, hes⟩⟩ := hrs.get (List.getElem?_eq_getElem hr0)
    have les : es.length = S := hes.1.trans (hM.row _ (List.getElem_mem hr0))
    refine ⟨_, rfl, T, _, rfl, SqT.of (sF _ _ hTT), rfl, _, _, rfl, _, _, rfl, _, _, rfl, _, _, rfl, _, _, rfl, rfl, ?_⟩
    refine ⟨_, rfl, am, rws, _, _, rfl, rfl, SqL.of (sF _ _ ham), atI_nat (j := 0) h0, a0, es, rfl, .inl (SqL.of (sF _ _ ha0)), ?_⟩
    rw [les]
    refine ⟨_, rfl, p, a, b, 9, rfl, hp, ha, hb, by decide, by decide, fun wy a1 b1 wy0 wy1 ha1 hb1 => ?_⟩
    obtain ⟨g1, _⟩ := g0.drw (a := a1) (b := b1) fp hp
    have hp1 : (upd H p (PurseO a1 b1)) p = some (PurseO a1 b1) := upd_same
    change Ends.nx _ _ (upd H p (PurseO a1 b1))
    generalize upd H p (PurseO a1 b1) = H1 at g1 hp1 ⊢
    refine ⟨_, rfl, (k : Int), rfl, by omega, by omega, fun D nD => lc_range (lo := 0) (n := ((k : Int)).toNat) (fun i G => ∃ (l : List Int) (u z : Int), Gr (muP p) F H F G ∧ G p = some (PurseO u z) ∧ 0 ≤ u ∧ 0 ≤ z ∧ Ow H F G D (.lst (l.map V.int)) ∧ l.length = i ∧ ∀ x ∈ l, 0 ≤ x ∧ x < S)
      ⟨[], a1, b1, g1.own nD, ln nD hp1, ha1, hb1, Ow.mk1 g1 nD, rfl, fun x z => nomatch z⟩ ?_ ?_⟩
    · rintro i G hi ⟨l, u, z, g, hp', hu, hz, w, ll, hl⟩
      have Dp : D ≠ p := fun e => by
        have := w.n
        rw [e, hp] at this; cases this
      refine ⟨rfl, yes ⟨_, rfl, _, rfl, p, u, z, S, rfl, hp', hu, hz, by omega, by omega, fun d a' b' d0 d1 ha' hb' => ?_⟩⟩
      obtain ⟨g2, k2⟩ := g.drw (a := a') (b := b') fp hp
      have w2 := w.call k2 (fun e => Dp e)
      have hp2 : (upd G p (PurseO a' b')) p = some (PurseO a' b') := upd_same
      generalize upd G p (PurseO a' b') = G2 at g2 w2 hp2 ⊢
      refine ⟨_, w2.h, by rw [List.length_map, ll]; exact lt_size (by omega), l ++ [d], a', b', g2.set w2.f (.inl w2.n), by rw [upd_ne Dp.symm]; exact hp2, ha', hb', ?_, by rw [List.length_append, ll]; rfl, fun x hx => ?_⟩
      · rw [List.map_append]; exact w2.set
      · rcases List.mem_append.mp hx with hx | hx
        · exact hl x hx
        · rw [List.mem_singleton.mp hx]; exact ⟨d0, d1⟩
    rintro G ⟨l, u, z, g, hp2, hu, hz, w, ll, hl⟩
    rw [Int.toNat_natCast] at ll
    refine ⟨D, _, rfl, .inl ⟨SqL.of w.h, fun c nc => ?_⟩⟩
    obtain ⟨F2, g2, hc, k2⟩ := nw (o := .tup (l.map V.int)) g nc
    have hp3 := k2.fr _ _ hp2 (fun z => z)
    change Ends.nx _ _ (upd G c (.tup (l.map V.int)))
    generalize upd G c (.tup (l.map V.int)) = G2 at g2 hp3 ⊢
    have iw : Is F2 (.ref c) (⟨l⟩ : Wd) := wd_is hc
    have bw : wB ⟨l⟩ := by show l.length ≤ 100; omega
    refine ⟨_, rfl, _, rfl, ta, xs, rfl, .inl (SqL.of (g2.fh _ _ (g2.ff _ _ hta))), p, u, z, _, rfl, hp3, hu, hz, by rw [ia.1]; omega, by rw [ia.1]; omega, fun at' a4 b4 at0 at1 ha4 hb4 => ?_⟩
    obtain ⟨g4, _⟩ := g2.drw (a := a4) (b := b4) fp hp
    have hp4 : (upd G2 p (PurseO a4 b4)) p = some (PurseO a4 b4) := upd_same
    change Ends.nx _ _ (upd G2 p (PurseO a4 b4))
    generalize upd G2 p (PurseO a4 b4) = G4 at g4 hp4 ⊢
    refine ⟨_, rfl, _, rfl, tb, ys, rfl, .inl (SqL.of (g4.fh _ _ (g2.ff _ _ htb))), p, a4, b4, _, rfl, hp4, ha4, hb4, by rw [ib.1]; omega, by rw [ib.1]; omega, fun to' a5 b5 to0 to1 ha5 hb5 => ?_⟩
    obtain ⟨g5, _⟩ := g4.drw (a := a5) (b := b5) fp hp
    have hp5 : (upd G4 p (PurseO a5 b5)) p = some (PurseO a5 b5) := upd_same
    change Ends.nx _ _ (upd G4 p (PurseO a5 b5))
    generalize upd G4 p (PurseO a5 b5) = G5 at g5 hp5 ⊢
    refine ⟨_, rfl, _, rfl, tc, zs, rfl, .inl (SqL.of (g5.fh _ _ (g2.ff _ _ htc))), p, a5, b5, _, rfl, hp5, ha5, hb5, by rw [ic.1]; omega, by rw [ic.1]; omega, fun kk a6 b6 kk0 kk1 ha6 hb6 => ?_⟩
    obtain ⟨g6, _⟩ := g5.drw (a := a6) (b := b6) fp hp
    have hp6 : (upd G5 p (PurseO a6 b6)) p = some (PurseO a6 b6) := upd_same
    change Ends.nx _ _ (upd G5 p (PurseO a6 b6))
    generalize upd G5 p (PurseO a6 b6) = G6 at g6 hp6 ⊢
    have iA := Is.up iA g2.ff
    have iB := Is.up iB g2.ff
    have iC := Is.up iC g2.ff
    have ham := g2.ff _ _ ham
    clear g g0 g1 g2 g4 g5 hp1 hp2 hp3 hp4 hp5 w k2 hta htb htc hTT hm hr0 h0 ha0 hes les
    generalize hs1 : List.set _ _ _ = s1
    have es1 : s1 = [some (.ref p), some (.ref am), some (.ref T), some (.str tShut.x), some (.int k), some (.ref ta), some (.ref tb), some (.ref tc), some (.int S), some (.int wy), some (.ref c), some (.int kk), some (.int at'), some (.int to'), none, none] := hs1.symm
    subst es1
    clear hs1
    -- 0
    refine ⟨_, rfl, rfl, _, rfl, ite2 (fun _ => ?_) (fun _ => ?_)⟩
    · refine ⟨_, rfl, _, rfl, _, rfl, _, rfl, _, rfl, sl_ls g6 iA fun F7 H7 v7 A7 g7 k7 i7 l7 m7 => ?_⟩
      refine ⟨_, rfl, _, rfl, _, _, rfl, rfl, _, rfl, ?_⟩
      dsimp only [tNoPart]
      refine sl_ls g7 (Is.up iA k7.ff) fun F8 H8 v8 A8 g8 k8 i8 l8 m8 => ?_
      refine cat_ls g8 (Is.up i7 k8.ff) i8 (by omega) fun F9 H9 v9 g9 k9 i9 => ?_
      refine ⟨_, rfl, _, rfl, five_le, fin g9 (k9.fr _ _ (k8.fr _ _ (k7.fr _ _ hp6 (fun z => z)) (fun z => z)) (fun z => z)) ha6 hb6 i9 (Is.up iB ((k7.ff.trans k8.ff).trans k9.ff)) (Is.up iC ((k7.ff.trans k8.ff).trans k9.ff)) ⟨by rw [List.length_append]; omega, by omega, by omega, fun x hx => ?_, wBB, wC⟩⟩
      rcases List.mem_append.mp hx with hx | hx
      · exact wA x (m7 x hx)
      · exact wA x (m8 x hx)
    -- 1
    refine ⟨_, rfl, rfl, _, rfl, ite2 (fun _ => ?_) (fun _ => ?_)⟩
    · refine ⟨_, rfl, _, rfl, _, rfl, _, rfl, _, rfl, _, rfl, sl_ls g6 iB fun F7 H7 v7 A7 g7 k7 i7 l7 m7 => ?_⟩
      refine ⟨_, rfl, _, rfl, _, _, rfl, rfl, _, rfl, ?_⟩
      dsimp only [tNoPart]
      refine sl_ls g7 (Is.up iB k7.ff) fun F8 H8 v8 A8 g8 k8 i8 l8 m8 => ?_
      refine cat_ls g8 (Is.up i7 k8.ff) i8 (by omega) fun F9 H9 v9 g9 k9 i9 => ?_
      refine ⟨_, rfl, five_le, fin g9 (k9.fr _ _ (k8.fr _ _ (k7.fr _ _ hp6 (fun z => z)) (fun z => z)) (fun z => z)) ha6 hb6 (Is.up iA ((k7.ff.trans k8.ff).trans k9.ff)) i9 (Is.up iC ((k7.ff.trans k8.ff).trans k9.ff)) ⟨by omega, by rw [List.length_append]; omega, by omega, wA, fun x hx => ?_, wC⟩⟩
      rcases List.mem_append.mp hx with hx | hx
      · exact wBB x (m7 x hx)
      · exact wBB x (m8 x hx)
    -- 2, 3
    refine ⟨_, rfl, _, _, rfl, rfl, _, rfl, ite2 (fun _ => ?_) (fun _ => ?_)⟩
    · refine ⟨_, rfl, _, rfl, _, rfl, _, rfl, _, rfl, _, rfl, _, rfl, sl_ls g6 iC fun F7 H7 v7 A7 g7 k7 i7 l7 m7 => ?_⟩
      refine ⟨_, rfl, _, rfl, _, _, rfl, rfl, _, rfl, ?_⟩
      dsimp only [tNoPart]
      refine sl_ls g7 (Is.up iC k7.ff) fun F8 H8 v8 A8 g8 k8 i8 l8 m8 => ?_
      refine cat_ls g8 (Is.up i7 k8.ff) i8 (by omega) fun F9 H9 v9 g9 k9 i9 => ?_
      refine ⟨five_le, fin g9 (k9.fr _ _ (k8.fr _ _ (k7.fr _ _ hp6 (fun z => z)) (fun z => z)) (fun z => z)) ha6 hb6 (Is.up iA ((k7.ff.trans k8.ff).trans k9.ff)) (Is.up iB ((k7.ff.trans k8.ff).trans k9.ff)) i9 ⟨by omega, by omega, by rw [List.length_append]; omega, wA, wBB, fun x hx => ?_⟩⟩
      rcases List.mem_append.mp hx with hx | hx
      · exact wC x (m7 x hx)
      · exact wC x (m8 x hx)
    -- 4
    refine ⟨_, rfl, rfl, _, rfl, ite2 (fun _ => ?_) (fun _ => ?_)⟩
    · refine ⟨_, rfl, _, rfl, _, rfl, _, rfl, one_le, fun l1 nl1 => ?_⟩
      obtain ⟨F7, g7, h7, k7⟩ := nw (o := .lst [.ref c]) g6 nl1
      refine cat_ls g7 (Is.up iA k7.ff) (B := [⟨l⟩]) ⟨l1, _, rfl, h7, All2.one (iw.up k7.ff)⟩ (by show s.A.length + 1 ≤ 100000; omega) fun F8 H8 v8 g8 k8 i8 => ?_
      obtain ⟨ta2, xs2, e, hta2, ia2⟩ := Is.up iA (k7.ff.trans k8.ff)
      cases e
      obtain ⟨x, hx⟩ : ∃ x, s.A[at'.toNat]? = some x := ⟨_, List.getElem?_eq_getElem (by rw [ia.1] at at1; omega)⟩
      obtain ⟨vx, hvx, ivx⟩ := ia2.get hx
      have hat : atI xs2 at' = some vx := by
        have := atI_nat hvx
        rwa [Int.toNat_of_nonneg at0] at this
      refine ⟨_, rfl, _, rfl, _, rfl, ta, _, _, _, rfl, rfl, SqL.of (g8.fh _ _ hta2), hat, one_le, fun l2 nl2 => ?_⟩
      obtain ⟨F9, g9, h9, k9⟩ := nw (o := .lst [vx]) g8 nl2
      refine cat_ls g9 (Is.up iB ((k7.ff.trans k8.ff).trans k9.ff)) (B := [x]) ⟨l2, _, rfl, h9, All2.one (ivx.up k9.ff)⟩ (by show s.B.length + 1 ≤ 100000; omega) fun F10 H10 v10 g10 k10 i10 => ?_
      refine ⟨_, rfl, five_le, fin g10 (k10.fr _ _ (k9.fr _ _ (k8.fr _ _ (k7.fr _ _ hp6 (fun z => z)) (fun z => z)) (fun z => z)) (fun z => z)) ha6 hb6 (Is.up i8 (k9.ff.trans k10.ff)) i10 (Is.up iC (((k7.ff.trans k8.ff).trans k9.ff).trans k10.ff)) ⟨by rw [List.length_append, List.length_singleton]; omega, by rw [List.length_append, List.length_singleton]; omega, by omega, fun x hx => ?_, fun y hy => ?_, wC⟩⟩
      · rcases List.mem_append.mp hx with hx | hx
        · exact wA x hx
        · rw [List.mem_singleton.mp hx]; exact bw
      · rcases List.mem_append.mp hy with hy | hy
        · exact wBB y hy
        · rw [List.mem_singleton.mp hy]; exact wA x (List.mem_of_getElem? hx)
    -- 5
    refine ⟨_, rfl, rfl, _, rfl, ite2 (fun _ => ?_) (fun _ => ?_)⟩
    · refine ⟨_, rfl, _, rfl, am, rws, rfl, .inl (SqL.of (g6.fh _ _ ham)), _, rfl, len4, fun t1 nt1 => ?_⟩
      obtain ⟨F7, g7, h7, k7⟩ := nw (o := .tup [.ref c, .int rws.length, .int 0, .ref c]) g6 nt1
      have i7 : Is F7 (.ref t1) (⟨⟨l⟩, rws.length, 0, ⟨l⟩⟩ : Md) := ⟨t1, _, _, _, _, rfl, h7, iw.up k7.ff, rfl, rfl, iw.up k7.ff⟩
      have hp7 := k7.fr _ _ hp6 (fun z => z)
      generalize upd G6 t1 (.tup [.ref c, .int rws.length, .int 0, .ref c]) = H7 at g7 k7 hp7 ⊢
      refine ⟨_, rfl, _, rfl, _, rfl, len4, fun t2 nt2 => ?_⟩
      obtain ⟨F8, g8, h8, k8⟩ := nw (o := .tup [.ref c, .int 0, .int S, .ref c]) g7 nt2
      have q8 := k7.ff.trans k8.ff
      have i8 : Is F8 (.ref t2) (⟨⟨l⟩, 0, S, ⟨l⟩⟩ : Md) := ⟨t2, _, _, _, _, rfl, h8, iw.up q8, rfl, rfl, iw.up q8⟩
      have i7 := i7.up k8.ff
      have hp8 := k8.fr _ _ hp7 (fun z => z)
      generalize upd H7 t2 (.tup [.ref c, .int 0, .int S, .ref c]) = H8 at g8 k8 hp8 ⊢
      refine ⟨_, rfl, _, rfl, _, rfl, am, rws, rfl, .inl (SqL.of (g8.fh _ _ (q8 _ _ ham))), p, a6, b6, _, rfl, hp8, ha6, hb6, by omega, by omega, fun d9 a9 b9 d90 d91 ha9 hb9 => ?_⟩
      obtain ⟨g9, _⟩ := g8.drw (a := a9) (b := b9) fp hp
      have hp9 : (upd H8 p (PurseO a9 b9)) p = some (PurseO a9 b9) := upd_same
      generalize upd H8 p (PurseO a9 b9) = H9 at g9 hp9 ⊢
      refine ⟨_, rfl, len4, fun t3 nt3 => ?_⟩
      obtain ⟨FA, gA, hA, kA⟩ := nw (o := .tup [.ref c, .int d9, .int 0, .ref c]) g9 nt3
      have qA := q8.trans kA.ff
      have iT3 : Is FA (.ref t3) (⟨⟨l⟩, d9, 0, ⟨l⟩⟩ : Md) := ⟨t3, _, _, _, _, rfl, hA, iw.up qA, rfl, rfl, iw.up qA⟩
      have i7 := i7.up kA.ff
      have i8 := i8.up kA.ff
      have hpA := kA.fr _ _ hp9 (fun z => z)
      generalize upd H9 t3 (.tup [.ref c, .int d9, .int 0, .ref c]) = HA at gA kA hpA ⊢
      refine ⟨three_le, fun l1 nl1 => ?_⟩
      obtain ⟨FB, gB, hB, kB⟩ := nw (o := .lst [.ref t1, .ref t2, .ref t3]) gA nl1
      have qB := qA.trans kB.ff
      have iB3 : Is FB (.ref l1) [(⟨⟨l⟩, rws.length, 0, ⟨l⟩⟩ : Md), ⟨⟨l⟩, 0, S, ⟨l⟩⟩, ⟨⟨l⟩, d9, 0, ⟨l⟩⟩] := ⟨l1, _, rfl, hB, All2.cons (i7.up kB.ff) (All2.cons (i8.up kB.ff) (All2.one (iT3.up kB.ff)))⟩
      have hpB := kB.fr _ _ hpA (fun z => z)
      change Ends.nx _ _ (upd HA l1 (.lst [.ref t1, .ref t2, .ref t3]))
      generalize upd HA l1 (.lst [.ref t1, .ref t2, .ref t3]) = HB at gB kB hpB ⊢
      clear i7 i8 iT3 hB
      refine ⟨_, rfl, _, rfl, _, rfl, _, rfl, len4, fun t4 nt4 => ?_⟩
      obtain ⟨FC, gC, hC, kC⟩ := nw (o := .tup [.ref c, .int (-1), .int 0, .ref c]) gB nt4
      have qC := qB.trans kC.ff
      have iT4 : Is FC (.ref t4) (⟨⟨l⟩, -1, 0, ⟨l⟩⟩ : Md) := ⟨t4, _, _, _, _, rfl, hC, iw.up qC, rfl, rfl, iw.up qC⟩
      have iB3 := iB3.up kC.ff
      have hpC := kC.fr _ _ hpB (fun z => z)
      generalize upd HB t4 (.tup [.ref c, .int (-1), .int 0, .ref c]) = HC at gC kC hpC ⊢
      refine ⟨_, rfl, _, rfl, _, rfl, len4, fun t5 nt5 => ?_⟩
      obtain ⟨FD, gD, hD, kD⟩ := nw (o := .tup [.ref c, .int 0, .int (-1), .ref c]) gC nt5
      have qD := qC.trans kD.ff
      have iT5 : Is FD (.ref t5) (⟨⟨l⟩, 0, -1, ⟨l⟩⟩ : Md) := ⟨t5, _, _, _, _, rfl, hD, iw.up qD, rfl, rfl, iw.up qD⟩
      have iB3 := iB3.up kD.ff
      have iT4 := iT4.up kD.ff
      have hpD := kD.fr _ _ hpC (fun z => z)
      generalize upd HC t5 (.tup [.ref c, .int 0, .int (-1), .ref c]) = HD at gD kD hpD ⊢
      refine ⟨_, rfl, _, rfl, sl_wd1 gD (qD _ _ hc) fun FE HE c1 gE kE hc1 => ?_⟩
      have qE := qD.trans kE.ff
      have hpE := kE.fr _ _ hpD (fun z => z)
      refine ⟨_, rfl, len4, fun t6 nt6 => ?_⟩
      obtain ⟨FG, gG, hG, kG⟩ := nw (o := .tup [.ref c1, .int 0, .int 0, .ref c]) gE nt6
      have qG := qE.trans kG.ff
      have iT6 : Is FG (.ref t6) (⟨⟨l.drop 1⟩, 0, 0, ⟨l⟩⟩ : Md) := ⟨t6, _, _, _, _, rfl, hG, Is.up (wd_is hc1) kG.ff, rfl, rfl, iw.up qG⟩
      have iB3 := iB3.up (kE.ff.trans kG.ff)
      have iT4 := iT4.up (kE.ff.trans kG.ff)
      have iT5 := iT5.up (kE.ff.trans kG.ff)
      have hpG := kG.fr _ _ hpE (fun z => z)
      generalize upd HE t6 (.tup [.ref c1, .int 0, .int 0, .ref c]) = HG at gG kG hpG ⊢
      refine ⟨_, rfl, _, rfl, one_le, fun p1 np1 => ?_⟩
      obtain ⟨FI, gI, hI, kI⟩ := nw (o := .tup ([0].map V.int)) gG np1
      have qI := qG.trans kI.ff
      refine cat_wd (l1 := l) (l2 := [0]) gI (qI _ _ hc) hI (by rw [List.length_singleton]; omega) fun FJ HJ c2 gJ kJ hc2 => ?_
      have qJ := qI.trans kJ.ff
      have hpJ := kJ.fr _ _ (kI.fr _ _ hpG (fun z => z)) (fun z => z)
      refine ⟨len4, fun t7 nt7 => ?_⟩
      obtain ⟨FK, gK, hK, kK⟩ := nw (o := .tup [.ref c, .int 0, .int 0, .ref c2]) gJ nt7
      have qK := qJ.trans kK.ff
      have kGK := (kI.ff.trans kJ.ff).trans kK.ff
      have iT7 : Is FK (.ref t7) (⟨⟨l⟩, 0, 0, ⟨l ++ [0]⟩⟩ : Md) := ⟨t7, _, _, _, _, rfl, hK, iw.up qK, rfl, rfl, Is.up (wd_is hc2) kK.ff⟩
      have iB3 := iB3.up kGK
      have iT4 := iT4.up kGK
      have iT5 := iT5.up kGK
      have iT6 := iT6.up kGK
      have hpK := kK.fr _ _ hpJ (fun z => z)
      generalize upd HJ t7 (.tup [.ref c, .int 0, .int 0, .ref c2]) = HK at gK kK hpK ⊢
      refine ⟨len4, fun l2 nl2 => ?_⟩
      obtain ⟨FL, gL, hL, kL⟩ := nw (o := .lst [.ref t4, .ref t5, .ref t6, .ref t7]) gK nl2
      refine cat_ls gL (iB3.up kL.ff) (B := [(⟨⟨l⟩, -1, 0, ⟨l⟩⟩ : Md), ⟨⟨l⟩, 0, -1, ⟨l⟩⟩, ⟨⟨l.drop 1⟩, 0, 0, ⟨l⟩⟩, ⟨⟨l⟩, 0, 0, ⟨l ++ [0]⟩⟩]) ⟨l2, _, rfl, hL, All2.cons (iT4.up kL.ff) (All2.cons (iT5.up kL.ff) (All2.cons (iT6.up kL.ff) (All2.one (iT7.up kL.ff))))⟩ (by show 7 ≤ 100000; decide) fun FM HM vM gM kM iM => ?_
      have qM := (qK.trans kL.ff).trans kM.ff
      have hpM := kM.fr _ _ (kL.fr _ _ hpK (fun z => z)) (fun z => z)
      obtain ⟨aM, xM, rfl, haM, iaM⟩ := iM
      refine ⟨_, rfl, _, rfl, _, rfl, _, rfl, _, rfl, _, rfl, _, rfl, sl_ls gM (Is.up iC qM) fun FN HN vN AN gN kN iN lN mN => ?_⟩
      have hpN := kN.fr _ _ hpM (fun z => z)
      refine ⟨_, rfl, _, rfl, p, a9, b9, 7, rfl, hpN, ha9, hb9, by decide, by decide, fun dO aO bO dO0 dO1 haO hbO => ?_⟩
      obtain ⟨gO, kO⟩ := gN.drw (a := aO) (b := bO) fp hp
      have hpO : (upd HN p (PurseO aO bO)) p = some (PurseO aO bO) := upd_same
      generalize upd HN p (PurseO aO bO) = HO at gO hpO ⊢
      have iaM := IsAll.up iaM kN.ff
      have l7 : dO.toNat < ([(⟨⟨l⟩, rws.length, 0, ⟨l⟩⟩ : Md), ⟨⟨l⟩, 0, S, ⟨l⟩⟩, ⟨⟨l⟩, d9, 0, ⟨l⟩⟩] ++ [(⟨⟨l⟩, -1, 0, ⟨l⟩⟩ : Md), ⟨⟨l⟩, 0, -1, ⟨l⟩⟩, ⟨⟨l.drop 1⟩, 0, 0, ⟨l⟩⟩, ⟨⟨l⟩, 0, 0, ⟨l ++ [0]⟩⟩]).length := by show dO.toNat < 7; omega
      have hx := List.getElem?_eq_getElem l7
      obtain ⟨vx, hvx, ivx⟩ := iaM.get hx
      have mx := List.mem_of_getElem? hx
      generalize (([(⟨⟨l⟩, rws.length, 0, ⟨l⟩⟩ : Md), ⟨⟨l⟩, 0, S, ⟨l⟩⟩, ⟨⟨l⟩, d9, 0, ⟨l⟩⟩] ++ [(⟨⟨l⟩, -1, 0, ⟨l⟩⟩ : Md), ⟨⟨l⟩, 0, -1, ⟨l⟩⟩, ⟨⟨l.drop 1⟩, 0, 0, ⟨l⟩⟩, ⟨⟨l⟩, 0, 0, ⟨l ++ [0]⟩⟩])[dO.toNat]'l7) = x at hx ivx mx
      have bx : wB x.a ∧ wB x.d := by
        have b0 : l.length ≤ 16 := by omega
        have mx : x ∈ [(⟨⟨l⟩, rws.length, 0, ⟨l⟩⟩ : Md), ⟨⟨l⟩, 0, S, ⟨l⟩⟩, ⟨⟨l⟩, d9, 0, ⟨l⟩⟩, ⟨⟨l⟩, -1, 0, ⟨l⟩⟩, ⟨⟨l⟩, 0, -1, ⟨l⟩⟩, ⟨⟨l.drop 1⟩, 0, 0, ⟨l⟩⟩, ⟨⟨l⟩, 0, 0, ⟨l ++ [0]⟩⟩] := mx
        have b1 : (l.drop 1).length ≤ 100 := by rw [List.length_drop]; omega
        have b2 : (l ++ [0]).length ≤ 100 := by rw [List.length_append, List.length_singleton]; omega
        simp only [List.mem_cons, List.not_mem_nil, or_false] at mx
        unfold wB
        rcases mx with rfl | rfl | rfl | rfl | rfl | rfl | rfl <;> exact ⟨by first | exact b1 | exact Nat.le_trans b0 (by decide), by first | exact b2 | exact Nat.le_trans b0 (by decide)⟩
      have hat : atI xM dO = some vx := by
        have := atI_nat hvx
        rwa [Int.toNat_of_nonneg dO0] at this
      refine ⟨aM, _, _, _, rfl, rfl, SqL.of (gO.fh _ _ (kN.ff _ _ haM)), hat, one_le, fun l3 nl3 => ?_⟩
      obtain ⟨FP, gP, hP, kP⟩ := nw (o := .lst [vx]) gO nl3
      refine cat_ls gP (iN.up kP.ff) (B := [x]) ⟨l3, _, rfl, hP, All2.one (ivx.up kP.ff)⟩ (by rw [List.length_singleton]; omega) fun FQ HQ vQ gQ kQ iQ => ?_
      have kNQ := (kN.ff.trans kP.ff).trans kQ.ff
      refine ⟨_, rfl, _, rfl, _, rfl, ?_⟩
      dsimp only [tNoPart]
      refine sl_ls gQ (Is.up iC (qM.trans kNQ)) fun FR HR vR AR gR kR iR lR mR => ?_
      refine cat_ls gR (iQ.up kR.ff) iR (by rw [List.length_append, List.length_singleton]; omega) fun FS HS vS gS kS iS => ?_
      have hpS := kS.fr _ _ (kR.fr _ _ (kQ.fr _ _ (kP.fr _ _ hpO (fun z => z)) (fun z => z)) (fun z => z)) (fun z => z)
      have qS := ((qM.trans kNQ).trans kR.ff).trans kS.ff
      refine ⟨five_le, fin gS hpS haO hbO (Is.up iA qS) (Is.up iB qS) iS ⟨by omega, by omega, by rw [List.length_append, List.length_append, List.length_singleton]; omega, wA, wBB, fun y hy => ?_⟩⟩
      rcases List.mem_append.mp hy with hy | hy
      · rcases List.mem_append.mp hy with hy | hy
        · exact wC y (mN y hy)
        · rw [List.mem_singleton.mp hy]; exact bx
      · exact wC y (mR y hy)
    -- 6
    refine ⟨_, rfl, rfl, _, rfl, ite2 (fun _ => ?_) (fun _ => ?_)⟩
    · refine ⟨_, rfl, one_le, fun p1 np1 => ?_⟩
      obtain ⟨F7, g7, h7, k7⟩ := nw (o := .tup ([0].map V.int)) g6 np1
      refine cat_wd (l1 := l) (l2 := [0]) g7 (k7.ff _ _ hc) h7 (by rw [List.length_singleton]; omega) fun F8 H8 c1 g8 k8 hc1 => ?_
      have q8 := k7.ff.trans k8.ff
      have hp8 := k8.fr _ _ (k7.fr _ _ hp6 (fun z => z)) (fun z => z)
      refine ⟨_, rfl, _, rfl, sl_wd1 g8 (q8 _ _ hc) fun F9 H9 c2 g9 k9 hc2 => ?_⟩
      have q9 := q8.trans k9.ff
      have hp9 := k9.fr _ _ hp8 (fun z => z)
      refine ⟨_, rfl, _, rfl, sl_wd1 g9 (q9 _ _ hc) fun FA HA c3 gA kA hc3 => ?_⟩
      have qA := q9.trans kA.ff
      have hpA := kA.fr _ _ hp9 (fun z => z)
      refine ⟨_, rfl, one_le, fun p2 np2 => ?_⟩
      obtain ⟨FB, gB, hB, kB⟩ := nw (o := .tup ([(S : Int)].map V.int)) gA np2
      refine cat_wd (l1 := l.drop 1) (l2 := [(S : Int)]) gB (kB.ff _ _ hc3) hB (by rw [List.length_singleton, List.length_drop]; omega) fun FC HC c4 gC kC hc4 => ?_
      have qC := (qA.trans kB.ff).trans kC.ff
      have hpC := kC.fr _ _ (kB.fr _ _ hpA (fun z => z)) (fun z => z)
      refine ⟨_, rfl, _, rfl, sl_wd1 gC (qC _ _ hc) fun FD HD c5 gD kD hc5 => ?_⟩
      have qD := qC.trans kD.ff
      have hpD := kD.fr _ _ hpC (fun z => z)
      refine ⟨_, rfl, one_le, fun p3 np3 => ?_⟩
      obtain ⟨FE, gE, hE, kE⟩ := nw (o := .tup ([-1].map V.int)) gD np3
      refine cat_wd (l1 := l.drop 1) (l2 := [-1]) gE (kE.ff _ _ hc5) hE (by rw [List.length_singleton, List.length_drop]; omega) fun FG HG c6 gG kG hc6 => ?_
      have qG := (qD.trans kE.ff).trans kG.ff
      have hpG := kG.fr _ _ (kE.fr _ _ hpD (fun z => z)) (fun z => z)
      have w1 : Is FG (.ref c1) (⟨l ++ [0]⟩ : Wd) := Is.up (wd_is hc1) (((k9.ff.trans kA.ff).trans (kB.ff.trans kC.ff)).trans (kD.ff.trans (kE.ff.trans kG.ff)))
      have w2 : Is FG (.ref c2) (⟨l.drop 1⟩ : Wd) := Is.up (wd_is hc2) ((kA.ff.trans (kB.ff.trans kC.ff)).trans (kD.ff.trans (kE.ff.trans kG.ff)))
      have w3 : Is FG (.ref c4) (⟨l.drop 1 ++ [(S : Int)]⟩ : Wd) := Is.up (wd_is hc4) (kD.ff.trans (kE.ff.trans kG.ff))
      have w4 : Is FG (.ref c6) (⟨l.drop 1 ++ [-1]⟩ : Wd) := wd_is hc6
      refine ⟨len4, fun l1 nl1 => ?_⟩
      obtain ⟨FI, gI, hI, kI⟩ := nw (o := .lst [.ref c1, .ref c2, .ref c4, .ref c6]) gG nl1
      have hpI := kI.fr _ _ hpG (fun z => z)
      generalize upd HG l1 (.lst [.ref c1, .ref c2, .ref c4, .ref c6]) = HI at gI kI hpI ⊢
      refine ⟨_, rfl, p, a6, b6, 4, rfl, hpI, ha6, hb6, by decide, by decide, fun dO aO bO dO0 dO1 haO hbO => ?_⟩
      obtain ⟨gO, kO⟩ := gI.drw (a := aO) (b := bO) fp hp
      have hpO : (upd HI p (PurseO aO bO)) p = some (PurseO aO bO) := upd_same
      generalize upd HI p (PurseO aO bO) = HO at gO hpO ⊢
      obtain ⟨vx, x, hat, ivx, bx⟩ : ∃ (vx : V) (x : Wd), atI [V.ref c1, .ref c2, .ref c4, .ref c6] dO = some vx ∧ Is FI vx x ∧ wB x := by
        rcases (by omega : dO = 0 ∨ dO = 1 ∨ dO = 2 ∨ dO = 3) with rfl | rfl | rfl | rfl
        · exact ⟨_, _, rfl, Is.up w1 kI.ff, by show (l ++ [0]).length ≤ 100; rw [List.length_append, List.length_singleton]; omega⟩
        · exact ⟨_, _, rfl, Is.up w2 kI.ff, by show (l.drop 1).length ≤ 100; rw [List.length_drop]; omega⟩
        · exact ⟨_, _, rfl, Is.up w3 kI.ff, by show (l.drop 1 ++ [(S : Int)]).length ≤ 100; rw [List.length_append, List.length_singleton, List.length_drop]; omega⟩
        · exact ⟨_, _, rfl, Is.up w4 kI.ff, by show (l.drop 1 ++ [(-1 : Int)]).length ≤ 100; rw [List.length_append, List.length_singleton, List.length_drop]; omega⟩
      refine ⟨l1, _, _, _, rfl, rfl, SqL.of (gO.fh _ _ hI), hat, ?_⟩
      have qI := qG.trans kI.ff
      clear w1 w2 w3 w4 hc1 hc2 hc3 hc4 hc5 hc6 g7 g8 g9 gA gB gC gD gE gG hp8 hp9 hpA hpC hpD hpG
      refine ⟨_, rfl, p, aO, bO, 2, rfl, hpO, haO, hbO, by decide, by decide, fun dP aP bP dP0 dP1 haP hbP => ⟨rfl, _, rfl, ?_⟩⟩
      obtain ⟨gP, kP⟩ := gO.drw (a := aP) (b := bP) fp hp
      have hpP : (upd HO p (PurseO aP bP)) p = some (PurseO aP bP) := upd_same
      generalize upd HO p (PurseO aP bP) = HP at gP hpP ⊢
      refine ite2 (fun _ => ?_) (fun _ => ?_)
      · refine ⟨_, rfl, _, rfl, _, rfl, _, rfl, _, rfl, sl_ls gP (Is.up iA qI) fun FN HN vN AN gN kN iN lN mN => ?_⟩
        refine ⟨_, rfl, one_le, fun l3 nl3 => ?_⟩
        obtain ⟨FQ, gQ, hQ, kQ⟩ := nw (o := .lst [vx]) gN nl3
        refine cat_ls gQ (iN.up kQ.ff) (B := [x]) ⟨l3, _, rfl, hQ, All2.one (ivx.up (kN.ff.trans kQ.ff))⟩ (by rw [List.length_singleton]; omega) fun FU HU vU gU kU iU => ?_
        have qU := ((qI.trans kN.ff).trans kQ.ff).trans kU.ff
        refine ⟨_, rfl, _, rfl, _, rfl, ?_⟩
        dsimp only [tNoPart]
        refine sl_ls gU (Is.up iA qU) fun FR HR vR AR gR kR iR lR mR => ?_
        refine cat_ls gR (iU.up kR.ff) iR (by rw [List.length_append, List.length_singleton]; omega) fun FS HS vS gS kS iS => ?_
        have hpS := kS.fr _ _ (kR.fr _ _ (kU.fr _ _ (kQ.fr _ _ (kN.fr _ _ hpP (fun z => z)) (fun z => z)) (fun z => z)) (fun z => z)) (fun z => z)
        have qS := (qU.trans kR.ff).trans kS.ff
        refine ⟨_, rfl, _, rfl, five_le, fin gS hpS haP hbP iS (Is.up iB qS) (Is.up iC qS) ⟨by rw [List.length_append, List.length_append, List.length_singleton]; omega, by omega, by omega, fun y hy => ?_, wBB, wC⟩⟩
        rcases List.mem_append.mp hy with hy | hy
        · rcases List.mem_append.mp hy with hy | hy
          · exact wA y (mN y hy)
          · rw [List.mem_singleton.mp hy]; exact bx
        · exact wA y (mR y hy)
      · refine ⟨_, rfl, _, rfl, _, rfl, _, rfl, _, rfl, _, rfl, sl_ls gP (Is.up iB qI) fun FN HN vN AN gN kN iN lN mN => ?_⟩
        refine ⟨_, rfl, one_le, fun l3 nl3 => ?_⟩
        obtain ⟨FQ, gQ, hQ, kQ⟩ := nw (o := .lst [vx]) gN nl3
        refine cat_ls gQ (iN.up kQ.ff) (B := [x]) ⟨l3, _, rfl, hQ, All2.one (ivx.up (kN.ff.trans kQ.ff))⟩ (by rw [List.length_singleton]; omega) fun FU HU vU gU kU iU => ?_
        have qU := ((qI.trans kN.ff).trans kQ.ff).trans kU.ff
        refine ⟨_, rfl, _, rfl, _, rfl, ?_⟩
        dsimp only [tNoPart]
        refine sl_ls gU (Is.up iB qU) fun FR HR vR AR gR kR iR lR mR => ?_
        refine cat_ls gR (iU.up kR.ff) iR (by rw [List.length_append, List.length_singleton]; omega) fun FS HS vS gS kS iS => ?_
        have hpS := kS.fr _ _ (kR.fr _ _ (kU.fr _ _ (kQ.fr _ _ (kN.fr _ _ hpP (fun z => z)) (fun z => z)) (fun z => z)) (fun z => z)) (fun z => z)
        have qS := (qU.trans kR.ff).trans kS.ff
        refine ⟨_, rfl, five_le, fin gS hpS haP hbP (Is.up iA qS) iS (Is.up iC qS) ⟨by omega, by rw [List.length_append, List.length_append, List.length_singleton]; omega, by omega, wA, fun y hy => ?_, wC⟩⟩
        rcases List.mem_append.mp hy with hy | hy
        · rcases List.mem_append.mp hy with hy | hy
          · exact wBB y (mN y hy)
          · rw [List.mem_singleton.mp hy]; exact bx
        · exact wBB y (mR y hy)
    -- 7
    refine ⟨_, rfl, rfl, _, rfl, ite2 (fun _ => ?_) (fun _ => ?_)⟩
    · refine ⟨_, rfl, _, rfl, _, rfl, _, _, rfl, rfl, _, _, rfl, rfl, ⟨by decide, by decide, by decide⟩, five_le, fun l1 nl1 => ?_⟩
      have g7 := g6.own (o := .lst [.int 0, .int (-1), .int 5, .int ((k : Int) + 1), .int (10 ^ (9 : Int).toNat)]) nl1
      have hl : (upd G6 l1 (.lst [.int 0, .int (-1), .int 5, .int ((k : Int) + 1), .int (10 ^ (9 : Int).toNat)])) l1 = some (.lst [.int 0, .int (-1), .int 5, .int ((k : Int) + 1), .int (10 ^ (9 : Int).toNat)]) := upd_same
      have hp7 := ln (u := .lst [.int 0, .int (-1), .int 5, .int ((k : Int) + 1), .int (10 ^ (9 : Int).toNat)]) nl1 hp6
      have lp : l1 ≠ p := (ne_of_none hp6 nl1).symm
      generalize upd G6 l1 (.lst [.int 0, .int (-1), .int 5, .int ((k : Int) + 1), .int (10 ^ (9 : Int).toNat)]) = H7 at g7 hl hp7 ⊢
      refine ⟨_, rfl, p, a6, b6, 5, rfl, hp7, ha6, hb6, by decide, by decide, fun dO aO bO dO0 dO1 haO hbO => ?_⟩
      obtain ⟨gO, kO⟩ := g7.drw (a := aO) (b := bO) fp hp
      have hpO : (upd H7 p (PurseO aO bO)) p = some (PurseO aO bO) := upd_same
      have hlO : (upd H7 p (PurseO aO bO)) l1 = _ := (upd_ne lp).trans hl
      generalize upd H7 p (PurseO aO bO) = HO at gO hpO hlO ⊢
      obtain ⟨wi, hat⟩ : ∃ wi : Int, atI [V.int 0, .int (-1), .int 5, .int ((k : Int) + 1), .int (10 ^ (9 : Int).toNat)] dO = some (.int wi) := by
        rcases (by omega : dO = 0 ∨ dO = 1 ∨ dO = 2 ∨ dO = 3 ∨ dO = 4) with rfl | rfl | rfl | rfl | rfl <;> exact ⟨_, rfl⟩
      exact ⟨l1, _, _, _, rfl, rfl, SqL.of hlO, hat, _, rfl, _, rfl, _, rfl, five_le, fin gO hpO haO hbO iA iB iC ⟨by omega, by omega, by omega, wA, wBB, wC⟩⟩
    -- 8
    obtain ⟨ta2, xs2, e, hta2, ia2⟩ := id iA
    cases e
    obtain ⟨tb2, ys2, e, htb2, ib2⟩ := id iB
    cases e
    obtain ⟨tc2, zs2, e, htc2, ic2⟩ := id iC
    cases e
    refine ⟨_, rfl, _, rfl, _, rfl, ta, xs2, rfl, SqL.of (g6.fh _ _ hta2), fun l1 nl1 => ?_⟩
    obtain ⟨F7, g7, h7, k7⟩ := nw (o := .lst xs2.reverse) g6 nl1
    have i7 : Is F7 (.ref l1) s.A.reverse := ⟨l1, _, rfl, h7, IsAll.up ia2.rev k7.ff⟩
    have hp7 := k7.fr _ _ hp6 (fun z => z)
    refine ⟨_, rfl, _, rfl, sl_ls g7 (Is.up iA k7.ff) fun F8 H8 v8 A8 g8 k8 i8 l8 m8 => ?_⟩
    refine cat_ls g8 (Is.up i7 k8.ff) i8 (by rw [List.length_reverse]; omega) fun F9 H9 v9 g9 k9 i9 => ?_
    have q9 := (k7.ff.trans k8.ff).trans k9.ff
    have hp9 := k9.fr _ _ (k8.fr _ _ hp7 (fun z => z)) (fun z => z)
    refine ⟨_, rfl, tb, ys2, rfl, SqL.of (g9.fh _ _ (q9 _ _ htb2)), fun l2 nl2 => ?_⟩
    obtain ⟨FA, gA, hA, kA⟩ := nw (o := .lst ys2.reverse) g9 nl2
    have iAr : Is FA (.ref l2) s.B.reverse := ⟨l2, _, rfl, hA, IsAll.up ib2.rev (q9.trans kA.ff)⟩
    have hpA := kA.fr _ _ hp9 (fun z => z)
    have qA := q9.trans kA.ff
    refine ⟨_, rfl, tc, zs2, rfl, SqL.of (gA.fh _ _ (qA _ _ htc2)), fun l3 nl3 => ?_⟩
    obtain ⟨FB, gB, hB, kB⟩ := nw (o := .lst zs2.reverse) gA nl3
    have iBr : Is FB (.ref l3) s.C.reverse := ⟨l3, _, rfl, hB, IsAll.up ic2.rev (qA.trans kB.ff)⟩
    have hpB := kB.fr _ _ hpA (fun z => z)
    refine ⟨_, rfl, _, rfl, _, rfl, _, rfl, _, _, rfl, rfl, _, rfl, sl_ls gB (Is.up iC (qA.trans kB.ff)) fun FC HC vC AC gC kC iCc lC mC => ?_⟩
    refine cat_ls gC (iBr.up kC.ff) iCc (by rw [List.length_reverse]; omega) fun FD HD vD gD kD iD => ?_
    have hpD := kD.fr _ _ (kC.fr _ _ hpB (fun z => z)) (fun z => z)
    have qD := kC.ff.trans kD.ff
    refine ⟨five_le, fin gD hpD ha6 hb6 (Is.up i9 ((kA.ff.trans kB.ff).trans qD)) (Is.up iAr (kB.ff.trans qD)) iD ⟨by rw [List.length_append, List.length_reverse]; omega, by rw [List.length_reverse]; omega, by rw [List.length_append, List.length_reverse]; omega, fun y hy => ?_, fun y hy => wBB y (List.mem_reverse.mp hy), fun y hy => ?_⟩⟩
    · rcases List.mem_append.mp hy with hy | hy
      · exact wA y (List.mem_reverse.mp hy)
      · exact wA y (m8 y hy)
    · rcases List.mem_append.mp hy with hy | hy
      · exact wC y (List.mem_reverse.mp hy)
      · exact wC y (mC y hy)
/-! ### lists of lists of data that may be changed yet -/
section
variable {α : Type} [Dat α]
structure MaG (H F1 H1 : Hp) (m : Addr) (rs : List Addr) (ess : List (List V)) (M : List (List α)) : Prop where
  ow : Ow H F1 H1 m (.lst (rs.map V.ref))
  nd : rs.Nodup
  ne : m ∉ rs
  len : rs.length = ess.length
  rows : ∀ (i : Nat) r es, rs[i]? = some r → ess[i]? = some es → Ow H F1 H1 r (.lst es)
  dat : All2 (fun es row => IsAll F1 es row) ess M
section
variable {mu mu' : Addr → Prop} {H F F1 H1 F2 H2 : Hp} {m : Addr} {rs : List Addr} {ess : List (List V)} {M : List (List α)}
theorem MaG.row (x : MaG H F1 H1 m rs ess M) {r : Addr} (h : r ∈ rs) : ∃ es, Ow H F1 H1 r (.lst es) := by
  obtain ⟨i, hi⟩ := List.getElem?_of_mem h
  have l := (List.getElem?_eq_some_iff.mp hi).1
  exact ⟨ess[i]'(by rw [← x.len]; exact l), x.rows i r _ hi (List.getElem?_eq_getElem _)⟩
theorem MaG.gr (x : MaG H F1 H1 m rs ess M) (g : Gr mu F1 H1 F2 H2) (k : ∀ c, mu c → c ≠ m ∧ c ∉ rs) : MaG H F2 H2 m rs ess M where
  ow := x.ow.call g fun z => (k m z).1 rfl
  nd := x.nd
  ne := x.ne
  len := x.len
  rows := fun i r es h1 h2 => (x.rows i r es h1 h2).call g fun z => (k r z).2 (List.mem_of_getElem? h1)
  dat := x.dat.imp fun es row z => z.up g.ff
theorem MaG.off (x : MaG H F1 H1 m rs ess M) {p : Addr} {o : HO} (h : H p = some o) : ∀ c, muP p c → c ≠ m ∧ c ∉ rs := fun c e => by
  rw [show c = p from e]
  refine ⟨fun z => ?_, fun z => ?_⟩
  · rw [z, x.ow.n] at h; cases h
  · obtain ⟨es, w⟩ := x.row z
    rw [w.n] at h; cases h
theorem MaG.offn (x : MaG H F1 H1 m rs ess M) {p : Addr} (h : H1 p = none) : p ≠ m ∧ p ∉ rs := by
  refine ⟨fun z => ?_, fun z => ?_⟩
  · rw [z, x.ow.h] at h; cases h
  · obtain ⟨es, w⟩ := x.row z
    rw [w.h] at h; cases h
/-- a row that is done comes in -/
theorem MaG.add (x : MaG H F1 H1 m rs ess M) {r : Addr} {es : List V} {row : List α} (w : Ow H F1 H1 r (.lst es)) (k : r ≠ m ∧ r ∉ rs) (d : IsAll F1 es row) : MaG H F1 (upd H1 m (.lst ((rs ++ [r]).map V.ref))) m (rs ++ [r]) (ess ++ [es]) (M ++ [row]) where
  ow := x.ow.set
  nd := nd_snoc x.nd k.2
  ne := fun z => by
    rcases List.mem_append.mp z with z | z
    · exact x.ne z
    · exact k.1 (List.mem_singleton.mp z).symm
  len := by rw [List.length_append, List.length_append, x.len]; rfl
  rows := fun i r' es' h1 h2 => by
    by_cases l : i < rs.length
    · rw [List.getElem?_append_left l] at h1
      rw [List.getElem?_append_left (by rw [← x.len]; exact l)] at h2
      exact (x.rows i r' es' h1 h2).other fun z => x.ne (by rw [← z]; exact List.mem_of_getElem? h1)
    · rw [List.getElem?_append_right (by omega)] at h1
      rw [List.getElem?_append_right (by rw [← x.len]; omega), ← x.len] at h2
      cases e : i - rs.length with
      | zero =>
        rw [e] at h1 h2
        cases h1; cases h2
        exact w.other k.1
      | succ n => rw [e] at h1; cases h1
  dat := x.dat.app (All2.one d)
/-- an entry of it is changed -/
theorem MaG.put (x : MaG H F1 H1 m rs ess M) {i j : Nat} {r : Addr} {es : List V} {row : List α} {v : V} {e : α} (hr : rs[i]? = some r) (hes : ess[i]? = some es) (hrow : M[i]? = some row) (hv : Is F1 v e) :
    MaG H F1 (upd H1 r (.lst (es.set j v))) m rs (ess.set i (es.set j v)) (M.set i (row.set j e)) where
  ow := x.ow.other fun z => x.ne (by rw [z]; exact List.mem_of_getElem? hr)
  nd := x.nd
  ne := x.ne
  len := by rw [List.length_set]; exact x.len
  rows := fun i' r' es' h1 h2 => by
    by_cases e : i = i'
    · subst e
      rw [hr] at h1
      cases h1
      rw [List.getElem?_set_self (List.getElem?_eq_some_iff.mp hes).1] at h2
      cases h2
      exact (x.rows i r es hr hes).set
    · rw [List.getElem?_set_ne e] at h2
      exact (x.rows i' r' es' h1 h2).other fun z => e (nd_ix x.nd hr (by rw [← z]; exact h1))
  dat := x.dat.set ((x.dat.2 i es row hes hrow).set hv j) i
/-- it is changed no more -/
theorem MaG.frz (x : MaG H F1 H1 m rs ess M) (g : Gr mu F H F1 H1) : ∃ F2, Gr mu F H F2 H1 ∧ Same F1 F2 ∧ Is F2 (.ref m) M ∧ (∀ c, c ≠ m → c ∉ rs → F2 c = F1 c) ∧ ∀ c, c = m ∨ c ∈ rs → F2 c = H1 c := by
  have own : ∀ c, (c = m ∨ c ∈ rs) → H c = none ∧ F1 c = none ∧ ∃ o, H1 c = some o := fun c h => by
    rcases h with rfl | h
    · exact ⟨x.ow.n, x.ow.f, _, x.ow.h⟩
    · obtain ⟨es, w⟩ := x.row h
      exact ⟨w.n, w.f, _, w.h⟩
  have s : Same F1 (fun c => if c = m ∨ c ∈ rs then H1 c else F1 c) := fun c o h => by
    by_cases e : c = m ∨ c ∈ rs
    · rw [(own c e).2.1] at h; cases h
    · simp only [e, if_false]; exact h
  refine ⟨fun c => if c = m ∨ c ∈ rs then H1 c else F1 c, ⟨fun c o h => s c o (g.ff c o h), fun c o h => ?_, fun c o h => ?_, g.fr, g.th⟩, s, ⟨m, rs.map V.ref, rfl, ?_, by rw [List.length_map, x.len]; exact x.dat.1, fun i v row h1 h2 => ?_⟩, fun c h1 h2 => if_neg fun z => z.elim h1 h2, fun c h => if_pos h⟩
  · by_cases e : c = m ∨ c ∈ rs
    · simp only [e, if_true] at h; exact h
    · simp only [e, if_false] at h; exact g.fh c o h
  · by_cases e : c = m ∨ c ∈ rs
    · exact .inr (own c e).1
    · simp only [e, if_false] at h; exact g.nw c o h
  · show (if m = m ∨ m ∈ rs then H1 m else F1 m) = _
    rw [if_pos (.inl rfl)]; exact x.ow.h
  · rw [List.getElem?_map] at h1
    cases hr : rs[i]? with
    | none => rw [hr] at h1; cases h1
    | some r =>
      rw [hr] at h1
      cases h1
      obtain ⟨es, hes, hd⟩ := x.dat.get h2
      refine ⟨r, es, rfl, ?_, hd.up s⟩
      show (if r = m ∨ r ∈ rs then H1 r else F1 r) = _
      rw [if_pos (.inr (List.mem_of_getElem? hr))]
      exact (x.rows i r es hr hes).h
/-- it may be changed again -/
theorem MaG.thaw {F0 F3 G : Hp} (s0 : Same F0 H) (x : MaG H F1 H1 m rs ess M) (s : Same F1 F2) (on : ∀ c, c = m ∨ c ∈ rs → F2 c = H1 c) (s' : Same F2 F3) (g : Gr mu F0 H F3 G) : ∃ F', Gr mu F0 H F' G ∧ Same F1 F' ∧ MaG H F' G m rs ess M := by
  have own : ∀ c, (c = m ∨ c ∈ rs) → H c = none ∧ F1 c = none ∧ ∀ o, H1 c = some o → G c = some o := fun c h => by
    have k : ∀ o, H1 c = some o → G c = some o := fun o e => g.fh _ _ (s' _ _ ((on c h).trans e))
    rcases id h with rfl | h
    · exact ⟨x.ow.n, x.ow.f, k⟩
    · obtain ⟨es, w⟩ := x.row h
      exact ⟨w.n, w.f, k⟩
  have sa : Same F1 (fun c => if c = m ∨ c ∈ rs then none else F3 c) := fun c o h => by
    by_cases e : c = m ∨ c ∈ rs
    · rw [(own c e).2.1] at h; cases h
    · simp only [e, if_false]; exact s' _ _ (s _ _ h)
  have sb : Same (fun c => if c = m ∨ c ∈ rs then none else F3 c) F3 := fun c o h => by
    by_cases e : c = m ∨ c ∈ rs
    · simp only [e, if_true] at h; cases h
    · simp only [e, if_false] at h; exact h
  have no : ∀ c, (c = m ∨ c ∈ rs) → (fun c => if c = m ∨ c ∈ rs then none else F3 c) c = none := fun c e => if_pos e
  refine ⟨fun c => if c = m ∨ c ∈ rs then none else F3 c, ⟨fun c o h => ?_, fun c o h => g.fh _ _ (sb _ _ h), fun c o h => g.nw _ _ (sb _ _ h), g.fr, g.th⟩, sa, ⟨⟨x.ow.n, no _ (.inl rfl), (own _ (.inl rfl)).2.2 _ x.ow.h⟩, x.nd, x.ne, x.len, fun i r es h1 h2 => ?_, x.dat.imp fun es row z => z.up sa⟩⟩
  · by_cases e : c = m ∨ c ∈ rs
    · have z := s0 c o h
      rw [(own c e).1] at z; cases z
    · simp only [e, if_false]; exact g.ff c o h
  · have w := x.rows i r es h1 h2
    have m' : r = m ∨ r ∈ rs := .inr (List.mem_of_getElem? h1)
    exact ⟨w.n, no _ m', (own _ m').2.2 _ w.h⟩
theorem MaG.at (x : MaG H F1 H1 m rs ess M) {i : Nat} {row : List α} (h : M[i]? = some row) : ∃ r es, rs[i]? = some r ∧ ess[i]? = some es ∧ Ow H F1 H1 r (.lst es) ∧ IsAll F1 es row := by
  obtain ⟨es, hes, al⟩ := x.dat.get h
  have l : i < rs.length := by rw [x.len]; exact (List.getElem?_eq_some_iff.mp hes).1
  exact ⟨_, es, List.getElem?_eq_getElem l, hes, x.rows i _ es (List.getElem?_eq_getElem l) hes, al⟩
end
end
theorem cp_step {F H F4 G : Hp} {α : Type} [Dat α] {D : Addr} {rs : List Addr} {ess : List (List V)} {Ms : List (List α)} {es : List V} {row : List α} {l : Addr} {mu : Addr → Prop} (g : Gr mu F H F4 G) (x : MaG H F4 G D rs ess Ms) (n : G l = none) (al : IsAll F4 es row) :
    Gr mu F H F4 (upd (upd G l (.lst es)) D (.lst ((rs ++ [l]).map V.ref))) ∧ MaG H F4 (upd (upd G l (.lst es)) D (.lst ((rs ++ [l]).map V.ref))) D (rs ++ [l]) (ess ++ [es]) (Ms ++ [row]) := by
  have g4 := g.own (o := .lst es) n
  have w4 : Ow H F4 (upd G l (.lst es)) l (.lst es) := Ow.mk1 g n
  have x4 := x.gr ((Gr.refl (mu := mu0) g.fh).own (o := .lst es) n) fun c z => z.elim
  exact ⟨g4.set x4.ow.f (.inl x4.ow.n), x4.add w4 (x.offn n) al⟩
/-! ### copies -/
def sp_L_copy : Sp := fun vs H Q _ => ∃ (F : Hp) (m : V) (M : Mach), vs = [m] ∧ Same F H ∧ Is F m M ∧ M.length ≤ 100 ∧ ∀ (H' : Hp) (u : Addr) (rs : List Addr) (ess : List (List V)), Gr mu0 F H F H' → MaG H F H' u rs ess M → Q (.ref u) H'
theorem ok_L_copy (t : Tx K mg) : FnOk P w K mg base CX0 1 t.a_L_copy t.fd_L_copy ["_law_machine_here"] sp_L_copy := by
  refine t.F_L_copy.ok sc_L_copy (fun vs H Q E h => ?_) (fun cdv A outer s H vs Q E hr h => ?_)
  · obtain ⟨F, m, M, rfl, _⟩ := h
    rfl
  · obtain ⟨F, m, M, rfl, sF, hm, lM, q⟩ := h
    refine ⟨_, (pss_one (ps_ret (pe_lc (own := [("_law_entries", 1)]) (g := gName 1) (tt := tYes) rfl sc_L_copy.nd (pi_list (pv 0)) (blkOk_by (N := N_L_copy) (sc := defScope s_L_copy) (by decide +kernel)) (fun _ _ _ _ _ => (pg_name (i := 1) sc_L_copy.nd rfl (by first | exact Or.inl rfl | exact Or.inr rfl))) (fun _ _ _ _ _ => pts_nil) (fun _ _ _ _ _ => (pe_callTy (T := "list") (crK (K := K) (r := rListQ) rfl call_listQ) (by rfl) t.n_list (by decide +kernel) (pa_cons (pv 1) pa_nil)))))), ?_⟩
    have g3 : Gr mu0 F H F H := Gr.refl sF
    obtain ⟨bm, bv, rfl, hbm, hbv⟩ := hm
    refine ⟨_, rfl, bm, rfl, ⟨_, SqL.of (g3.fh _ _ hbm)⟩, fun D nD => lc_list (K := K) (a := bm) (xs := bv) (fun i G2 => ∃ (rs : List Addr) (ess : List (List V)), Gr mu0 F H F G2 ∧ MaG H F G2 D rs ess (M.take i))
      ⟨[], [], g3.own nD, ⟨Ow.mk1 g3 nD, List.nodup_nil, (fun z => nomatch z), rfl, fun i r es h _ => (by cases h), All2.nil⟩⟩ (fun i G2 _ ⟨_, _, g, _⟩ => SqL.of (g.fh _ _ hbm)) ?_ ?_⟩
    · rintro i y G2 hi ⟨rs, ess, g, x⟩
      obtain ⟨row, hMi, ra, es, rfl, hra, hes⟩ := hbv.get' hi
      have il : i < M.length := (List.getElem?_eq_some_iff.mp hMi).1
      have lrs : rs.length ≤ i := by rw [x.len, x.dat.1, List.length_take]; omega
      refine ⟨rfl, yes ⟨_, rfl, ra, es, rfl, .inl (SqL.of (g.fh _ _ hra)), fun l nl => ?_⟩⟩
      obtain ⟨g4, x4⟩ := cp_step g x nl hes
      refine ⟨_, (x.ow.own nl).h, by rw [List.length_map]; exact lt_size (by omega), ?_⟩
      have e1 : rs.map V.ref ++ [V.ref l] = (rs ++ [l]).map V.ref := by rw [List.map_append]; rfl
      rw [e1]
      refine ⟨rs ++ [l], ess ++ [es], g4, ?_⟩
      rw [List.take_add_one, hMi]
      exact x4
    · rintro G2 ⟨rs, ess, g, x⟩
      rw [hbv.1, List.take_length] at x
      exact q G2 D rs ess g x
theorem kt_bool {K : PySem.W.Frag} : PySem.W.kitOne K (.type "bool") (.type "bool") = some true := kit_ty (by decide +kernel)
/-! ### shows, of shut papers -/
theorem ne_str {a b : Str} (h : ¬ a = b) : ¬ decide (V.str a = V.str b) = true := fun z => h (V.str.inj (of_decide_eq_true z))
def sp_shows : Sp := fun vs H Q _ => ∃ (F : Hp) (m : V) (M : Mach) (R S : Nat) (T : Addr) (wi : Int) (A B : List Wd) (C : List Md), vs = [m, .ref T] ∧ Same F H ∧ Is F m M ∧ MOk M R S ∧ PaAt F T tShut.x wi A B C ∧ A.length ≤ 20000 ∧ B.length ≤ 20000 ∧ C.length ≤ 20000 ∧ (∀ x ∈ A, x.l.length ≤ 100000) ∧ (∀ x ∈ B, x.l.length ≤ 100000) ∧ (∀ x ∈ C, x.a.l.length ≤ 100000 ∧ x.d.l.length ≤ 100000) ∧
  (ShutOk M R S wi A B C → ∀ F' H', Gr mu0 F H F' H' → Q (.bl true) H') ∧ (¬ ShutOk M R S wi A B C → ∀ F' H', Gr mu0 F H F' H' → Q (.bl false) H')
theorem ok_shows (t : Tx K mg) : FnOk P w K mg base CX0 5 t.a_shows t.fd_shows ["machine", "paper"] sp_shows := by
  refine t.F_shows.ok sc_shows (fun vs H Q E h => ?_) (fun cdv A outer s H vs Q E hr h => ?_)
  · obtain ⟨F, m, M, R, S, T, wi, A, B, C, rfl, _⟩ := h
    rfl
  · obtain ⟨F, m, M, R, S, T, wi, LA, LB, LC, rfl, sF, hm, hM, hT, nA, nB, nC, bA, bB, bC, qt, qf⟩ := h
    refine ⟨_, (pss_cons (ps_expr (pe_call (ok_must_machine t) (hr.mono (by decide)) (by rfl) t.m_must_machine t.F_must_machine.kp t.b_must_machine .nil pass0 (pa_cons (pv 0) pa_nil)))
      (pss_cons (ps_if (pt_cmpR op_eq (pe_ix ix_tup (pv 1) pe_int (fun _ _ => rfl)) pe_str (nomark _)) (pss_one ps_never) pss_nil)
      (pss_cons (ps_if (pt_cmpR op_eq (pe_ix ix_tup (pv 1) pe_int (fun _ _ => rfl)) pe_str (nomark _)) (pss_one ps_never) pss_nil)
      (pss_cons (ps_if (pt_cmpR op_eq (pe_ix ix_tup (pv 1) pe_int (fun _ _ => rfl)) pe_str (nomark _)) (pss_one ps_never) pss_nil)
      (pss_cons (ps_if (pt_cmpR op_eq (pe_ix ix_tup (pv 1) pe_int (fun _ _ => rfl)) pe_str (nomark _)) (pss_one ps_never) pss_nil)
      (pss_cons (ps_if (pt_cmpR op_eq (pe_ix ix_tup (pv 1) pe_int (fun _ _ => rfl)) pe_str (nomark _)) (pss_one (ps_ret (pe_call (ok_shows_shut t) (hr.mono (by decide)) (by rfl) t.m_shows_shut t.F_shows_shut.kp t.b_shows_shut .nil pass0 (pa_cons (pv 0) (pa_cons (pv 1) pa_nil))))) pss_nil)
      (pss_one (ps_ret pe_bl)))))))), ?_⟩
    refine ⟨_, rfl, F, m, M, R, S, rfl, sF, hm, hM, fun Ha ga => ?_⟩
    have iF : ∀ {A B : Prop} {a b : Str}, ¬ a = b → B → if decide (V.str a = V.str b) = true then A else B := fun h b => by rw [if_neg (ne_str h)]; exact b
    obtain ⟨ta, tb, tc, xs, ys, zs, hTT, _⟩ := id hT
    have hA := SqT.of (K := K) (ga.fh _ _ hTT)
    refine ⟨_, rfl, T, _, _, _, rfl, rfl, hA, atI_nat (j := 0) rfl, rfl, _, rfl, iF (by decide +kernel) ?_⟩
    refine ⟨_, rfl, T, _, _, _, rfl, rfl, hA, atI_nat (j := 0) rfl, rfl, _, rfl, iF (by decide +kernel) ?_⟩
    refine ⟨_, rfl, T, _, _, _, rfl, rfl, hA, atI_nat (j := 0) rfl, rfl, _, rfl, iF (by decide +kernel) ?_⟩
    refine ⟨_, rfl, T, _, _, _, rfl, rfl, hA, atI_nat (j := 0) rfl, rfl, _, rfl, iF (by decide +kernel) ?_⟩
    refine ⟨_, rfl, T, _, _, _, rfl, rfl, hA, atI_nat (j := 0) rfl, rfl, _, rfl, ifT (decide_eq_true rfl) ?_⟩
    exact ⟨_, rfl, _, rfl, F, m, M, R, S, T, tShut.x, wi, LA, LB, LC, rfl, ga.fh, hm, hM, hT, nA, nB, nC, bA, bB, bC, fun z F' H' g => qt z F' H' (ga.trans g), fun z F' H' g => qf z F' H' (ga.trans g)⟩
/-! ### a paper asked about -/
theorem shut_sp {P : Program} {w : World} {F H : Hp} {m : V} {M : Mach} {R S : Nat} {T : Addr} {wi : Int} {A B : List Wd} {C : List Md} {Q : VK} {E : XK} (sF : Same F H) (hm : Is F m M) (hM : MOk M R S) (hT : PaAt F T tShut.x wi A B C) (nA : A.length ≤ 20000) (nB : B.length ≤ 20000) (nC : C.length ≤ 20000) (bA : ∀ x ∈ A, x.l.length ≤ 100000) (bB : ∀ x ∈ B, x.l.length ≤ 100000) (bC : ∀ x ∈ C, x.a.l.length ≤ 100000 ∧ x.d.l.length ≤ 100000)
    (q : ∀ (b : Bool) (F' H' : Hp), (b = true ↔ ShutOk M R S wi A B C) → Gr mu0 F H F' H' → Q (.bl b) H') : sp_shows_shut P w [m, .ref T] H Q E :=
  ⟨F, m, M, R, S, T, _, wi, A, B, C, rfl, sF, hm, hM, hT, nA, nB, nC, bA, bB, bC, fun h F' H' g => q true F' H' ⟨fun _ => h, fun _ => rfl⟩ g, fun h F' H' g => q false F' H' ⟨fun z => (nomatch z), fun z => absurd z h⟩ g⟩
theorem good_sp {F H : Hp} {m : V} {M : Mach} {R S : Nat} {T : Addr} {wi : Int} {A B : List Wd} {C : List Md} {Q : VK} {E : XK} (sF : Same F H) (hm : Is F m M) (hM : MOk M R S) (hT : PaAt F T tShut.x wi A B C) (nA : A.length ≤ 20000) (nB : B.length ≤ 20000) (nC : C.length ≤ 20000) (bA : ∀ x ∈ A, x.l.length ≤ 100000) (bB : ∀ x ∈ B, x.l.length ≤ 100000) (bC : ∀ x ∈ C, x.a.l.length ≤ 100000 ∧ x.d.l.length ≤ 100000)
    (q : ∀ (b : Bool) (F' H' : Hp), (b = true ↔ ShutOk M R S wi A B C) → Gr mu0 F H F' H' → Q (.bl b) H') : sp_L_good [m, .ref T] H Q E :=
  ⟨F, m, M, R, S, T, _, wi, A, B, C, rfl, sF, hm, hM, hT, nA, nB, nC, bA, bB, bC, fun h F' H' g => q true F' H' ⟨fun _ => h, fun _ => rfl⟩ g, fun h F' H' g => q false F' H' ⟨fun z => (nomatch z), fun z => absurd z h⟩ g⟩
theorem shows_sp {F H : Hp} {m : V} {M : Mach} {R S : Nat} {T : Addr} {wi : Int} {A B : List Wd} {C : List Md} {Q : VK} {E : XK} (sF : Same F H) (hm : Is F m M) (hM : MOk M R S) (hT : PaAt F T tShut.x wi A B C) (nA : A.length ≤ 20000) (nB : B.length ≤ 20000) (nC : C.length ≤ 20000) (bA : ∀ x ∈ A, x.l.length ≤ 100000) (bB : ∀ x ∈ B, x.l.length ≤ 100000) (bC : ∀ x ∈ C, x.a.l.length ≤ 100000 ∧ x.d.l.length ≤ 100000)
    (q : ∀ (b : Bool) (F' H' : Hp), (b = true ↔ ShutOk M R S wi A B C) → Gr mu0 F H F' H' → Q (.bl b) H') : sp_shows [m, .ref T] H Q E :=
  ⟨F, m, M, R, S, T, wi, A, B, C, rfl, sF, hm, hM, hT, nA, nB, nC, bA, bB, bC, fun h F' H' g => q true F' H' ⟨fun _ => h, fun _ => rfl⟩ g, fun h F' H' g => q false F' H' ⟨fun z => (nomatch z), fun z => absurd z h⟩ g⟩
def sp_L_asked : Sp := fun vs H Q _ => ∃ (F : Hp) (m : V) (M : Mach) (R S : Nat) (T : Addr) (wi : Int) (A B : List Wd) (C : List Md), vs = [m, .ref T] ∧ Same F H ∧ Is F m M ∧ MOk M R S ∧ PaAt F T tShut.x wi A B C ∧ A.length ≤ 20000 ∧ B.length ≤ 20000 ∧ C.length ≤ 20000 ∧ (∀ x ∈ A, x.l.length ≤ 100000) ∧ (∀ x ∈ B, x.l.length ≤ 100000) ∧ (∀ x ∈ C, x.a.l.length ≤ 100000 ∧ x.d.l.length ≤ 100000) ∧ ∀ F' H', Gr mu0 F H F' H' → Q (.bl true) H'
theorem ok_L_asked (t : Tx K mg) : FnOk P w K mg base CX0 6 t.a_L_asked t.fd_L_asked ["_law_machine_here", "_law_paper"] sp_L_asked := by
  refine t.F_L_asked.ok sc_L_asked (fun vs H Q E h => ?_) (fun cdv A outer s H vs Q E hr h => ?_)
  · obtain ⟨F, m, M, R, S, T, wi, A, B, C, rfl, _⟩ := h
    rfl
  · obtain ⟨F, m, M, R, S, T, wi, LA, LB, LC, rfl, sF, hm, hM, hT, nA, nB, nC, bA, bB, bC, q⟩ := h
    refine ⟨_, (pss_cons (ps_set (i := 2) sc_L_asked.nd rfl (by first | exact Or.inl rfl | exact Or.inr rfl) (pe_tup (pa_cons (pe_ix ix_tup (pv 1) pe_int (fun _ _ => rfl)) (pa_cons (pe_ix ix_tup (pv 1) pe_int (fun _ _ => rfl)) (pa_cons (pe_callTy (T := "list") call_listQ (by rfl) t.n_list (by decide +kernel) (pa_cons (pe_ix ix_tup (pv 1) pe_int (fun _ _ => rfl)) pa_nil)) (pa_cons (pe_callTy (T := "list") call_listQ (by rfl) t.n_list (by decide +kernel) (pa_cons (pe_ix ix_tup (pv 1) pe_int (fun _ _ => rfl)) pa_nil)) (pa_cons (pe_callTy (T := "list") call_listQ (by rfl) t.n_list (by decide +kernel) (pa_cons (pe_ix ix_tup (pv 1) pe_int (fun _ _ => rfl)) pa_nil)) pa_nil)))))))
      (pss_cons (ps_set (i := 3) sc_L_asked.nd rfl (by first | exact Or.inl rfl | exact Or.inr rfl) (pe_call (ok_L_copy t) (hr.mono (by decide)) (by rfl) t.m_L_copy t.F_L_copy.kp t.b_L_copy .nil pass0 (pa_cons (pv 0) pa_nil)))
      (pss_cons (ps_set (i := 4) sc_L_asked.nd rfl (by first | exact Or.inl rfl | exact Or.inr rfl) (pe_call (ok_shows_shut t) (hr.mono (by decide)) (by rfl) t.m_shows_shut t.F_shows_shut.kp t.b_shows_shut .nil pass0 (pa_cons (pv 3) (pa_cons (pv 2) pa_nil))))
      (pss_cons (ps_if (PW.pt (pw_or (pt_not (pt_val (pe_callB (id := "isinstance") call_isi (by rfl) t.n_isinstance (by decide +kernel) (pa_cons (pv 4) (pa_cons (pe_bltn (v := .ty "bool") (by rfl) t.n_bool (by decide +kernel) rfl) pa_nil))))) (pw_or (pt_cmpR (op_neD hr.units) (pv 3) (pv 0) (nomark _)) (pw_or1 (pt_cmpR (op_neD hr.units) (pv 2) (pv 1) (nomark _)))))) (pss_one (ps_ret pe_bl)) pss_nil)
      (pss_cons (ps_set (i := 5) sc_L_asked.nd rfl (by first | exact Or.inl rfl | exact Or.inr rfl) (pe_call (ok_L_good t) (hr.mono (by decide)) (by rfl) t.m_L_good t.F_L_good.kp t.b_L_good .nil pass0 (pa_cons (pv 0) (pa_cons (pv 1) pa_nil))))
      (pss_cons (ps_if (PW.pt (pw_and (pt_chain op_le op_le pe_int (pe_ix ix_tup (pv 1) pe_int (fun _ _ => rfl)) pe_int) (pw_and1 (pt_cmpR op_ne (pe_call (ok_shows t) (hr.mono (by decide)) (by rfl) t.m_shows t.F_shows.kp t.b_shows .nil pass0 (pa_cons (pv 3) (pa_cons (pv 2) pa_nil))) (pv 5) (nomark _))))) (pss_one (ps_ret pe_bl)) pss_nil)
      (pss_one (ps_ret (pe_and (pe_cmpR op_eq (pv 4) (pv 5) (nomark _)) (pe_one (pe_cmpR (op_eqD hr.units) (pv 2) (pv 1) (nomark _)))))))))))), ?_⟩
    have g0 : Gr mu0 F H F H := Gr.refl sF
    obtain ⟨ta, tb, tc, xs, ys, zs, hTT, hta, htb, htc, ia, ib, ic⟩ := id hT
    have hTH := SqT.of (K := K) (sF _ _ hTT)
    have iP : Is F (.ref T) (⟨tShut, wi, LA, LB, LC⟩ : Pap) := ⟨T, _, _, _, _, _, rfl, hTT, rfl, rfl, ⟨ta, xs, rfl, hta, ia⟩, ⟨tb, ys, rfl, htb, ib⟩, ⟨tc, zs, rfl, htc, ic⟩⟩
    refine ⟨_, rfl, T, _, _, _, rfl, rfl, hTH, atI_nat (j := 0) rfl, _, rfl, T, _, _, _, rfl, rfl, hTH, atI_nat (j := 1) rfl, _, rfl, T, _, _, _, rfl, rfl, hTH, atI_nat (j := 2) rfl, ta, xs, rfl, .inl (SqL.of (sF _ _ hta)), fun l1 nl1 => ?_⟩
    have g1 := g0.new (o := .lst xs) nl1
    have k1 : Same F (upd F l1 (.lst xs)) := g1.ff
    have h1 : (upd F l1 (.lst xs)) l1 = some (.lst xs) := upd_same
    generalize upd F l1 (.lst xs) = F1 at g1 k1 h1
    generalize upd H l1 (.lst xs) = H1 at g1 ⊢
    refine ⟨_, rfl, T, _, _, _, rfl, rfl, SqT.of (g1.fh _ _ (k1 _ _ hTT)), atI_nat (j := 3) rfl, tb, ys, rfl, .inl (SqL.of (g1.fh _ _ (k1 _ _ htb))), fun l2 nl2 => ?_⟩
    obtain ⟨F2, g2, h2, k2⟩ : ∃ F', Gr mu0 F H F' (upd H1 l2 (.lst ys)) ∧ F' l2 = some (.lst ys) ∧ Gr mu0 F1 H1 F' (upd H1 l2 (.lst ys)) := ⟨_, g1.new nl2, upd_same, (Gr.refl g1.fh).new nl2⟩
    generalize upd H1 l2 (.lst ys) = H2 at g2 k2 ⊢
    have q2 := k1.trans k2.ff
    refine ⟨_, rfl, T, _, _, _, rfl, rfl, SqT.of (g2.fh _ _ (q2 _ _ hTT)), atI_nat (j := 4) rfl, tc, zs, rfl, .inl (SqL.of (g2.fh _ _ (q2 _ _ htc))), fun l3 nl3 => ?_⟩
    obtain ⟨F3, g3, h3, k3⟩ : ∃ F', Gr mu0 F H F' (upd H2 l3 (.lst zs)) ∧ F' l3 = some (.lst zs) ∧ Gr mu0 F2 H2 F' (upd H2 l3 (.lst zs)) := ⟨_, g2.new nl3, upd_same, (Gr.refl g2.fh).new nl3⟩
    generalize upd H2 l3 (.lst zs) = H3 at g3 k3 ⊢
    have q3 := q2.trans k3.ff
    refine ⟨five_le, fun T2 nT2 => ?_⟩
    obtain ⟨F4, g4, h4, k4⟩ : ∃ F', Gr mu0 F H F' (upd H3 T2 (.tup [.str tShut.x, .int wi, .ref l1, .ref l2, .ref l3])) ∧ F' T2 = some (.tup [.str tShut.x, .int wi, .ref l1, .ref l2, .ref l3]) ∧ Gr mu0 F3 H3 F' (upd H3 T2 (.tup [.str tShut.x, .int wi, .ref l1, .ref l2, .ref l3])) := ⟨_, g3.new nT2, upd_same, (Gr.refl g3.fh).new nT2⟩
    change Ends.nx _ _ (upd H3 T2 (.tup [.str tShut.x, .int wi, .ref l1, .ref l2, .ref l3]))
    generalize upd H3 T2 (.tup [.str tShut.x, .int wi, .ref l1, .ref l2, .ref l3]) = H4 at g4 k4 ⊢
    have q4 := q3.trans k4.ff
    have hP : PaAt F4 T2 tShut.x wi LA LB LC := ⟨l1, l2, l3, xs, ys, zs, h4, k4.ff _ _ (k3.ff _ _ (k2.ff _ _ h1)), k4.ff _ _ (k3.ff _ _ h2), k4.ff _ _ h3, IsAll.up ia q4, IsAll.up ib q4, IsAll.up ic q4⟩
    have iP2 : Is F4 (.ref T2) (⟨tShut, wi, LA, LB, LC⟩ : Pap) := ⟨T2, _, _, _, _, _, rfl, h4, rfl, rfl, ⟨l1, xs, rfl, k4.ff _ _ (k3.ff _ _ (k2.ff _ _ h1)), IsAll.up ia q4⟩, ⟨l2, ys, rfl, k4.ff _ _ (k3.ff _ _ h2), IsAll.up ib q4⟩, ⟨l3, zs, rfl, k4.ff _ _ h3, IsAll.up ic q4⟩⟩
    have iP := iP.up q4
    have hm4 := hm.up q4
    have hT4 : PaAt F4 T tShut.x wi LA LB LC := ⟨ta, tb, tc, xs, ys, zs, q4 _ _ hTT, q4 _ _ hta, q4 _ _ htb, q4 _ _ htc, IsAll.up ia q4, IsAll.up ib q4, IsAll.up ic q4⟩
    clear g0 g1 g2 g3 k1 k2 k3 k4 h1 h2 h3 h4 q2 q3 hTH
    refine ⟨_, rfl, F4, m, M, rfl, g4.fh, hm4, by rw [hM.len]; have := hM.r4; omega, fun H5 u rs ess g5 x5 => ?_⟩
    obtain ⟨F6, g6, s46, im6, _, _⟩ := x5.frz g5
    have t6 := g4.trans g6
    have iP := (iP.up s46)
    have iP2 := iP2.up s46
    have hm6 := hm4.up s46
    have pup : ∀ {T : Addr} {F F' : Hp}, PaAt F T tShut.x wi LA LB LC → Same F F' → PaAt F' T tShut.x wi LA LB LC := fun h g => by
      obtain ⟨a, b, c, xs, ys, zs, h1, h2, h3, h4, h5, h6, h7⟩ := h
      exact ⟨a, b, c, xs, ys, zs, g _ _ h1, g _ _ h2, g _ _ h3, g _ _ h4, IsAll.up h5 g, IsAll.up h6 g, IsAll.up h7 g⟩
    have hP := pup hP s46
    have hT6 := pup hT4 s46
    refine ⟨_, rfl, _, rfl, ?_⟩
    dsimp only [tNil]
    refine shut_sp t6.fh im6 hM hP nA nB nC bA bB bC fun b1 F7 H7 iff1 g7 => ?_
    have t7 := t6.trans g7
    have im7 := im6.up g7.ff
    have hm7 := hm6.up g7.ff
    have iP := iP.up g7.ff
    have iP2 := iP2.up g7.ff
    have hP7 := pup hP g7.ff
    have hT7 := pup hT6 g7.ff
    refine ⟨_, rfl, ⟨_, _, _, _, true, rfl, .ty _, .base (.bl b1), kt_bool, _, rfl, ifF rfl ?_⟩⟩
    refine ⟨_, rfl, _, rfl, ne_dat (a := M) (b := M) (Is.up im7 t7.fh) (Is.up hm7 t7.fh) ⟨_, rfl, ifF (by rw [decide_eq_true rfl]; rfl) ?_⟩⟩
    refine ⟨_, rfl, _, rfl, ne_dat (a := (⟨tShut, wi, LA, LB, LC⟩ : Pap)) (b := ⟨tShut, wi, LA, LB, LC⟩) (Is.up iP2 t7.fh) (Is.up iP t7.fh) ⟨_, rfl, ifF (by rw [decide_eq_true rfl]; rfl) ?_⟩⟩
    refine ⟨_, rfl, _, rfl, ?_⟩
    dsimp only [tNil]
    refine good_sp t7.fh hm7 hM hT7 nA nB nC bA bB bC fun b2 F8 H8 iff2 g8 => ?_
    have t8 := t7.trans g8
    have im8 := im7.up g8.ff
    have iP := iP.up g8.ff
    have iP2 := iP2.up g8.ff
    have hP8 := pup hP7 g8.ff
    have hT8 := pup hT7 g8.ff
    obtain ⟨ta', tb', tc', xs', ys', zs', hTT8, _⟩ := hT8
    have e12 : b1 = b2 := Bool.eq_iff_iff.mpr (iff1.trans iff2.symm)
    subst e12
    have fin : ∀ (F9 H9 : Hp), Gr mu0 F H F9 H9 → Is F9 (.ref T2) (⟨tShut, wi, LA, LB, LC⟩ : Pap) → Is F9 (.ref T) (⟨tShut, wi, LA, LB, LC⟩ : Pap) → ∀ {X : VK}, (∀ F' H', Gr mu0 F H F' H' → X (.bl true) H') → rEqD K (.ref T2) (.ref T) H9 X := fun F9 H9 g9 i9 j9 X hX => by
      refine eq_dat (a := (⟨tShut, wi, LA, LB, LC⟩ : Pap)) (b := ⟨tShut, wi, LA, LB, LC⟩) (Is.up i9 g9.fh) (Is.up j9 g9.fh) ?_
      rw [decide_eq_true rfl]
      exact hX _ _ g9
    refine ⟨_, rfl, T, _, _, _, rfl, rfl, SqT.of (t8.fh _ _ hTT8), atI_nat (j := 1) rfl, _, _, rfl, rfl, _, rfl, ?_⟩
    by_cases w0 : 0 ≤ wi
    · refine ifT (decide_eq_true w0) ⟨_, _, rfl, rfl, _, rfl, ?_⟩
      by_cases w1 : wi ≤ 1000
      · refine ifT (decide_eq_true w1) ⟨_, rfl, _, rfl, ?_⟩
        dsimp only [tNil]
        refine shows_sp t8.fh im8 hM hP8 nA nB nC bA bB bC fun b3 F9 H9 iff3 g9 => ?_
        have t9 := t8.trans g9
        have e13 : b1 = b3 := Bool.eq_iff_iff.mpr (iff1.trans iff3.symm)
        subst e13
        refine ⟨_, rfl, rfl, _, rfl, ifF (by rw [decide_eq_true rfl]; rfl) ?_⟩
        exact ⟨_, rfl, _, rfl, rfl, _, rfl, ifT (decide_eq_true rfl) ⟨_, rfl, _, rfl, fin _ _ t9 (iP2.up g9.ff) (iP.up g9.ff) q⟩⟩
      · refine ifF (decide_eq_false w1) (ifF rfl ?_)
        exact ⟨_, rfl, _, rfl, rfl, _, rfl, ifT (decide_eq_true rfl) ⟨_, rfl, _, rfl, fin _ _ t8 iP2 iP q⟩⟩
    · refine ifF (decide_eq_false w0) ⟨_, rfl, ifF rfl ?_⟩
      exact ⟨_, rfl, _, rfl, rfl, _, rfl, ifT (decide_eq_true rfl) ⟨_, rfl, _, rfl, fin _ _ t8 iP2 iP q⟩⟩
/-! ### the law -/
theorem pow_ok {S k : Nat} (hS : (S = 2 ∧ k ≤ 4) ∨ (S = 3 ∧ k ≤ 2) ∨ (S = 4 ∧ k ≤ 2)) : S ^ k ≤ 16 ∧ k ≤ 16 := by
  rcases hS with ⟨rfl, h⟩ | ⟨rfl, h⟩ | ⟨rfl, h⟩
  · exact ⟨by calc 2 ^ k ≤ 2 ^ 4 := Nat.pow_le_pow_right (by decide) h
      _ = 16 := rfl, by omega⟩
  · exact ⟨by calc 3 ^ k ≤ 3 ^ 2 := Nat.pow_le_pow_right (by decide) h
      _ ≤ 16 := by decide, by omega⟩
  · exact ⟨by calc 4 ^ k ≤ 4 ^ 2 := Nat.pow_le_pow_right (by decide) h
      _ ≤ 16 := by decide, by omega⟩
def sp_law (K : PySem.W.Frag) : Sp := fun vs H Q _ => ∃ (a : Addr) (ns : List Int), vs = [.ref a] ∧ SqL K H a (ns.map V.int) ∧ ns.length ≤ 63 ∧ ∀ H', Q (.bl true) H'
theorem ok_law (t : Tx K mg) : FnOk P w K mg base CX0 7 t.a_law t.fd_law ["_law_script"] (sp_law K) := by
  refine t.F_law.ok sc_law (fun vs H Q E h => ?_) (fun cdv A outer s H vs Q E hr h => ?_)
  · obtain ⟨a, ns, rfl, _⟩ := h
    rfl
  · obtain ⟨a, ns, rfl, hS, hn, q⟩ := h
    refine ⟨_, (pss_cons (ps_set (i := 1) sc_law.nd rfl (by first | exact Or.inl rfl | exact Or.inr rfl) (pe_call (ok_L_purse t) (hr.mono (by decide)) (by rfl) t.m_L_purse t.F_L_purse.kp t.b_L_purse .nil pass0 (pa_cons (pv 0) pa_nil)))
      (pss_cons (ps_set (i := 2) sc_law.nd rfl (by first | exact Or.inl rfl | exact Or.inr rfl) (pe_op op_add pe_int (pe_call (ok_L_draw t) (hr.mono (by decide)) (by rfl) t.m_L_draw t.F_L_draw.kp t.b_L_draw .nil pass0 (pa_cons (pv 1) (pa_cons pe_int pa_nil)))))
      (pss_cons (ps_set (i := 3) sc_law.nd rfl (by first | exact Or.inl rfl | exact Or.inr rfl) (pe_op op_add pe_int (pe_call (ok_L_draw t) (hr.mono (by decide)) (by rfl) t.m_L_draw t.F_L_draw.kp t.b_L_draw .nil pass0 (pa_cons (pv 1) (pa_cons pe_int pa_nil)))))
      (pss_cons (ps_set (i := 4) sc_law.nd rfl (by first | exact Or.inl rfl | exact Or.inr rfl) (pe_call (ok_L_machine t) (hr.mono (by decide)) (by rfl) t.m_L_machine t.F_L_machine.kp t.b_L_machine .nil pass0 (pa_cons (pv 1) (pa_cons (pv 2) (pa_cons (pv 3) pa_nil)))))
      (pss_cons (ps_set (i := 5) sc_law.nd rfl (by first | exact Or.inl rfl | exact Or.inr rfl) (pe_op op_add pe_int (pe_call (ok_L_draw t) (hr.mono (by decide)) (by rfl) t.m_L_draw t.F_L_draw.kp t.b_L_draw .nil pass0 (pa_cons (pv 1) (pa_cons (pe_ix ix_list (pe_lst (pa_cons pe_int (pa_cons pe_int (pa_cons pe_int pa_nil)))) (pe_op op_sub (pv 3) pe_int) (fun _ _ => rfl)) pa_nil)))))
      (pss_cons (ps_set (i := 6) sc_law.nd rfl (by first | exact Or.inl rfl | exact Or.inr rfl) (pe_ix ix_list (pe_lst (pa_cons pe_int (pa_cons pe_int (pa_cons pe_int pa_nil)))) (pe_call (ok_L_draw t) (hr.mono (by decide)) (by rfl) t.m_L_draw t.F_L_draw.kp t.b_L_draw .nil pass0 (pa_cons (pv 1) (pa_cons pe_int pa_nil))) (fun _ _ => rfl)))
      (pss_cons (ps_if (PW.pt (pw_or (pt_cmpR op_gt (pv 3) pe_int (nomark _)) (pw_or1 (pt_cmpR op_gt (pv 5) pe_int (nomark _))))) (pss_one (ps_set (i := 6) sc_law.nd rfl (by first | exact Or.inl rfl | exact Or.inr rfl) (pe_callB (id := "min") (call_min2 rfl) (by rfl) t.n_min (by decide +kernel) (pa_cons (pv 6) (pa_cons pe_int pa_nil))))) pss_nil)
      (pss_cons (ps_set (i := 7) sc_law.nd rfl (by first | exact Or.inl rfl | exact Or.inr rfl) (pe_call (ok_L_grown t) (hr.mono (by decide)) (by rfl) t.m_L_grown t.F_L_grown.kp t.b_L_grown .nil pass0 (pa_cons (pv 4) (pa_cons (pv 5) (pa_cons (pv 6) pa_nil)))))
      (pss_cons (ps_if (pt_not (pt_val (pe_call (ok_L_asked t) (hr.mono (by decide)) (by rfl) t.m_L_asked t.F_L_asked.kp t.b_L_asked .nil pass0 (pa_cons (pv 4) (pa_cons (pv 7) pa_nil))))) (pss_one (ps_ret pe_bl)) pss_nil)
      (pss_cons (ps_for PassesOwn.never rfl (pi_range1 (by rfl) t.n_range (pa_cons pe_int pa_nil)) (pg_name (i := 8) sc_law.nd rfl (by first | exact Or.inl rfl | exact Or.inr rfl)) (pss_one (ps_if (pt_not (pt_val (pe_call (ok_L_asked t) (hr.mono (by decide)) (by rfl) t.m_L_asked t.F_L_asked.kp t.b_L_asked .nil pass0 (pa_cons (pv 4) (pa_cons (pe_call (ok_L_bent t) (hr.mono (by decide)) (by rfl) t.m_L_bent t.F_L_bent.kp t.b_L_bent .nil pass0 (pa_cons (pv 1) (pa_cons (pv 4) (pa_cons (pv 7) pa_nil)))) pa_nil))))) (pss_one (ps_ret pe_bl)) pss_nil)))
      (pss_one (ps_ret pe_bl)))))))))))), ?_⟩
    refine ⟨_, rfl, a, ns, rfl, hS, hn, fun a0 b0 p H1 ha0 hb0 s1 np hp1 => ?_⟩
    have g1 : Gr (muP p) H H1 H H1 := Gr.refl s1
    refine ⟨_, rfl, p, a0, b0, 4, rfl, hp1, ha0, hb0, by decide, by decide, fun d1 a1 b1 d10 d11 ha1 hb1 => ⟨_, _, rfl, rfl, ?_⟩⟩
    obtain ⟨g2, _⟩ := g1.drw (a := a1) (b := b1) np hp1
    refine ⟨_, rfl, p, a1, b1, 3, rfl, upd_same, ha1, hb1, by decide, by decide, fun d2 a2 b2 d20 d21 ha2 hb2 => ⟨_, _, rfl, rfl, ?_⟩⟩
    obtain ⟨g3, _⟩ := g2.drw (a := a2) (b := b2) np hp1
    have hp3 : (upd (upd H1 p (PurseO a1 b1)) p (PurseO a2 b2)) p = some (PurseO a2 b2) := upd_same
    generalize upd (upd H1 p (PurseO a1 b1)) p (PurseO a2 b2) = H3 at g3 hp3 ⊢
    have eR : ((1 + d1).toNat : Int) = 1 + d1 := Int.toNat_of_nonneg (by omega)
    have eS : ((2 + d2).toNat : Int) = 2 + d2 := Int.toNat_of_nonneg (by omega)
    generalize hR : (1 + d1).toNat = R at eR
    generalize hS : (2 + d2).toNat = S at eS
    dsimp only
    rw [← eR, ← eS]
    refine ⟨_, rfl, _, rfl, _, rfl, H, p, a2, b2, R, S, rfl, g3.fh, np, hp3, ha2, hb2, by omega, by omega, by omega, by omega, fun F4 H4 m M a4 b4 g4 hp4 ha4 hb4 hM im => ?_⟩
    have t4 := g3.trans g4
    -- the width
    refine ⟨_, rfl, three_le, fun l4 nl4 => ?_⟩
    have t5 := t4.own (o := .lst [.int 4, .int 2, .int 2]) nl4
    have hl4 : (upd H4 l4 (.lst [.int 4, .int 2, .int 2])) l4 = some (.lst [.int 4, .int 2, .int 2]) := upd_same
    have hp5 := ln (u := .lst [.int 4, .int 2, .int 2]) nl4 hp4
    generalize upd H4 l4 (.lst [.int 4, .int 2, .int 2]) = H5 at t5 hl4 hp5 ⊢
    have hS2 : S = 2 ∨ S = 3 ∨ S = 4 := by omega
    obtain ⟨y4, hy4, y40, y4b, y42⟩ : ∃ y : Int, atI [V.int 4, V.int 2, V.int 2] ((S : Int) - 2) = some (.int y) ∧ 0 < y ∧ y ≤ 4 ∧ ((S = 2 ∧ y = 4) ∨ (S = 3 ∧ y = 2) ∨ (S = 4 ∧ y = 2)) := by
      rcases hS2 with rfl | rfl | rfl
      · exact ⟨4, rfl, by decide, by decide, .inl ⟨rfl, rfl⟩⟩
      · exact ⟨2, rfl, by decide, by decide, .inr (.inl ⟨rfl, rfl⟩)⟩
      · exact ⟨2, rfl, by decide, by decide, .inr (.inr ⟨rfl, rfl⟩)⟩
    refine ⟨_, rfl, _, _, rfl, rfl, l4, _, _, _, rfl, rfl, SqL.of hl4, hy4, ?_⟩
    refine ⟨p, a4, b4, y4, rfl, hp5, ha4, hb4, y40, by omega, fun d6 a6 b6 d60 d61 ha6 hb6 => ⟨_, _, rfl, rfl, ?_⟩⟩
    obtain ⟨t6, _⟩ := t5.drw (a := a6) (b := b6) np hp1
    have hp6 : (upd H5 p (PurseO a6 b6)) p = some (PurseO a6 b6) := upd_same
    generalize upd H5 p (PurseO a6 b6) = H6 at t6 hp6 ⊢
    have ek : ((1 + d6).toNat : Int) = 1 + d6 := Int.toNat_of_nonneg (by omega)
    generalize hk : (1 + d6).toNat = k at ek
    dsimp only
    rw [← ek]
    have k1 : 1 ≤ k := by omega
    obtain ⟨kS, k16⟩ := pow_ok (S := S) (k := k) (by omega)
    -- the turns
    refine ⟨three_le, fun l7 nl7 => ?_⟩
    have t7 := t6.own (o := .lst [.int 0, .int 2, .int 12]) nl7
    have hl7 : (upd H6 l7 (.lst [.int 0, .int 2, .int 12])) l7 = some (.lst [.int 0, .int 2, .int 12]) := upd_same
    have hp7 := ln (u := .lst [.int 0, .int 2, .int 12]) nl7 hp6
    have lp7 : l7 ≠ p := (ne_of_none hp6 nl7).symm
    generalize upd H6 l7 (.lst [.int 0, .int 2, .int 12]) = H7 at t7 hl7 hp7 ⊢
    refine ⟨_, rfl, p, a6, b6, 3, rfl, hp7, ha6, hb6, by decide, by decide, fun d8 a8 b8 d80 d81 ha8 hb8 => ?_⟩
    obtain ⟨t8, _⟩ := t7.drw (a := a8) (b := b8) np hp1
    have hp8 : (upd H7 p (PurseO a8 b8)) p = some (PurseO a8 b8) := upd_same
    have hl8 : (upd H7 p (PurseO a8 b8)) l7 = some (.lst [.int 0, .int 2, .int 12]) := (upd_ne lp7).trans hl7
    generalize upd H7 p (PurseO a8 b8) = H8 at t8 hp8 hl8 ⊢
    obtain ⟨n, hn8, n12⟩ : ∃ n : Nat, atI [V.int 0, V.int 2, V.int 12] d8 = some (.int n) ∧ n ≤ 12 := by
      rcases (by omega : d8 = 0 ∨ d8 = 1 ∨ d8 = 2) with rfl | rfl | rfl
      · exact ⟨0, rfl, by decide⟩
      · exact ⟨2, rfl, by decide⟩
      · exact ⟨12, rfl, by decide⟩
    refine ⟨l7, _, _, _, rfl, rfl, SqL.of hl8, hn8, ?_⟩
    refine ⟨_, rfl, _, _, rfl, rfl, _, rfl, ?_⟩
    have mn : ∃ n2 : Nat, (if (5 : Int) < (n : Int) then (5 : Int) else (n : Int)) = (n2 : Int) ∧ n2 ≤ 12 := by
      split
      · exact ⟨5, rfl, by decide⟩
      · exact ⟨n, rfl, n12⟩
    by_cases c1 : (2 : Int) < (S : Int)
    case' pos =>
      refine ifT (decide_eq_true c1) (ifT rfl ⟨_, rfl, _, _, rfl, ?_⟩)
      obtain ⟨nn, e2, nn12⟩ := mn
      dsimp only
      rw [e2]
    case' neg =>
      refine ifF (decide_eq_false c1) ⟨_, rfl, _, _, rfl, rfl, _, rfl, ?_⟩
      by_cases c2 : (2 : Int) < (k : Int)
      case' pos =>
        refine ifT (decide_eq_true c2) ⟨_, rfl, _, _, rfl, ?_⟩
        obtain ⟨nn, e2, nn12⟩ := mn
        dsimp only
        rw [e2]
      case' neg =>
        refine ifF (decide_eq_false c2) ?_
        obtain ⟨nn, enn, nn12⟩ : ∃ nn : Nat, nn = n ∧ nn ≤ 12 := ⟨n, rfl, n12⟩
        rw [← enn]
    all_goals
      refine ⟨_, rfl, _, rfl, _, rfl, F4, m, M, R, S, k, nn, rfl, t8.fh, im, hM, k1, kS, k16, nn12, fun F9 H9 T s g9 hT ok na nb nc => ?_⟩
      have t9 := t8.trans g9.of0
      have hp9 := g9.fr _ _ hp8 (fun z => z)
      have im := im.up g9.ff
      have fw := ok.few hM.r4 hM.s4 kS
      have pup : ∀ {T : Addr} {wi : Int} {LA LB : List Wd} {LC : List Md} {F F' : Hp}, PaAt F T tShut.x wi LA LB LC → Same F F' → PaAt F' T tShut.x wi LA LB LC := fun h g => by
        obtain ⟨a, b, c, xs, ys, zs, h1, h2, h3, h4, h5, h6, h7⟩ := h
        exact ⟨a, b, c, xs, ys, zs, g _ _ h1, g _ _ h2, g _ _ h3, g _ _ h4, IsAll.up h5 g, IsAll.up h6 g, IsAll.up h7 g⟩
      refine ⟨_, rfl, _, rfl, F9, m, M, R, S, T, k, s.A, s.B, s.C, rfl, t9.fh, im, hM, hT, by omega, by omega, by omega, fun x hx => by rw [(ok.a x hx).len]; omega, fun x hx => by rw [(ok.b x hx).len]; omega, fun x hx => by rw [(ok.c x hx).a.len, (ok.c x hx).d.len]; omega, fun F10 H10 g10 => ⟨true, rfl, ifF rfl ?_⟩⟩
      have t10 := t9.trans g10.of0
      have hp10 := g10.fr _ _ hp9 (fun z => z)
      have im := im.up g10.ff
      have hT := pup hT g10.ff
      refine ⟨5, rfl, by decide, by decide, for_range (lo := 0) (n := 5) (fun i σ G => ∃ (F11 : Hp) (a' b' : Int) (v8 : Option V), σ = [some (.ref a), some (.ref p), some (.int R), some (.int S), some m, some (.int k), some (.int nn), some (.ref T), v8] ∧ Gr (muP p) H H1 F11 G ∧ Same F10 F11 ∧ G p = some (PurseO a' b') ∧ 0 ≤ a' ∧ 0 ≤ b')
        ⟨F10, a8, b8, none, rfl, t10, Same.refl F10, hp10, ha8, hb8⟩ ?_ ?_⟩
      · rintro i σ G hi ⟨F11, a', b', v8, rfl, g, gb, hp, ha', hb'⟩
        refine ⟨_, rfl, _, rfl, _, rfl, _, rfl, F11, p, a', b', m, M, R, S, k, T, s, rfl, g.fh, g.pf np hp1, hp, ha', hb', im.up gb, hM, k1, kS, k16, pup hT gb, ok, na, nb, nc, fun F12 H12 T' wi A B C a2 b2 g12 hp12 ha2 hb2 hT' pb => ?_⟩
        have t12 := g.trans g12
        refine ⟨F12, m, M, R, S, T', wi, A, B, C, rfl, t12.fh, (im.up gb).up g12.ff, hM, hT', Nat.le_trans pb.la (by decide), Nat.le_trans pb.lb (by decide), Nat.le_trans pb.lc (by decide), fun x hx => Nat.le_trans (pb.a x hx) (by decide), fun x hx => Nat.le_trans (pb.b x hx) (by decide), fun x hx => ⟨Nat.le_trans (pb.c x hx).1 (by decide), Nat.le_trans (pb.c x hx).2 (by decide)⟩, fun F13 H13 g13 => ⟨true, rfl, ifF rfl ?_⟩⟩
        exact ⟨F13, a2, b2, _, rfl, t12.trans g13.of0, (gb.trans g12.ff).trans g13.ff, g13.fr _ _ hp12 (fun z => z), ha2, hb2⟩
      · rintro σ G ⟨F11, a', b', v8, rfl, _⟩
        exact q G

end
def all_tx {K : PySem.W.Frag} {h : Heap} {mg : Str → Option Value} {a_L_mixed a_L_purse a_L_draw a_L_machine a_L_asked_by a_L_grown a_L_copy a_is_entry a_is_machine a_must_machine a_put_new a_entry_for a_led_right a_led_left a_grown a_is_width a_are_words a_are_middles a_shows_shut a_L_is_width a_L_word_fine a_L_good a_shows a_L_asked a_L_bent a_law C_NoMachine : Addr} {od_L_mixed an_L_mixed od_L_purse an_L_purse od_L_draw an_L_draw od_L_machine an_L_machine od_L_asked_by an_L_asked_by od_L_grown an_L_grown od_L_copy an_L_copy od_is_entry an_is_entry od_is_machine an_is_machine od_must_machine an_must_machine od_put_new an_put_new od_entry_for an_entry_for od_led_right an_led_right od_led_left an_led_left od_grown an_grown od_is_width an_is_width od_are_words an_are_words od_are_middles an_are_middles od_shows_shut an_shows_shut od_L_is_width an_L_is_width od_L_word_fine an_L_word_fine od_L_good an_L_good od_shows an_shows od_L_asked an_L_asked od_L_bent an_L_bent od_law an_law : Option Addr} {sl_L_mixed sl_L_purse sl_L_draw sl_L_machine sl_L_asked_by sl_L_grown sl_L_copy sl_is_entry sl_is_machine sl_must_machine sl_put_new sl_entry_for sl_led_right sl_led_left sl_grown sl_is_width sl_are_words sl_are_middles sl_shows_shut sl_L_is_width sl_L_word_fine sl_L_good sl_shows sl_L_asked sl_L_bent sl_law : Array (Option Value)} {oc_L_mixed kV_L_mixed dc_L_mixed pm_L_mixed cd_L_mixed ct_L_mixed oc_L_purse kV_L_purse dc_L_purse pm_L_purse cd_L_purse ct_L_purse oc_L_draw kV_L_draw dc_L_draw pm_L_draw cd_L_draw ct_L_draw oc_L_machine kV_L_machine dc_L_machine pm_L_machine cd_L_machine ct_L_machine oc_L_asked_by kV_L_asked_by dc_L_asked_by pm_L_asked_by cd_L_asked_by ct_L_asked_by oc_L_grown kV_L_grown dc_L_grown pm_L_grown cd_L_grown ct_L_grown oc_L_copy kV_L_copy dc_L_copy pm_L_copy cd_L_copy ct_L_copy oc_is_entry kV_is_entry dc_is_entry pm_is_entry cd_is_entry ct_is_entry oc_is_machine kV_is_machine dc_is_machine pm_is_machine cd_is_machine ct_is_machine oc_must_machine kV_must_machine dc_must_machine pm_must_machine cd_must_machine ct_must_machine oc_put_new kV_put_new dc_put_new pm_put_new cd_put_new ct_put_new oc_entry_for kV_entry_for dc_entry_for pm_entry_for cd_entry_for ct_entry_for oc_led_right kV_led_right dc_led_right pm_led_right cd_led_right ct_led_right oc_led_left kV_led_left dc_led_left pm_led_left cd_led_left ct_led_left oc_grown kV_grown dc_grown pm_grown cd_grown ct_grown oc_is_width kV_is_width dc_is_width pm_is_width cd_is_width ct_is_width oc_are_words kV_are_words dc_are_words pm_are_words cd_are_words ct_are_words oc_are_middles kV_are_middles dc_are_middles pm_are_middles cd_are_middles ct_are_middles oc_shows_shut kV_shows_shut dc_shows_shut pm_shows_shut cd_shows_shut ct_shows_shut oc_L_is_width kV_L_is_width dc_L_is_width pm_L_is_width cd_L_is_width ct_L_is_width oc_L_word_fine kV_L_word_fine dc_L_word_fine pm_L_word_fine cd_L_word_fine ct_L_word_fine oc_L_good kV_L_good dc_L_good pm_L_good cd_L_good ct_L_good oc_shows kV_shows dc_shows pm_shows cd_shows ct_shows oc_L_asked kV_L_asked dc_L_asked pm_L_asked cd_L_asked ct_L_asked oc_L_bent kV_L_bent dc_L_bent pm_L_bent cd_L_bent ct_L_bent oc_law kV_law dc_law pm_law cd_law ct_law : Value} {tk_MOST_ROWS tk_MOST_SIGNS tk_MOST_WORDS : Tok} (X : K.In h) (G : h.Ns mainGlobals mg)
    (n_NoMachine : PySem.W.nsIn K mainGlobals "NoMachine" = some (some (.ref C_NoMachine)))
    (n_L_mixed : PySem.W.nsIn K mainGlobals "_law_mixed" = some (some (.ref a_L_mixed)))
    (l_L_mixed : K.lookup a_L_mixed = some ⟨oc_L_mixed, od_L_mixed, .func (PySem.W.fnOf "_law_mixed" "_law_mixed" (defArgs s_L_mixed) (defBody s_L_mixed) (defScope s_L_mixed) .none kV_L_mixed dc_L_mixed pm_L_mixed an_L_mixed cd_L_mixed ct_L_mixed), sl_L_mixed⟩)
    (c_L_mixed : PySem.W.codeIn K cd_L_mixed "_law_mixed" = true)
    (k_L_mixed : PySem.W.keepIn K (.ref a_L_mixed) = true)
    (n_L_purse : PySem.W.nsIn K mainGlobals "_law_purse" = some (some (.ref a_L_purse)))
    (l_L_purse : K.lookup a_L_purse = some ⟨oc_L_purse, od_L_purse, .func (PySem.W.fnOf "_law_purse" "_law_purse" (defArgs s_L_purse) (defBody s_L_purse) (defScope s_L_purse) .none kV_L_purse dc_L_purse pm_L_purse an_L_purse cd_L_purse ct_L_purse), sl_L_purse⟩)
    (c_L_purse : PySem.W.codeIn K cd_L_purse "_law_purse" = true)
    (k_L_purse : PySem.W.keepIn K (.ref a_L_purse) = true)
    (n_L_draw : PySem.W.nsIn K mainGlobals "_law_draw" = some (some (.ref a_L_draw)))
    (l_L_draw : K.lookup a_L_draw = some ⟨oc_L_draw, od_L_draw, .func (PySem.W.fnOf "_law_draw" "_law_draw" (defArgs s_L_draw) (defBody s_L_draw) (defScope s_L_draw) .none kV_L_draw dc_L_draw pm_L_draw an_L_draw cd_L_draw ct_L_draw), sl_L_draw⟩)
    (c_L_draw : PySem.W.codeIn K cd_L_draw "_law_draw" = true)
    (k_L_draw : PySem.W.keepIn K (.ref a_L_draw) = true)
    (n_L_machine : PySem.W.nsIn K mainGlobals "_law_machine" = some (some (.ref a_L_machine)))
    (l_L_machine : K.lookup a_L_machine = some ⟨oc_L_machine, od_L_machine, .func (PySem.W.fnOf "_law_machine" "_law_machine" (defArgs s_L_machine) (defBody s_L_machine) (defScope s_L_machine) .none kV_L_machine dc_L_machine pm_L_machine an_L_machine cd_L_machine ct_L_machine), sl_L_machine⟩)
    (c_L_machine : PySem.W.codeIn K cd_L_machine "_law_machine" = true)
    (k_L_machine : PySem.W.keepIn K (.ref a_L_machine) = true)
    (n_L_asked_by : PySem.W.nsIn K mainGlobals "_law_asked_by" = some (some (.ref a_L_asked_by)))
    (l_L_asked_by : K.lookup a_L_asked_by = some ⟨oc_L_asked_by, od_L_asked_by, .func (PySem.W.fnOf "_law_asked_by" "_law_asked_by" (defArgs s_L_asked_by) (defBody s_L_asked_by) (defScope s_L_asked_by) .none kV_L_asked_by dc_L_asked_by pm_L_asked_by an_L_asked_by cd_L_asked_by ct_L_asked_by), sl_L_asked_by⟩)
    (c_L_asked_by : PySem.W.codeIn K cd_L_asked_by "_law_asked_by" = true)
    (k_L_asked_by : PySem.W.keepIn K (.ref a_L_asked_by) = true)
    (n_L_grown : PySem.W.nsIn K mainGlobals "_law_grown" = some (some (.ref a_L_grown)))
    (l_L_grown : K.lookup a_L_grown = some ⟨oc_L_grown, od_L_grown, .func (PySem.W.fnOf "_law_grown" "_law_grown" (defArgs s_L_grown) (defBody s_L_grown) (defScope s_L_grown) .none kV_L_grown dc_L_grown pm_L_grown an_L_grown cd_L_grown ct_L_grown), sl_L_grown⟩)
    (c_L_grown : PySem.W.codeIn K cd_L_grown "_law_grown" = true)
    (k_L_grown : PySem.W.keepIn K (.ref a_L_grown) = true)
    (n_L_copy : PySem.W.nsIn K mainGlobals "_law_copy" = some (some (.ref a_L_copy)))
    (l_L_copy : K.lookup a_L_copy = some ⟨oc_L_copy, od_L_copy, .func (PySem.W.fnOf "_law_copy" "_law_copy" (defArgs s_L_copy) (defBody s_L_copy) (defScope s_L_copy) .none kV_L_copy dc_L_copy pm_L_copy an_L_copy cd_L_copy ct_L_copy), sl_L_copy⟩)
    (c_L_copy : PySem.W.codeIn K cd_L_copy "_law_copy" = true)
    (k_L_copy : PySem.W.keepIn K (.ref a_L_copy) = true)
    (n_is_entry : PySem.W.nsIn K mainGlobals "is_entry" = some (some (.ref a_is_entry)))
    (l_is_entry : K.lookup a_is_entry = some ⟨oc_is_entry, od_is_entry, .func (PySem.W.fnOf "is_entry" "is_entry" (defArgs s_is_entry) (defBody s_is_entry) (defScope s_is_entry) .none kV_is_entry dc_is_entry pm_is_entry an_is_entry cd_is_entry ct_is_entry), sl_is_entry⟩)
    (c_is_entry : PySem.W.codeIn K cd_is_entry "is_entry" = true)
    (k_is_entry : PySem.W.keepIn K (.ref a_is_entry) = true)
    (n_is_machine : PySem.W.nsIn K mainGlobals "is_machine" = some (some (.ref a_is_machine)))
    (l_is_machine : K.lookup a_is_machine = some ⟨oc_is_machine, od_is_machine, .func (PySem.W.fnOf "is_machine" "is_machine" (defArgs s_is_machine) (defBody s_is_machine) (defScope s_is_machine) .none kV_is_machine dc_is_machine pm_is_machine an_is_machine cd_is_machine ct_is_machine), sl_is_machine⟩)
    (c_is_machine : PySem.W.codeIn K cd_is_machine "is_machine" = true)
    (k_is_machine : PySem.W.keepIn K (.ref a_is_machine) = true)
    (n_must_machine : PySem.W.nsIn K mainGlobals "must_machine" = some (some (.ref a_must_machine)))
    (l_must_machine : K.lookup a_must_machine = some ⟨oc_must_machine, od_must_machine, .func (PySem.W.fnOf "must_machine" "must_machine" (defArgs s_must_machine) (defBody s_must_machine) (defScope s_must_machine) .none kV_must_machine dc_must_machine pm_must_machine an_must_machine cd_must_machine ct_must_machine), sl_must_machine⟩)
    (c_must_machine : PySem.W.codeIn K cd_must_machine "must_machine" = true)
    (k_must_machine : PySem.W.keepIn K (.ref a_must_machine) = true)
    (n_put_new : PySem.W.nsIn K mainGlobals "put_new" = some (some (.ref a_put_new)))
    (l_put_new : K.lookup a_put_new = some ⟨oc_put_new, od_put_new, .func (PySem.W.fnOf "put_new" "put_new" (defArgs s_put_new) (defBody s_put_new) (defScope s_put_new) .none kV_put_new dc_put_new pm_put_new an_put_new cd_put_new ct_put_new), sl_put_new⟩)
    (c_put_new : PySem.W.codeIn K cd_put_new "put_new" = true)
    (k_put_new : PySem.W.keepIn K (.ref a_put_new) = true)
    (n_entry_for : PySem.W.nsIn K mainGlobals "entry_for" = some (some (.ref a_entry_for)))
    (l_entry_for : K.lookup a_entry_for = some ⟨oc_entry_for, od_entry_for, .func (PySem.W.fnOf "entry_for" "entry_for" (defArgs s_entry_for) (defBody s_entry_for) (defScope s_entry_for) .none kV_entry_for dc_entry_for pm_entry_for an_entry_for cd_entry_for ct_entry_for), sl_entry_for⟩)
    (c_entry_for : PySem.W.codeIn K cd_entry_for "entry_for" = true)
    (k_entry_for : PySem.W.keepIn K (.ref a_entry_for) = true)
    (n_led_right : PySem.W.nsIn K mainGlobals "led_right" = some (some (.ref a_led_right)))
    (l_led_right : K.lookup a_led_right = some ⟨oc_led_right, od_led_right, .func (PySem.W.fnOf "led_right" "led_right" (defArgs s_led_right) (defBody s_led_right) (defScope s_led_right) .none kV_led_right dc_led_right pm_led_right an_led_right cd_led_right ct_led_right), sl_led_right⟩)
    (c_led_right : PySem.W.codeIn K cd_led_right "led_right" = true)
    (k_led_right : PySem.W.keepIn K (.ref a_led_right) = true)
    (n_led_left : PySem.W.nsIn K mainGlobals "led_left" = some (some (.ref a_led_left)))
    (l_led_left : K.lookup a_led_left = some ⟨oc_led_left, od_led_left, .func (PySem.W.fnOf "led_left" "led_left" (defArgs s_led_left) (defBody s_led_left) (defScope s_led_left) .none kV_led_left dc_led_left pm_led_left an_led_left cd_led_left ct_led_left), sl_led_left⟩)
    (c_led_left : PySem.W.codeIn K cd_led_left "led_left" = true)
    (k_led_left : PySem.W.keepIn K (.ref a_led_left) = true)
    (n_grown : PySem.W.nsIn K mainGlobals "grown" = some (some (.ref a_grown)))
    (l_grown : K.lookup a_grown = some ⟨oc_grown, od_grown, .func (PySem.W.fnOf "grown" "grown" (defArgs s_grown) (defBody s_grown) (defScope s_grown) .none kV_grown dc_grown pm_grown an_grown cd_grown ct_grown), sl_grown⟩)
    (c_grown : PySem.W.codeIn K cd_grown "grown" = true)
    (k_grown : PySem.W.keepIn K (.ref a_grown) = true)
    (n_is_width : PySem.W.nsIn K mainGlobals "is_width" = some (some (.ref a_is_width)))
    (l_is_width : K.lookup a_is_width = some ⟨oc_is_width, od_is_width, .func (PySem.W.fnOf "is_width" "is_width" (defArgs s_is_width) (defBody s_is_width) (defScope s_is_width) .none kV_is_width dc_is_width pm_is_width an_is_width cd_is_width ct_is_width), sl_is_width⟩)
    (c_is_width : PySem.W.codeIn K cd_is_width "is_width" = true)
    (k_is_width : PySem.W.keepIn K (.ref a_is_width) = true)
    (n_are_words : PySem.W.nsIn K mainGlobals "are_words" = some (some (.ref a_are_words)))
    (l_are_words : K.lookup a_are_words = some ⟨oc_are_words, od_are_words, .func (PySem.W.fnOf "are_words" "are_words" (defArgs s_are_words) (defBody s_are_words) (defScope s_are_words) .none kV_are_words dc_are_words pm_are_words an_are_words cd_are_words ct_are_words), sl_are_words⟩)
    (c_are_words : PySem.W.codeIn K cd_are_words "are_words" = true)
    (k_are_words : PySem.W.keepIn K (.ref a_are_words) = true)
    (n_are_middles : PySem.W.nsIn K mainGlobals "are_middles" = some (some (.ref a_are_middles)))
    (l_are_middles : K.lookup a_are_middles = some ⟨oc_are_middles, od_are_middles, .func (PySem.W.fnOf "are_middles" "are_middles" (defArgs s_are_middles) (defBody s_are_middles) (defScope s_are_middles) .none kV_are_middles dc_are_middles pm_are_middles an_are_middles cd_are_middles ct_are_middles), sl_are_middles⟩)
    (c_are_middles : PySem.W.codeIn K cd_are_middles "are_middles" = true)
    (k_are_middles : PySem.W.keepIn K (.ref a_are_middles) = true)
    (n_shows_shut : PySem.W.nsIn K mainGlobals "shows_shut" = some (some (.ref a_shows_shut)))
    (l_shows_shut : K.lookup a_shows_shut = some ⟨oc_shows_shut, od_shows_shut, .func (PySem.W.fnOf "shows_shut" "shows_shut" (defArgs s_shows_shut) (defBody s_shows_shut) (defScope s_shows_shut) .none kV_shows_shut dc_shows_shut pm_shows_shut an_shows_shut cd_shows_shut ct_shows_shut), sl_shows_shut⟩)
    (c_shows_shut : PySem.W.codeIn K cd_shows_shut "shows_shut" = true)
    (k_shows_shut : PySem.W.keepIn K (.ref a_shows_shut) = true)
    (n_L_is_width : PySem.W.nsIn K mainGlobals "_law_is_width" = some (some (.ref a_L_is_width)))
    (l_L_is_width : K.lookup a_L_is_width = some ⟨oc_L_is_width, od_L_is_width, .func (PySem.W.fnOf "_law_is_width" "_law_is_width" (defArgs s_L_is_width) (defBody s_L_is_width) (defScope s_L_is_width) .none kV_L_is_width dc_L_is_width pm_L_is_width an_L_is_width cd_L_is_width ct_L_is_width), sl_L_is_width⟩)
    (c_L_is_width : PySem.W.codeIn K cd_L_is_width "_law_is_width" = true)
    (k_L_is_width : PySem.W.keepIn K (.ref a_L_is_width) = true)
    (n_L_word_fine : PySem.W.nsIn K mainGlobals "_law_word_fine" = some (some (.ref a_L_word_fine)))
    (l_L_word_fine : K.lookup a_L_word_fine = some ⟨oc_L_word_fine, od_L_word_fine, .func (PySem.W.fnOf "_law_word_fine" "_law_word_fine" (defArgs s_L_word_fine) (defBody s_L_word_fine) (defScope s_L_word_fine) .none kV_L_word_fine dc_L_word_fine pm_L_word_fine an_L_word_fine cd_L_word_fine ct_L_word_fine), sl_L_word_fine⟩)
    (c_L_word_fine : PySem.W.codeIn K cd_L_word_fine "_law_word_fine" = true)
    (k_L_word_fine : PySem.W.keepIn K (.ref a_L_word_fine) = true)
    (n_L_good : PySem.W.nsIn K mainGlobals "_law_good" = some (some (.ref a_L_good)))
    (l_L_good : K.lookup a_L_good = some ⟨oc_L_good, od_L_good, .func (PySem.W.fnOf "_law_good" "_law_good" (defArgs s_L_good) (defBody s_L_good) (defScope s_L_good) .none kV_L_good dc_L_good pm_L_good an_L_good cd_L_good ct_L_good), sl_L_good⟩)
    (c_L_good : PySem.W.codeIn K cd_L_good "_law_good" = true)
    (k_L_good : PySem.W.keepIn K (.ref a_L_good) = true)
    (n_shows : PySem.W.nsIn K mainGlobals "shows" = some (some (.ref a_shows)))
    (l_shows : K.lookup a_shows = some ⟨oc_shows, od_shows, .func (PySem.W.fnOf "shows" "shows" (defArgs s_shows) (defBody s_shows) (defScope s_shows) .none kV_shows dc_shows pm_shows an_shows cd_shows ct_shows), sl_shows⟩)
    (c_shows : PySem.W.codeIn K cd_shows "shows" = true)
    (k_shows : PySem.W.keepIn K (.ref a_shows) = true)
    (n_L_asked : PySem.W.nsIn K mainGlobals "_law_asked" = some (some (.ref a_L_asked)))
    (l_L_asked : K.lookup a_L_asked = some ⟨oc_L_asked, od_L_asked, .func (PySem.W.fnOf "_law_asked" "_law_asked" (defArgs s_L_asked) (defBody s_L_asked) (defScope s_L_asked) .none kV_L_asked dc_L_asked pm_L_asked an_L_asked cd_L_asked ct_L_asked), sl_L_asked⟩)
    (c_L_asked : PySem.W.codeIn K cd_L_asked "_law_asked" = true)
    (k_L_asked : PySem.W.keepIn K (.ref a_L_asked) = true)
    (n_L_bent : PySem.W.nsIn K mainGlobals "_law_bent" = some (some (.ref a_L_bent)))
    (l_L_bent : K.lookup a_L_bent = some ⟨oc_L_bent, od_L_bent, .func (PySem.W.fnOf "_law_bent" "_law_bent" (defArgs s_L_bent) (defBody s_L_bent) (defScope s_L_bent) .none kV_L_bent dc_L_bent pm_L_bent an_L_bent cd_L_bent ct_L_bent), sl_L_bent⟩)
    (c_L_bent : PySem.W.codeIn K cd_L_bent "_law_bent" = true)
    (k_L_bent : PySem.W.keepIn K (.ref a_L_bent) = true)
    (n_law : PySem.W.nsIn K mainGlobals "law" = some (some (.ref a_law)))
    (l_law : K.lookup a_law = some ⟨oc_law, od_law, .func (PySem.W.fnOf "law" "law" (defArgs s_law) (defBody s_law) (defScope s_law) .none kV_law dc_law pm_law an_law cd_law ct_law), sl_law⟩)
    (c_law : PySem.W.codeIn K cd_law "law" = true)
    (k_law : PySem.W.keepIn K (.ref a_law) = true)
    (n_MOST_ROWS : PySem.W.nsIn K mainGlobals "MOST_ROWS" = some (some (.int 4 tk_MOST_ROWS)))
    (n_MOST_SIGNS : PySem.W.nsIn K mainGlobals "MOST_SIGNS" = some (some (.int 4 tk_MOST_SIGNS)))
    (n_MOST_WORDS : PySem.W.nsIn K mainGlobals "MOST_WORDS" = some (some (.int 16 tk_MOST_WORDS)))
    (z_range : PySem.W.nsIn K mainGlobals "range" = some none)
    (z_len : PySem.W.nsIn K mainGlobals "len" = some none)
    (z_list : PySem.W.nsIn K mainGlobals "list" = some none)
    (z_all : PySem.W.nsIn K mainGlobals "all" = some none)
    (z_min : PySem.W.nsIn K mainGlobals "min" = some none)
    (z_max : PySem.W.nsIn K mainGlobals "max" = some none)
    (z_isinstance : PySem.W.nsIn K mainGlobals "isinstance" = some none)
    (z_bool : PySem.W.nsIn K mainGlobals "bool" = some none)
    (z_tuple : PySem.W.nsIn K mainGlobals "tuple" = some none) : Tx K mg where
  a_L_mixed := a_L_mixed
  fd_L_mixed := PySem.W.fnOf "_law_mixed" "_law_mixed" (defArgs s_L_mixed) (defBody s_L_mixed) (defScope s_L_mixed) .none kV_L_mixed dc_L_mixed pm_L_mixed an_L_mixed cd_L_mixed ct_L_mixed
  F_L_mixed := fun_mk l_L_mixed c_L_mixed k_L_mixed
  b_L_mixed := (fun_mk (st := s_L_mixed) l_L_mixed c_L_mixed k_L_mixed).binds (ps := ["_law_cell", "_law_k"]) fun _ _ _ _ _ _ us hl => match us, hl with | [_, _], _ => rfl
  m_L_mixed := PySem.W.mg_of X G n_L_mixed
  a_L_purse := a_L_purse
  fd_L_purse := PySem.W.fnOf "_law_purse" "_law_purse" (defArgs s_L_purse) (defBody s_L_purse) (defScope s_L_purse) .none kV_L_purse dc_L_purse pm_L_purse an_L_purse cd_L_purse ct_L_purse
  F_L_purse := fun_mk l_L_purse c_L_purse k_L_purse
  b_L_purse := (fun_mk (st := s_L_purse) l_L_purse c_L_purse k_L_purse).binds (ps := ["_law_script"]) fun _ _ _ _ _ _ us hl => match us, hl with | [_], _ => rfl
  m_L_purse := PySem.W.mg_of X G n_L_purse
  a_L_draw := a_L_draw
  fd_L_draw := PySem.W.fnOf "_law_draw" "_law_draw" (defArgs s_L_draw) (defBody s_L_draw) (defScope s_L_draw) .none kV_L_draw dc_L_draw pm_L_draw an_L_draw cd_L_draw ct_L_draw
  F_L_draw := fun_mk l_L_draw c_L_draw k_L_draw
  b_L_draw := (fun_mk (st := s_L_draw) l_L_draw c_L_draw k_L_draw).binds (ps := ["_law_purse_here", "_law_out_of"]) fun _ _ _ _ _ _ us hl => match us, hl with | [_, _], _ => rfl
  m_L_draw := PySem.W.mg_of X G n_L_draw
  a_L_machine := a_L_machine
  fd_L_machine := PySem.W.fnOf "_law_machine" "_law_machine" (defArgs s_L_machine) (defBody s_L_machine) (defScope s_L_machine) .none kV_L_machine dc_L_machine pm_L_machine an_L_machine cd_L_machine ct_L_machine
  F_L_machine := fun_mk l_L_machine c_L_machine k_L_machine
  b_L_machine := (fun_mk (st := s_L_machine) l_L_machine c_L_machine k_L_machine).binds (ps := ["_law_purse_here", "_law_rows", "_law_signs"]) fun _ _ _ _ _ _ us hl => match us, hl with | [_, _, _], _ => rfl
  m_L_machine := PySem.W.mg_of X G n_L_machine
  a_L_asked_by := a_L_asked_by
  fd_L_asked_by := PySem.W.fnOf "_law_asked_by" "_law_asked_by" (defArgs s_L_asked_by) (defBody s_L_asked_by) (defScope s_L_asked_by) .none kV_L_asked_by dc_L_asked_by pm_L_asked_by an_L_asked_by cd_L_asked_by ct_L_asked_by
  F_L_asked_by := fun_mk l_L_asked_by c_L_asked_by k_L_asked_by
  b_L_asked_by := (fun_mk (st := s_L_asked_by) l_L_asked_by c_L_asked_by k_L_asked_by).binds (ps := ["_law_machine_here", "_law_middle", "_law_lefts", "_law_rights"]) fun _ _ _ _ _ _ us hl => match us, hl with | [_, _, _, _], _ => rfl
  m_L_asked_by := PySem.W.mg_of X G n_L_asked_by
  a_L_grown := a_L_grown
  fd_L_grown := PySem.W.fnOf "_law_grown" "_law_grown" (defArgs s_L_grown) (defBody s_L_grown) (defScope s_L_grown) .none kV_L_grown dc_L_grown pm_L_grown an_L_grown cd_L_grown ct_L_grown
  F_L_grown := fun_mk l_L_grown c_L_grown k_L_grown
  b_L_grown := (fun_mk (st := s_L_grown) l_L_grown c_L_grown k_L_grown).binds (ps := ["_law_machine_here", "_law_width", "_law_turns"]) fun _ _ _ _ _ _ us hl => match us, hl with | [_, _, _], _ => rfl
  m_L_grown := PySem.W.mg_of X G n_L_grown
  a_L_copy := a_L_copy
  fd_L_copy := PySem.W.fnOf "_law_copy" "_law_copy" (defArgs s_L_copy) (defBody s_L_copy) (defScope s_L_copy) .none kV_L_copy dc_L_copy pm_L_copy an_L_copy cd_L_copy ct_L_copy
  F_L_copy := fun_mk l_L_copy c_L_copy k_L_copy
  b_L_copy := (fun_mk (st := s_L_copy) l_L_copy c_L_copy k_L_copy).binds (ps := ["_law_machine_here"]) fun _ _ _ _ _ _ us hl => match us, hl with | [_], _ => rfl
  m_L_copy := PySem.W.mg_of X G n_L_copy
  a_is_entry := a_is_entry
  fd_is_entry := PySem.W.fnOf "is_entry" "is_entry" (defArgs s_is_entry) (defBody s_is_entry) (defScope s_is_entry) .none kV_is_entry dc_is_entry pm_is_entry an_is_entry cd_is_entry ct_is_entry
  F_is_entry := fun_mk l_is_entry c_is_entry k_is_entry
  b_is_entry := (fun_mk (st := s_is_entry) l_is_entry c_is_entry k_is_entry).binds (ps := ["entry", "rows", "signs"]) fun _ _ _ _ _ _ us hl => match us, hl with | [_, _, _], _ => rfl
  m_is_entry := PySem.W.mg_of X G n_is_entry
  a_is_machine := a_is_machine
  fd_is_machine := PySem.W.fnOf "is_machine" "is_machine" (defArgs s_is_machine) (defBody s_is_machine) (defScope s_is_machine) .none kV_is_machine dc_is_machine pm_is_machine an_is_machine cd_is_machine ct_is_machine
  F_is_machine := fun_mk l_is_machine c_is_machine k_is_machine
  b_is_machine := (fun_mk (st := s_is_machine) l_is_machine c_is_machine k_is_machine).binds (ps := ["machine"]) fun _ _ _ _ _ _ us hl => match us, hl with | [_], _ => rfl
  m_is_machine := PySem.W.mg_of X G n_is_machine
  a_must_machine := a_must_machine
  fd_must_machine := PySem.W.fnOf "must_machine" "must_machine" (defArgs s_must_machine) (defBody s_must_machine) (defScope s_must_machine) .none kV_must_machine dc_must_machine pm_must_machine an_must_machine cd_must_machine ct_must_machine
  F_must_machine := fun_mk l_must_machine c_must_machine k_must_machine
  b_must_machine := (fun_mk (st := s_must_machine) l_must_machine c_must_machine k_must_machine).binds (ps := ["machine"]) fun _ _ _ _ _ _ us hl => match us, hl with | [_], _ => rfl
  m_must_machine := PySem.W.mg_of X G n_must_machine
  a_put_new := a_put_new
  fd_put_new := PySem.W.fnOf "put_new" "put_new" (defArgs s_put_new) (defBody s_put_new) (defScope s_put_new) .none kV_put_new dc_put_new pm_put_new an_put_new cd_put_new ct_put_new
  F_put_new := fun_mk l_put_new c_put_new k_put_new
  b_put_new := (fun_mk (st := s_put_new) l_put_new c_put_new k_put_new).binds (ps := ["found", "things"]) fun _ _ _ _ _ _ us hl => match us, hl with | [_, _], _ => rfl
  m_put_new := PySem.W.mg_of X G n_put_new
  a_entry_for := a_entry_for
  fd_entry_for := PySem.W.fnOf "entry_for" "entry_for" (defArgs s_entry_for) (defBody s_entry_for) (defScope s_entry_for) .none kV_entry_for dc_entry_for pm_entry_for an_entry_for cd_entry_for ct_entry_for
  F_entry_for := fun_mk l_entry_for c_entry_for k_entry_for
  b_entry_for := (fun_mk (st := s_entry_for) l_entry_for c_entry_for k_entry_for).binds (ps := ["machine", "middle"]) fun _ _ _ _ _ _ us hl => match us, hl with | [_, _], _ => rfl
  m_entry_for := PySem.W.mg_of X G n_entry_for
  a_led_right := a_led_right
  fd_led_right := PySem.W.fnOf "led_right" "led_right" (defArgs s_led_right) (defBody s_led_right) (defScope s_led_right) .none kV_led_right dc_led_right pm_led_right an_led_right cd_led_right ct_led_right
  F_led_right := fun_mk l_led_right c_led_right k_led_right
  b_led_right := (fun_mk (st := s_led_right) l_led_right c_led_right k_led_right).binds (ps := ["middle", "put", "row", "rights"]) fun _ _ _ _ _ _ us hl => match us, hl with | [_, _, _, _], _ => rfl
  m_led_right := PySem.W.mg_of X G n_led_right
  a_led_left := a_led_left
  fd_led_left := PySem.W.fnOf "led_left" "led_left" (defArgs s_led_left) (defBody s_led_left) (defScope s_led_left) .none kV_led_left dc_led_left pm_led_left an_led_left cd_led_left ct_led_left
  F_led_left := fun_mk l_led_left c_led_left k_led_left
  b_led_left := (fun_mk (st := s_led_left) l_led_left c_led_left k_led_left).binds (ps := ["middle", "put", "row", "lefts"]) fun _ _ _ _ _ _ us hl => match us, hl with | [_, _, _, _], _ => rfl
  m_led_left := PySem.W.mg_of X G n_led_left
  a_grown := a_grown
  fd_grown := PySem.W.fnOf "grown" "grown" (defArgs s_grown) (defBody s_grown) (defScope s_grown) .none kV_grown dc_grown pm_grown an_grown cd_grown ct_grown
  F_grown := fun_mk l_grown c_grown k_grown
  b_grown := (fun_mk (st := s_grown) l_grown c_grown k_grown).binds (ps := ["machine", "lefts", "rights", "middles"]) fun _ _ _ _ _ _ us hl => match us, hl with | [_, _, _, _], _ => rfl
  m_grown := PySem.W.mg_of X G n_grown
  a_is_width := a_is_width
  fd_is_width := PySem.W.fnOf "is_width" "is_width" (defArgs s_is_width) (defBody s_is_width) (defScope s_is_width) .none kV_is_width dc_is_width pm_is_width an_is_width cd_is_width ct_is_width
  F_is_width := fun_mk l_is_width c_is_width k_is_width
  b_is_width := (fun_mk (st := s_is_width) l_is_width c_is_width k_is_width).binds (ps := ["machine", "width"]) fun _ _ _ _ _ _ us hl => match us, hl with | [_, _], _ => rfl
  m_is_width := PySem.W.mg_of X G n_is_width
  a_are_words := a_are_words
  fd_are_words := PySem.W.fnOf "are_words" "are_words" (defArgs s_are_words) (defBody s_are_words) (defScope s_are_words) .none kV_are_words dc_are_words pm_are_words an_are_words cd_are_words ct_are_words
  F_are_words := fun_mk l_are_words c_are_words k_are_words
  b_are_words := (fun_mk (st := s_are_words) l_are_words c_are_words k_are_words).binds (ps := ["words", "width", "signs"]) fun _ _ _ _ _ _ us hl => match us, hl with | [_, _, _], _ => rfl
  m_are_words := PySem.W.mg_of X G n_are_words
  a_are_middles := a_are_middles
  fd_are_middles := PySem.W.fnOf "are_middles" "are_middles" (defArgs s_are_middles) (defBody s_are_middles) (defScope s_are_middles) .none kV_are_middles dc_are_middles pm_are_middles an_are_middles cd_are_middles ct_are_middles
  F_are_middles := fun_mk l_are_middles c_are_middles k_are_middles
  b_are_middles := (fun_mk (st := s_are_middles) l_are_middles c_are_middles k_are_middles).binds (ps := ["machine", "width", "middles"]) fun _ _ _ _ _ _ us hl => match us, hl with | [_, _, _], _ => rfl
  m_are_middles := PySem.W.mg_of X G n_are_middles
  a_shows_shut := a_shows_shut
  fd_shows_shut := PySem.W.fnOf "shows_shut" "shows_shut" (defArgs s_shows_shut) (defBody s_shows_shut) (defScope s_shows_shut) .none kV_shows_shut dc_shows_shut pm_shows_shut an_shows_shut cd_shows_shut ct_shows_shut
  F_shows_shut := fun_mk l_shows_shut c_shows_shut k_shows_shut
  b_shows_shut := (fun_mk (st := s_shows_shut) l_shows_shut c_shows_shut k_shows_shut).binds (ps := ["machine", "paper"]) fun _ _ _ _ _ _ us hl => match us, hl with | [_, _], _ => rfl
  m_shows_shut := PySem.W.mg_of X G n_shows_shut
  a_L_is_width := a_L_is_width
  fd_L_is_width := PySem.W.fnOf "_law_is_width" "_law_is_width" (defArgs s_L_is_width) (defBody s_L_is_width) (defScope s_L_is_width) .none kV_L_is_width dc_L_is_width pm_L_is_width an_L_is_width cd_L_is_width ct_L_is_width
  F_L_is_width := fun_mk l_L_is_width c_L_is_width k_L_is_width
  b_L_is_width := (fun_mk (st := s_L_is_width) l_L_is_width c_L_is_width k_L_is_width).binds (ps := ["_law_signs", "_law_width"]) fun _ _ _ _ _ _ us hl => match us, hl with | [_, _], _ => rfl
  m_L_is_width := PySem.W.mg_of X G n_L_is_width
  a_L_word_fine := a_L_word_fine
  fd_L_word_fine := PySem.W.fnOf "_law_word_fine" "_law_word_fine" (defArgs s_L_word_fine) (defBody s_L_word_fine) (defScope s_L_word_fine) .none kV_L_word_fine dc_L_word_fine pm_L_word_fine an_L_word_fine cd_L_word_fine ct_L_word_fine
  F_L_word_fine := fun_mk l_L_word_fine c_L_word_fine k_L_word_fine
  b_L_word_fine := (fun_mk (st := s_L_word_fine) l_L_word_fine c_L_word_fine k_L_word_fine).binds (ps := ["_law_word", "_law_width", "_law_signs"]) fun _ _ _ _ _ _ us hl => match us, hl with | [_, _, _], _ => rfl
  m_L_word_fine := PySem.W.mg_of X G n_L_word_fine
  a_L_good := a_L_good
  fd_L_good := PySem.W.fnOf "_law_good" "_law_good" (defArgs s_L_good) (defBody s_L_good) (defScope s_L_good) .none kV_L_good dc_L_good pm_L_good an_L_good cd_L_good ct_L_good
  F_L_good := fun_mk l_L_good c_L_good k_L_good
  b_L_good := (fun_mk (st := s_L_good) l_L_good c_L_good k_L_good).binds (ps := ["_law_machine_here", "_law_paper"]) fun _ _ _ _ _ _ us hl => match us, hl with | [_, _], _ => rfl
  m_L_good := PySem.W.mg_of X G n_L_good
  a_shows := a_shows
  fd_shows := PySem.W.fnOf "shows" "shows" (defArgs s_shows) (defBody s_shows) (defScope s_shows) .none kV_shows dc_shows pm_shows an_shows cd_shows ct_shows
  F_shows := fun_mk l_shows c_shows k_shows
  b_shows := (fun_mk (st := s_shows) l_shows c_shows k_shows).binds (ps := ["machine", "paper"]) fun _ _ _ _ _ _ us hl => match us, hl with | [_, _], _ => rfl
  m_shows := PySem.W.mg_of X G n_shows
  a_L_asked := a_L_asked
  fd_L_asked := PySem.W.fnOf "_law_asked" "_law_asked" (defArgs s_L_asked) (defBody s_L_asked) (defScope s_L_asked) .none kV_L_asked dc_L_asked pm_L_asked an_L_asked cd_L_asked ct_L_asked
  F_L_asked := fun_mk l_L_asked c_L_asked k_L_asked
  b_L_asked := (fun_mk (st := s_L_asked) l_L_asked c_L_asked k_L_asked).binds (ps := ["_law_machine_here", "_law_paper"]) fun _ _ _ _ _ _ us hl => match us, hl with | [_, _], _ => rfl
  m_L_asked := PySem.W.mg_of X G n_L_asked
  a_L_bent := a_L_bent
  fd_L_bent := PySem.W.fnOf "_law_bent" "_law_bent" (defArgs s_L_bent) (defBody s_L_bent) (defScope s_L_bent) .none kV_L_bent dc_L_bent pm_L_bent an_L_bent cd_L_bent ct_L_bent
  F_L_bent := fun_mk l_L_bent c_L_bent k_L_bent
  b_L_bent := (fun_mk (st := s_L_bent) l_L_bent c_L_bent k_L_bent).binds (ps := ["_law_purse_here", "_law_machine_here", "_law_paper"]) fun _ _ _ _ _ _ us hl => match us, hl with | [_, _, _], _ => rfl
  m_L_bent := PySem.W.mg_of X G n_L_bent
  a_law := a_law
  fd_law := PySem.W.fnOf "law" "law" (defArgs s_law) (defBody s_law) (defScope s_law) .none kV_law dc_law pm_law an_law cd_law ct_law
  F_law := fun_mk l_law c_law k_law
  b_law := (fun_mk (st := s_law) l_law c_law k_law).binds (ps := ["_law_script"]) fun _ _ _ _ _ _ us hl => match us, hl with | [_], _ => rfl
  m_law := PySem.W.mg_of X G n_law
  C_NoMachine := C_NoMachine
  m_NoMachine := PySem.W.mg_of X G n_NoMachine
  tk_MOST_ROWS := tk_MOST_ROWS
  m_MOST_ROWS := PySem.W.mg_of X G n_MOST_ROWS
  tk_MOST_SIGNS := tk_MOST_SIGNS
  m_MOST_SIGNS := PySem.W.mg_of X G n_MOST_SIGNS
  tk_MOST_WORDS := tk_MOST_WORDS
  m_MOST_WORDS := PySem.W.mg_of X G n_MOST_WORDS
  n_range := PySem.W.mg_none_of X G z_range
  n_len := PySem.W.mg_none_of X G z_len
  n_list := PySem.W.mg_none_of X G z_list
  n_all := PySem.W.mg_none_of X G z_all
  n_min := PySem.W.mg_none_of X G z_min
  n_max := PySem.W.mg_none_of X G z_max
  n_isinstance := PySem.W.mg_none_of X G z_isinstance
  n_bool := PySem.W.mg_none_of X G z_bool
  n_tuple := PySem.W.mg_none_of X G z_tuple
theorem all_mk {l : PySem.W.OpenLaw} {w : World} {K : PySem.W.Frag} {h : Heap} {mg : Str → Option Value} {fa : Addr} (X : K.In h) (G : h.Ns mainGlobals mg) (hfa : mg "law" = some (.ref fa)) (t : Tx K mg)
    (hb : ∃ (kV dc pm : Value) (an : Option Addr) (cd ct : Value), t.fd_law = PySem.W.fnOf "law" "law" (defArgs s_law) (defBody s_law) (defScope s_law) .none kV dc pm an cd ct) :
    ∃ fd : FuncData, (∀ (s : Shared) (v : Value), BindsTo s fd ⟨[v], []⟩ [("_law_script", v)]) ∧ ∀ base : Heap, K.In base → base.Ns mainGlobals mg → FnOk l.prog w K mg base CX0 7 fa fd ["_law_script"] (sp_law K) := by
  have e := hfa.symm.trans t.m_law
  cases e
  refine ⟨t.fd_law, fun s v => ?_, fun base _ _ => ok_law t⟩
  obtain ⟨kV, dc, pm, an, cd, ct, e⟩ := hb
  rw [e]
  exact .of_eq rfl
theorem walk {l : PySem.W.OpenLaw} {q : Program} {loose : List Str} {XP : (Str → Option Value) → Heap → Prop} {YP : World → Heap → Prop} {d : DefRec} {K : Params → PySem.W.Frag} (hn : l.most = some 63) (hdf : d.params.defaults = [])
    (hY : ∀ (w : World) (h : Heap), YP w h → (K w.params).In h)
    (F : ∀ (w : World) (mg : Str → Option Value) (fa : Addr) (h : Heap), (K w.params).In h → h.Ns mainGlobals mg → mg d.name = some (.ref fa) →
      ∃ fd : FuncData, (∀ (s : Shared) (u : Value), BindsTo s fd ⟨[u], []⟩ [("_law_script", u)]) ∧ ∀ base : Heap, (K w.params).In base → base.Ns mainGlobals mg → FnOk l.prog w (K w.params) mg base CX0 7 fa fd ["_law_script"] (sp_law (K w.params))) :
    PySem.W.WalkO q loose XP YP l.row.toRowW d [] (fun f vs => PySem.call f vs) :=
  L2.walk_of (n := 63) (k := 7) (x := "_law_script") (CX := fun _ => CX0) (sp := fun w => sp_law (K w.params)) hn (by decide) hdf ⟨rfl, by decide, by decide⟩ hY F (fun _ _ a ns hl _ hS => ⟨a, ns, rfl, hS, hl, fun _ => rfl⟩) fun _ _ _ _ _ z => z
theorem all_go {l : PySem.W.OpenLaw} {w : World} {K : PySem.W.Frag} {h : Heap} {mg : Str → Option Value} {fa : Addr} {a_L_mixed a_L_purse a_L_draw a_L_machine a_L_asked_by a_L_grown a_L_copy a_is_entry a_is_machine a_must_machine a_put_new a_entry_for a_led_right a_led_left a_grown a_is_width a_are_words a_are_middles a_shows_shut a_L_is_width a_L_word_fine a_L_good a_shows a_L_asked a_L_bent a_law C_NoMachine : Addr} {od_L_mixed an_L_mixed od_L_purse an_L_purse od_L_draw an_L_draw od_L_machine an_L_machine od_L_asked_by an_L_asked_by od_L_grown an_L_grown od_L_copy an_L_copy od_is_entry an_is_entry od_is_machine an_is_machine od_must_machine an_must_machine od_put_new an_put_new od_entry_for an_entry_for od_led_right an_led_right od_led_left an_led_left od_grown an_grown od_is_width an_is_width od_are_words an_are_words od_are_middles an_are_middles od_shows_shut an_shows_shut od_L_is_width an_L_is_width od_L_word_fine an_L_word_fine od_L_good an_L_good od_shows an_shows od_L_asked an_L_asked od_L_bent an_L_bent od_law an_law : Option Addr} {sl_L_mixed sl_L_purse sl_L_draw sl_L_machine sl_L_asked_by sl_L_grown sl_L_copy sl_is_entry sl_is_machine sl_must_machine sl_put_new sl_entry_for sl_led_right sl_led_left sl_grown sl_is_width sl_are_words sl_are_middles sl_shows_shut sl_L_is_width sl_L_word_fine sl_L_good sl_shows sl_L_asked sl_L_bent sl_law : Array (Option Value)} {oc_L_mixed kV_L_mixed dc_L_mixed pm_L_mixed cd_L_mixed ct_L_mixed oc_L_purse kV_L_purse dc_L_purse pm_L_purse cd_L_purse ct_L_purse oc_L_draw kV_L_draw dc_L_draw pm_L_draw cd_L_draw ct_L_draw oc_L_machine kV_L_machine dc_L_machine pm_L_machine cd_L_machine ct_L_machine oc_L_asked_by kV_L_asked_by dc_L_asked_by pm_L_asked_by cd_L_asked_by ct_L_asked_by oc_L_grown kV_L_grown dc_L_grown pm_L_grown cd_L_grown ct_L_grown oc_L_copy kV_L_copy dc_L_copy pm_L_copy cd_L_copy ct_L_copy oc_is_entry kV_is_entry dc_is_entry pm_is_entry cd_is_entry ct_is_entry oc_is_machine kV_is_machine dc_is_machine pm_is_machine cd_is_machine ct_is_machine oc_must_machine kV_must_machine dc_must_machine pm_must_machine cd_must_machine ct_must_machine oc_put_new kV_put_new dc_put_new pm_put_new cd_put_new ct_put_new oc_entry_for kV_entry_for dc_entry_for pm_entry_for cd_entry_for ct_entry_for oc_led_right kV_led_right dc_led_right pm_led_right cd_led_right ct_led_right oc_led_left kV_led_left dc_led_left pm_led_left cd_led_left ct_led_left oc_grown kV_grown dc_grown pm_grown cd_grown ct_grown oc_is_width kV_is_width dc_is_width pm_is_width cd_is_width ct_is_width oc_are_words kV_are_words dc_are_words pm_are_words cd_are_words ct_are_words oc_are_middles kV_are_middles dc_are_middles pm_are_middles cd_are_middles ct_are_middles oc_shows_shut kV_shows_shut dc_shows_shut pm_shows_shut cd_shows_shut ct_shows_shut oc_L_is_width kV_L_is_width dc_L_is_width pm_L_is_width cd_L_is_width ct_L_is_width oc_L_word_fine kV_L_word_fine dc_L_word_fine pm_L_word_fine cd_L_word_fine ct_L_word_fine oc_L_good kV_L_good dc_L_good pm_L_good cd_L_good ct_L_good oc_shows kV_shows dc_shows pm_shows cd_shows ct_shows oc_L_asked kV_L_asked dc_L_asked pm_L_asked cd_L_asked ct_L_asked oc_L_bent kV_L_bent dc_L_bent pm_L_bent cd_L_bent ct_L_bent oc_law kV_law dc_law pm_law cd_law ct_law : Value} {tk_MOST_ROWS tk_MOST_SIGNS tk_MOST_WORDS : Tok} (X : K.In h) (G : h.Ns mainGlobals mg) (hfa : mg "law" = some (.ref fa))
    (n_NoMachine : PySem.W.nsIn K mainGlobals "NoMachine" = some (some (.ref C_NoMachine)))
    (n_L_mixed : PySem.W.nsIn K mainGlobals "_law_mixed" = some (some (.ref a_L_mixed)))
    (l_L_mixed : K.lookup a_L_mixed = some ⟨oc_L_mixed, od_L_mixed, .func (PySem.W.fnOf "_law_mixed" "_law_mixed" (defArgs s_L_mixed) (defBody s_L_mixed) (defScope s_L_mixed) .none kV_L_mixed dc_L_mixed pm_L_mixed an_L_mixed cd_L_mixed ct_L_mixed), sl_L_mixed⟩)
    (c_L_mixed : PySem.W.codeIn K cd_L_mixed "_law_mixed" = true)
    (k_L_mixed : PySem.W.keepIn K (.ref a_L_mixed) = true)
    (n_L_purse : PySem.W.nsIn K mainGlobals "_law_purse" = some (some (.ref a_L_purse)))
    (l_L_purse : K.lookup a_L_purse = some ⟨oc_L_purse, od_L_purse, .func (PySem.W.fnOf "_law_purse" "_law_purse" (defArgs s_L_purse) (defBody s_L_purse) (defScope s_L_purse) .none kV_L_purse dc_L_purse pm_L_purse an_L_purse cd_L_purse ct_L_purse), sl_L_purse⟩)
    (c_L_purse : PySem.W.codeIn K cd_L_purse "_law_purse" = true)
    (k_L_purse : PySem.W.keepIn K (.ref a_L_purse) = true)
    (n_L_draw : PySem.W.nsIn K mainGlobals "_law_draw" = some (some (.ref a_L_draw)))
    (l_L_draw : K.lookup a_L_draw = some ⟨oc_L_draw, od_L_draw, .func (PySem.W.fnOf "_law_draw" "_law_draw" (defArgs s_L_draw) (defBody s_L_draw) (defScope s_L_draw) .none kV_L_draw dc_L_draw pm_L_draw an_L_draw cd_L_draw ct_L_draw), sl_L_draw⟩)
    (c_L_draw : PySem.W.codeIn K cd_L_draw "_law_draw" = true)
    (k_L_draw : PySem.W.keepIn K (.ref a_L_draw) = true)
    (n_L_machine : PySem.W.nsIn K mainGlobals "_law_machine" = some (some (.ref a_L_machine)))
    (l_L_machine : K.lookup a_L_machine = some ⟨oc_L_machine, od_L_machine, .func (PySem.W.fnOf "_law_machine" "_law_machine" (defArgs s_L_machine) (defBody s_L_machine) (defScope s_L_machine) .none kV_L_machine dc_L_machine pm_L_machine an_L_machine cd_L_machine ct_L_machine), sl_L_machine⟩)
    (c_L_machine : PySem.W.codeIn K cd_L_machine "_law_machine" = true)
    (k_L_machine : PySem.W.keepIn K (.ref a_L_machine) = true)
    (n_L_asked_by : PySem.W.nsIn K mainGlobals "_law_asked_by" = some (some (.ref a_L_asked_by)))
    (l_L_asked_by : K.lookup a_L_asked_by = some ⟨oc_L_asked_by, od_L_asked_by, .func (PySem.W.fnOf "_law_asked_by" "_law_asked_by" (defArgs s_L_asked_by) (defBody s_L_asked_by) (defScope s_L_asked_by) .none kV_L_asked_by dc_L_asked_by pm_L_asked_by an_L_asked_by cd_L_asked_by ct_L_asked_by), sl_L_asked_by⟩)
    (c_L_asked_by : PySem.W.codeIn K cd_L_asked_by "_law_asked_by" = true)
    (k_L_asked_by : PySem.W.keepIn K (.ref a_L_asked_by) = true)
    (n_L_grown : PySem.W.nsIn K mainGlobals "_law_grown" = some (some (.ref a_L_grown)))
    (l_L_grown : K.lookup a_L_grown = some ⟨oc_L_grown, od_L_grown, .func (PySem.W.fnOf "_law_grown" "_law_grown" (defArgs s_L_grown) (defBody s_L_grown) (defScope s_L_grown) .none kV_L_grown dc_L_grown pm_L_grown an_L_grown cd_L_grown ct_L_grown), sl_L_grown⟩)
    (c_L_grown : PySem.W.codeIn K cd_L_grown "_law_grown" = true)
    (k_L_grown : PySem.W.keepIn K (.ref a_L_grown) = true)
    (n_L_copy : PySem.W.nsIn K mainGlobals "_law_copy" = some (some (.ref a_L_copy)))
    (l_L_copy : K.lookup a_L_copy = some ⟨oc_L_copy, od_L_copy, .func (PySem.W.fnOf "_law_copy" "_law_copy" (defArgs s_L_copy) (defBody s_L_copy) (defScope s_L_copy) .none kV_L_copy dc_L_copy pm_L_copy an_L_copy cd_L_copy ct_L_copy), sl_L_copy⟩)
    (c_L_copy : PySem.W.codeIn K cd_L_copy "_law_copy" = true)
    (k_L_copy : PySem.W.keepIn K (.ref a_L_copy) = true)
    (n_is_entry : PySem.W.nsIn K mainGlobals "is_entry" = some (some (.ref a_is_entry)))
    (l_is_entry : K.lookup a_is_entry = some ⟨oc_is_entry, od_is_entry, .func (PySem.W.fnOf "is_entry" "is_entry" (defArgs s_is_entry) (defBody s_is_entry) (defScope s_is_entry) .none kV_is_entry dc_is_entry pm_is_entry an_is_entry cd_is_entry ct_is_entry), sl_is_entry⟩)
    (c_is_entry : PySem.W.codeIn K cd_is_entry "is_entry" = true)
    (k_is_entry : PySem.W.keepIn K (.ref a_is_entry) = true)
    (n_is_machine : PySem.W.nsIn K mainGlobals "is_machine" = some (some (.ref a_is_machine)))
    (l_is_machine : K.lookup a_is_machine = some ⟨oc_is_machine, od_is_machine, .func (PySem.W.fnOf "is_machine" "is_machine" (defArgs s_is_machine) (defBody s_is_machine) (defScope s_is_machine) .none kV_is_machine dc_is_machine pm_is_machine an_is_machine cd_is_machine ct_is_machine), sl_is_machine⟩)
    (c_is_machine : PySem.W.codeIn K cd_is_machine "is_machine" = true)
    (k_is_machine : PySem.W.keepIn K (.ref a_is_machine) = true)
    (n_must_machine : PySem.W.nsIn K mainGlobals "must_machine" = some (some (.ref a_must_machine)))
    (l_must_machine : K.lookup a_must_machine = some ⟨oc_must_machine, od_must_machine, .func (PySem.W.fnOf "must_machine" "must_machine" (defArgs s_must_machine) (defBody s_must_machine) (defScope s_must_machine) .none kV_must_machine dc_must_machine pm_must_machine an_must_machine cd_must_machine ct_must_machine), sl_must_machine⟩)
    (c_must_machine : PySem.W.codeIn K cd_must_machine "must_machine" = true)
    (k_must_machine : PySem.W.keepIn K (.ref a_must_machine) = true)
    (n_put_new : PySem.W.nsIn K mainGlobals "put_new" = some (some (.ref a_put_new)))
    (l_put_new : K.lookup a_put_new = some ⟨oc_put_new, od_put_new, .func (PySem.W.fnOf "put_new" "put_new" (defArgs s_put_new) (defBody s_put_new) (defScope s_put_new) .none kV_put_new dc_put_new pm_put_new an_put_new cd_put_new ct_put_new), sl_put_new⟩)
    (c_put_new : PySem.W.codeIn K cd_put_new "put_new" = true)
    (k_put_new : PySem.W.keepIn K (.ref a_put_new) = true)
    (n_entry_for : PySem.W.nsIn K mainGlobals "entry_for" = some (some (.ref a_entry_for)))
    (l_entry_for : K.lookup a_entry_for = some ⟨oc_entry_for, od_entry_for, .func (PySem.W.fnOf "entry_for" "entry_for" (defArgs s_entry_for) (defBody s_entry_for) (defScope s_entry_for) .none kV_entry_for dc_entry_for pm_entry_for an_entry_for cd_entry_for ct_entry_for), sl_entry_for⟩)
    (c_entry_for : PySem.W.codeIn K cd_entry_for "entry_for" = true)
    (k_entry_for : PySem.W.keepIn K (.ref a_entry_for) = true)
    (n_led_right : PySem.W.nsIn K mainGlobals "led_right" = some (some (.ref a_led_right)))
    (l_led_right : K.lookup a_led_right = some ⟨oc_led_right, od_led_right, .func (PySem.W.fnOf "led_right" "led_right" (defArgs s_led_right) (defBody s_led_right) (defScope s_led_right) .none kV_led_right dc_led_right pm_led_right an_led_right cd_led_right ct_led_right), sl_led_right⟩)
    (c_led_right : PySem.W.codeIn K cd_led_right "led_right" = true)
    (k_led_right : PySem.W.keepIn K (.ref a_led_right) = true)
    (n_led_left : PySem.W.nsIn K mainGlobals "led_left" = some (some (.ref a_led_left)))
    (l_led_left : K.lookup a_led_left = some ⟨oc_led_left, od_led_left, .func (PySem.W.fnOf "led_left" "led_left" (defArgs s_led_left) (defBody s_led_left) (defScope s_led_left) .none kV_led_left dc_led_left pm_led_left an_led_left cd_led_left ct_led_left), sl_led_left⟩)
    (c_led_left : PySem.W.codeIn K cd_led_left "led_left" = true)
    (k_led_left : PySem.W.keepIn K (.ref a_led_left) = true)
    (n_grown : PySem.W.nsIn K mainGlobals "grown" = some (some (.ref a_grown)))
    (l_grown : K.lookup a_grown = some ⟨oc_grown, od_grown, .func (PySem.W.fnOf "grown" "grown" (defArgs s_grown) (defBody s_grown) (defScope s_grown) .none kV_grown dc_grown pm_grown an_grown cd_grown ct_grown), sl_grown⟩)
    (c_grown : PySem.W.codeIn K cd_grown "grown" = true)
    (k_grown : PySem.W.keepIn K (.ref a_grown) = true)
    (n_is_width : PySem.W.nsIn K mainGlobals "is_width" = some (some (.ref a_is_width)))
    (l_is_width : K.lookup a_is_width = some ⟨oc_is_width, od_is_width, .func (PySem.W.fnOf "is_width" "is_width" (defArgs s_is_width) (defBody s_is_width) (defScope s_is_width) .none kV_is_width dc_is_width pm_is_width an_is_width cd_is_width ct_is_width), sl_is_width⟩)
    (c_is_width : PySem.W.codeIn K cd_is_width "is_width" = true)
    (k_is_width : PySem.W.keepIn K (.ref a_is_width) = true)
    (n_are_words : PySem.W.nsIn K mainGlobals "are_words" = some (some (.ref a_are_words)))
    (l_are_words : K.lookup a_are_words = some ⟨oc_are_words, od_are_words, .func (PySem.W.fnOf "are_words" "are_words" (defArgs s_are_words) (defBody s_are_words) (defScope s_are_words) .none kV_are_words dc_are_words pm_are_words an_are_words cd_are_words ct_are_words), sl_are_words⟩)
    (c_are_words : PySem.W.codeIn K cd_are_words "are_words" = true)
    (k_are_words : PySem.W.keepIn K (.ref a_are_words) = true)
    (n_are_middles : PySem.W.nsIn K mainGlobals "are_middles" = some (some (.ref a_are_middles)))
    (l_are_middles : K.lookup a_are_middles = some ⟨oc_are_middles, od_are_middles, .func (PySem.W.fnOf "are_middles" "are_middles" (defArgs s_are_middles) (defBody s_are_middles) (defScope s_are_middles) .none kV_are_middles dc_are_middles pm_are_middles an_are_middles cd_are_middles ct_are_middles), sl_are_middles⟩)
    (c_are_middles : PySem.W.codeIn K cd_are_middles "are_middles" = true)
    (k_are_middles : PySem.W.keepIn K (.ref a_are_middles) = true)
    (n_shows_shut : PySem.W.nsIn K mainGlobals "shows_shut" = some (some (.ref a_shows_shut)))
    (l_shows_shut : K.lookup a_shows_shut = some ⟨oc_shows_shut, od_shows_shut, .func (PySem.W.fnOf "shows_shut" "shows_shut" (defArgs s_shows_shut) (defBody s_shows_shut) (defScope s_shows_shut) .none kV_shows_shut dc_shows_shut pm_shows_shut an_shows_shut cd_shows_shut ct_shows_shut), sl_shows_shut⟩)
    (c_shows_shut : PySem.W.codeIn K cd_shows_shut "shows_shut" = true)
    (k_shows_shut : PySem.W.keepIn K (.ref a_shows_shut) = true)
    (n_L_is_width : PySem.W.nsIn K mainGlobals "_law_is_width" = some (some (.ref a_L_is_width)))
    (l_L_is_width : K.lookup a_L_is_width = some ⟨oc_L_is_width, od_L_is_width, .func (PySem.W.fnOf "_law_is_width" "_law_is_width" (defArgs s_L_is_width) (defBody s_L_is_width) (defScope s_L_is_width) .none kV_L_is_width dc_L_is_width pm_L_is_width an_L_is_width cd_L_is_width ct_L_is_width), sl_L_is_width⟩)
    (c_L_is_width : PySem.W.codeIn K cd_L_is_width "_law_is_width" = true)
    (k_L_is_width : PySem.W.keepIn K (.ref a_L_is_width) = true)
    (n_L_word_fine : PySem.W.nsIn K mainGlobals "_law_word_fine" = some (some (.ref a_L_word_fine)))
    (l_L_word_fine : K.lookup a_L_word_fine = some ⟨oc_L_word_fine, od_L_word_fine, .func (PySem.W.fnOf "_law_word_fine" "_law_word_fine" (defArgs s_L_word_fine) (defBody s_L_word_fine) (defScope s_L_word_fine) .none kV_L_word_fine dc_L_word_fine pm_L_word_fine an_L_word_fine cd_L_word_fine ct_L_word_fine), sl_L_word_fine⟩)
    (c_L_word_fine : PySem.W.codeIn K cd_L_word_fine "_law_word_fine" = true)
    (k_L_word_fine : PySem.W.keepIn K (.ref a_L_word_fine) = true)
    (n_L_good : PySem.W.nsIn K mainGlobals "_law_good" = some (some (.ref a_L_good)))
    (l_L_good : K.lookup a_L_good = some ⟨oc_L_good, od_L_good, .func (PySem.W.fnOf "_law_good" "_law_good" (defArgs s_L_good) (defBody s_L_good) (defScope s_L_good) .none kV_L_good dc_L_good pm_L_good an_L_good cd_L_good ct_L_good), sl_L_good⟩)
    (c_L_good : PySem.W.codeIn K cd_L_good "_law_good" = true)
    (k_L_good : PySem.W.keepIn K (.ref a_L_good) = true)
    (n_shows : PySem.W.nsIn K mainGlobals "shows" = some (some (.ref a_shows)))
    (l_shows : K.lookup a_shows = some ⟨oc_shows, od_shows, .func (PySem.W.fnOf "shows" "shows" (defArgs s_shows) (defBody s_shows) (defScope s_shows) .none kV_shows dc_shows pm_shows an_shows cd_shows ct_shows), sl_shows⟩)
    (c_shows : PySem.W.codeIn K cd_shows "shows" = true)
    (k_shows : PySem.W.keepIn K (.ref a_shows) = true)
    (n_L_asked : PySem.W.nsIn K mainGlobals "_law_asked" = some (some (.ref a_L_asked)))
    (l_L_asked : K.lookup a_L_asked = some ⟨oc_L_asked, od_L_asked, .func (PySem.W.fnOf "_law_asked" "_law_asked" (defArgs s_L_asked) (defBody s_L_asked) (defScope s_L_asked) .none kV_L_asked dc_L_asked pm_L_asked an_L_asked cd_L_asked ct_L_asked), sl_L_asked⟩)
    (c_L_asked : PySem.W.codeIn K cd_L_asked "_law_asked" = true)
    (k_L_asked : PySem.W.keepIn K (.ref a_L_asked) = true)
    (n_L_bent : PySem.W.nsIn K mainGlobals "_law_bent" = some (some (.ref a_L_bent)))
    (l_L_bent : K.lookup a_L_bent = some ⟨oc_L_bent, od_L_bent, .func (PySem.W.fnOf "_law_bent" "_law_bent" (defArgs s_L_bent) (defBody s_L_bent) (defScope s_L_bent) .none kV_L_bent dc_L_bent pm_L_bent an_L_bent cd_L_bent ct_L_bent), sl_L_bent⟩)
    (c_L_bent : PySem.W.codeIn K cd_L_bent "_law_bent" = true)
    (k_L_bent : PySem.W.keepIn K (.ref a_L_bent) = true)
    (n_law : PySem.W.nsIn K mainGlobals "law" = some (some (.ref a_law)))
    (l_law : K.lookup a_law = some ⟨oc_law, od_law, .func (PySem.W.fnOf "law" "law" (defArgs s_law) (defBody s_law) (defScope s_law) .none kV_law dc_law pm_law an_law cd_law ct_law), sl_law⟩)
    (c_law : PySem.W.codeIn K cd_law "law" = true)
    (k_law : PySem.W.keepIn K (.ref a_law) = true)
    (n_MOST_ROWS : PySem.W.nsIn K mainGlobals "MOST_ROWS" = some (some (.int 4 tk_MOST_ROWS)))
    (n_MOST_SIGNS : PySem.W.nsIn K mainGlobals "MOST_SIGNS" = some (some (.int 4 tk_MOST_SIGNS)))
    (n_MOST_WORDS : PySem.W.nsIn K mainGlobals "MOST_WORDS" = some (some (.int 16 tk_MOST_WORDS)))
    (z_range : PySem.W.nsIn K mainGlobals "range" = some none)
    (z_len : PySem.W.nsIn K mainGlobals "len" = some none)
    (z_list : PySem.W.nsIn K mainGlobals "list" = some none)
    (z_all : PySem.W.nsIn K mainGlobals "all" = some none)
    (z_min : PySem.W.nsIn K mainGlobals "min" = some none)
    (z_max : PySem.W.nsIn K mainGlobals "max" = some none)
    (z_isinstance : PySem.W.nsIn K mainGlobals "isinstance" = some none)
    (z_bool : PySem.W.nsIn K mainGlobals "bool" = some none)
    (z_tuple : PySem.W.nsIn K mainGlobals "tuple" = some none) :
    ∃ fd : FuncData, (∀ (s : Shared) (v : Value), BindsTo s fd ⟨[v], []⟩ [("_law_script", v)]) ∧ ∀ base : Heap, K.In base → base.Ns mainGlobals mg → FnOk l.prog w K mg base CX0 7 fa fd ["_law_script"] (sp_law K) :=
  all_mk X G hfa (all_tx X G n_NoMachine n_L_mixed l_L_mixed c_L_mixed k_L_mixed n_L_purse l_L_purse c_L_purse k_L_purse n_L_draw l_L_draw c_L_draw k_L_draw n_L_machine l_L_machine c_L_machine k_L_machine n_L_asked_by l_L_asked_by c_L_asked_by k_L_asked_by n_L_grown l_L_grown c_L_grown k_L_grown n_L_copy l_L_copy c_L_copy k_L_copy n_is_entry l_is_entry c_is_entry k_is_entry n_is_machine l_is_machine c_is_machine k_is_machine n_must_machine l_must_machine c_must_machine k_must_machine n_put_new l_put_new c_put_new k_put_new n_entry_for l_entry_for c_entry_for k_entry_for n_led_right l_led_right c_led_right k_led_right n_led_left l_led_left c_led_left k_led_left n_grown l_grown c_grown k_grown n_is_width l_is_width c_is_width k_is_width n_are_words l_are_words c_are_words k_are_words n_are_middles l_are_middles c_are_middles k_are_middles n_shows_shut l_shows_shut c_shows_shut k_shows_shut n_L_is_width l_L_is_width c_L_is_width k_L_is_width n_L_word_fine l_L_word_fine c_L_word_fine k_L_word_fine n_L_good l_L_good c_L_good k_L_good n_shows l_shows c_shows k_shows n_L_asked l_L_asked c_L_asked k_L_asked n_L_bent l_L_bent c_L_bent k_L_bent n_law l_law c_law k_law n_MOST_ROWS n_MOST_SIGNS n_MOST_WORDS z_range z_len z_list z_all z_min z_max z_isinstance z_bool z_tuple) ⟨_, _, _, _, _, _, rfl⟩
end E
open PySem PySem.W PyProof.Rows
set_option maxRecDepth 100000 in
set_option maxHeartbeats 0 in
theorem PySem.Challenge.cw_endnever_k50_shut_papers_looked_at_holds : PySem.Challenge.rw_endnever_k50_shut_papers_looked_at.Holds := by
  w_on; o_law; k_head; (case hw => w_witness2)
  k_fill
  refine E.walk (l := PySem.Challenge.rw_endnever_k50_shut_papers_looked_at) rfl rfl (fun w h Y => PySem.W.kIn_of Y) ?F
  case F =>
    intro w mg fa h KX G hmg
    refine' E.all_go KX G hmg ?n_NoMachine ?n_L_mixed ?l_L_mixed ?c_L_mixed ?k_L_mixed ?n_L_purse ?l_L_purse ?c_L_purse ?k_L_purse ?n_L_draw ?l_L_draw ?c_L_draw ?k_L_draw ?n_L_machine ?l_L_machine ?c_L_machine ?k_L_machine ?n_L_asked_by ?l_L_asked_by ?c_L_asked_by ?k_L_asked_by ?n_L_grown ?l_L_grown ?c_L_grown ?k_L_grown ?n_L_copy ?l_L_copy ?c_L_copy ?k_L_copy ?n_is_entry ?l_is_entry ?c_is_entry ?k_is_entry ?n_is_machine ?l_is_machine ?c_is_machine ?k_is_machine ?n_must_machine ?l_must_machine ?c_must_machine ?k_must_machine ?n_put_new ?l_put_new ?c_put_new ?k_put_new ?n_entry_for ?l_entry_for ?c_entry_for ?k_entry_for ?n_led_right ?l_led_right ?c_led_right ?k_led_right ?n_led_left ?l_led_left ?c_led_left ?k_led_left ?n_grown ?l_grown ?c_grown ?k_grown ?n_is_width ?l_is_width ?c_is_width ?k_is_width ?n_are_words ?l_are_words ?c_are_words ?k_are_words ?n_are_middles ?l_are_middles ?c_are_middles ?k_are_middles ?n_shows_shut ?l_shows_shut ?c_shows_shut ?k_shows_shut ?n_L_is_width ?l_L_is_width ?c_L_is_width ?k_L_is_width ?n_L_word_fine ?l_L_word_fine ?c_L_word_fine ?k_L_word_fine ?n_L_good ?l_L_good ?c_L_good ?k_L_good ?n_shows ?l_shows ?c_shows ?k_shows ?n_L_asked ?l_L_asked ?c_L_asked ?k_L_asked ?n_L_bent ?l_L_bent ?c_L_bent ?k_L_bent ?n_law ?l_law ?c_law ?k_law ?n_MOST_ROWS ?n_MOST_SIGNS ?n_MOST_WORDS ?z_range ?z_len ?z_list ?z_all ?z_min ?z_max ?z_isinstance ?z_bool ?z_tuple
    (case n_NoMachine => k_is); (case n_L_mixed => k_is); (case l_L_mixed => k_is); (case c_L_mixed => k_is); (case k_L_mixed => k_is); (case n_L_purse => k_is); (case l_L_purse => k_is); (case c_L_purse => k_is)
    (case k_L_purse => k_is); (case n_L_draw => k_is); (case l_L_draw => k_is); (case c_L_draw => k_is); (case k_L_draw => k_is); (case n_L_machine => k_is); (case l_L_machine => k_is); (case c_L_machine => k_is)
    (case k_L_machine => k_is); (case n_L_asked_by => k_is); (case l_L_asked_by => k_is); (case c_L_asked_by => k_is); (case k_L_asked_by => k_is); (case n_L_grown => k_is); (case l_L_grown => k_is); (case c_L_grown => k_is)
    (case k_L_grown => k_is); (case n_L_copy => k_is); (case l_L_copy => k_is); (case c_L_copy => k_is); (case k_L_copy => k_is); (case n_is_entry => k_is); (case l_is_entry => k_is); (case c_is_entry => k_is)
    (case k_is_entry => k_is); (case n_is_machine => k_is); (case l_is_machine => k_is); (case c_is_machine => k_is); (case k_is_machine => k_is); (case n_must_machine => k_is); (case l_must_machine => k_is); (case c_must_machine => k_is)
    (case k_must_machine => k_is); (case n_put_new => k_is); (case l_put_new => k_is); (case c_put_new => k_is); (case k_put_new => k_is); (case n_entry_for => k_is); (case l_entry_for => k_is); (case c_entry_for => k_is)
    (case k_entry_for => k_is); (case n_led_right => k_is); (case l_led_right => k_is); (case c_led_right => k_is); (case k_led_right => k_is); (case n_led_left => k_is); (case l_led_left => k_is); (case c_led_left => k_is)
    (case k_led_left => k_is); (case n_grown => k_is); (case l_grown => k_is); (case c_grown => k_is); (case k_grown => k_is); (case n_is_width => k_is); (case l_is_width => k_is); (case c_is_width => k_is)
    (case k_is_width => k_is); (case n_are_words => k_is); (case l_are_words => k_is); (case c_are_words => k_is); (case k_are_words => k_is); (case n_are_middles => k_is); (case l_are_middles => k_is); (case c_are_middles => k_is)
    (case k_are_middles => k_is); (case n_shows_shut => k_is); (case l_shows_shut => k_is); (case c_shows_shut => k_is); (case k_shows_shut => k_is); (case n_L_is_width => k_is); (case l_L_is_width => k_is); (case c_L_is_width => k_is)
    (case k_L_is_width => k_is); (case n_L_word_fine => k_is); (case l_L_word_fine => k_is); (case c_L_word_fine => k_is); (case k_L_word_fine => k_is); (case n_L_good => k_is); (case l_L_good => k_is); (case c_L_good => k_is)
    (case k_L_good => k_is); (case n_shows => k_is); (case l_shows => k_is); (case c_shows => k_is); (case k_shows => k_is); (case n_L_asked => k_is); (case l_L_asked => k_is); (case c_L_asked => k_is)
    (case k_L_asked => k_is); (case n_L_bent => k_is); (case l_L_bent => k_is); (case c_L_bent => k_is); (case k_L_bent => k_is); (case n_law => k_is); (case l_law => k_is); (case c_law => k_is)
    (case k_law => k_is); (case n_MOST_ROWS => k_is); (case n_MOST_SIGNS => k_is); (case n_MOST_WORDS => k_is); (case z_range => k_is); (case z_len => k_is); (case z_list => k_is); (case z_all => k_is)
    (case z_min => k_is); (case z_max => k_is); (case z_isinstance => k_is); (case z_bool => k_is); (case z_tuple => k_is)
#print axioms PySem.Challenge.cw_endnever_k50_shut_papers_looked_at_holds
