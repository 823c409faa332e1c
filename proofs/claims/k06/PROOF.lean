import PyProof.Rows.All
import Wide.All
import OpenK.AllK
import Wide.FinOn
import HandS.ForMost
import HandS.SortRule
import HandS.IsInst
import HandS.TupAny
import HandS.TupMul
import HandS.Walk
import HandS.More
import HandS.ListItems
import HandS.Wide
import KE.KTupSum
import HandS.Style
import HandS.Deep
import HandS.SortInts
import KE.GoesMore
import KE.KDictKeyed
import KE.KeyNested
import KE.SortData
import KE.KDictPairs
import KE.KEqNest
import HandS.Exc
import HandS.ExcOwn
import HandS.ExcIs
import HandS.WordsExc
import HandS.TryOnly
import KE.KIsAll
import PySem.Challenge.RW_endnever_k06_no_machine_at_every_door
set_option Elab.async false
set_option maxRecDepth 100000
set_option maxHeartbeats 4000000
namespace E
open PySem L2
/-! ### small words of our own -/
theorem inr_int {x : V} {ns : List Int} {i : Nat} (h : (ns.map V.int)[i]? = some x) : ∃ z, x = V.int z ∧ ns[i]? = some z := by
  rw [List.getElem?_map] at h
  cases e : ns[i]? with
  | none => rw [e] at h; cases h
  | some z => rw [e] at h; exact ⟨z, (Option.some.inj h).symm, rfl⟩
/-- F stands in H, whatever comes to it -/
theorem sm_new {F H : Hp} {p : Addr} {o : HO} (s : Same F H) (n : H p = Option.none) : Same F (upd H p o) := fun b u e => by
  rw [upd_ne (ne_of_none (s b u e) n)]
  exact s b u e
theorem sm_set {F H : Hp} {p : Addr} {o : HO} (s : Same F H) (n : F p = Option.none) : Same F (upd H p o) := fun b u e => by
  rw [upd_ne (ne_of_none e n)]
  exact s b u e
theorem sm_up {H : Hp} {p : Addr} {o : HO} (n : H p = none) : Same H (upd H p o) := sm_new (Same.refl H) n
theorem cut_63 {ns : List Int} (h : ns.length ≤ 63) : cutV (ns.map V.int) none (some 63) = ns.map V.int := by
  unfold cutV
  have e1 : HT.sIx (ns.map V.int).length 0 none = 0 := rfl
  have e2 : HT.sIx (ns.map V.int).length (ns.map V.int).length (some 63) = (ns.map V.int).length := by
    simp only [HT.sIx, List.length_map]
    rw [if_neg (by decide), show (63 : Int).toNat = 63 from rfl]
    omega
  rw [e1, e2, List.drop_zero, Nat.sub_zero, List.take_length]
theorem ifT {c : Bool} {A B : Prop} (h : c = true) (a : A) : if c = true then A else B := by
  rw [if_pos h]; exact a
theorem ifF {c : Bool} {A B : Prop} (h : c = false) (b : B) : if c = true then A else B := by
  rw [h, if_neg Bool.false_ne_true]; exact b
theorem one_le : 1 ≤ sizeLine := by decide
theorem two_le : 2 ≤ sizeLine := by decide
theorem three_le : 3 ≤ sizeLine := by decide
theorem five_le : 5 ≤ sizeLine := by decide
theorem nil_le : 0 ≤ sizeLine := by decide
theorem lt_size {n : Nat} (h : n ≤ 1000000) : n < sizeLine := Nat.lt_of_le_of_lt h (by decide)
theorem le_size {n : Nat} (h : n ≤ 1000000) : n ≤ sizeLine := Nat.le_of_lt (lt_size h)
theorem pi_listK {X : Cx} {K : PySem.W.Frag} {tg l : Expr} {tl : TE} (e : X.K = K) (h : PE X l tl) : PI X tg l (iList K tl) := by
  subst e; exact pi_list h
theorem pi_tupK {X : Cx} {K : PySem.W.Frag} {tg l : Expr} {tl : TE} (e : X.K = K) (h : PE X l tl) : PI X tg l (iTup K tl) := by
  subst e; exact pi_tup h
theorem crK {X : Cx} {K : PySem.W.Frag} {f : Value} {r : PySem.W.Frag → List V → Hp → VK → Prop} (e : X.K = K) (h : CallR X f (r X.K)) : CallR X f (r K) := by
  subst e; exact h
theorem orK {X : Cx} {K : PySem.W.Frag} {f : Value → Value → Sem Value} {r : PySem.W.Frag → R2} (e : X.K = K) (h : OpR X f (r X.K)) : OpR X f (r K) := by
  subst e; exact h
theorem ixK {X : Cx} {K : PySem.W.Frag} {r : PySem.W.Frag → R2} (e : X.K = K) (h : IxR X (r X.K)) : IxR X (r K) := by
  subst e; exact h
theorem slK {X : Cx} {K : PySem.W.Frag} {r : PySem.W.Frag → V → Option Int → Option Int → Hp → VK → Prop} (e : X.K = K) (h : SlR X (r X.K)) : SlR X (r K) := by
  subst e; exact h
def rLenQ (K : PySem.W.Frag) : List V → Hp → VK → Prop := fun xs H Q => ∃ p ys, xs = [.ref p] ∧ (SqL K H p ys ∨ SqT K H p ys) ∧ Q (.int ys.length) H
def rListQ (K : PySem.W.Frag) : List V → Hp → VK → Prop := fun xs H Q => ∃ p ys, xs = [.ref p] ∧ (SqL K H p ys ∨ SqT K H p ys) ∧ ∀ l, H l = none → Q (.ref l) (upd H l (.lst ys))
def rTupQ (K : PySem.W.Frag) : List V → Hp → VK → Prop := fun xs H Q => ∃ p ys, xs = [.ref p] ∧ ((SqL K H p ys ∧ ∀ l, H l = none → Q (.ref l) (upd H l (.tup ys))) ∨ (SqT K H p ys ∧ Q (.ref p) H))
theorem ne_of_none' {F H : Hp} {q : Addr} (s : Same F H) (n : H q = none) : F q = none := s.free n
/-- a comprehension without a test: its item comes in -/
theorem yes {σ : St} {H : Hp} {A : Hp → Prop} {B : Hp → Prop} (a : A H) : tYes σ H (fun b H3 => if b = true then A H3 else B H3) := by
  show if true = true then A H else B H
  rw [if_pos rfl]; exact a
theorem call_lenQ {X : Cx} : CallR X (.builtin "len") (rLenQ X.K) := call_len_seq
theorem call_listQ {X : Cx} : CallR X (.type "list") (rListQ X.K) := call_list_of
theorem call_tupQ {X : Cx} : CallR X (.type "tuple") (rTupQ X.K) := call_tuple_of
@[irreducible] def rDictP (K : PySem.W.Frag) : List V → Hp → VK → Prop := fun xs H Q => ∃ (a : Addr) (ps : List Addr) (kvs : List (Key × V)), xs = [.ref a] ∧ SqL K H a (ps.map V.ref) ∧ Paired (fun p kv => SqT K H p [kV kv.1, kv.2]) ps kvs ∧ ∀ p, H p = none → Q (.ref p) (upd H p (.dK (mergeK [] kvs)))
theorem call_dictQ {X : Cx} (hc : X.calm = true) : CallR X (.type "dict") (rDictP X.K) := by
  unfold rDictP
  exact call_dictP hc
@[irreducible] def rSortQ (K : PySem.W.Frag) : List V → Hp → VK → Prop := rSortedPO K
theorem call_sortQ {X : Cx} : CallR X (.builtin "sorted") (rSortQ X.K) := by
  unfold rSortQ
  exact cr_sortedPO
theorem pg_tupK {X : Cx} {K : PySem.W.Frag} {es : List Expr} {k n : Nat} {t : TGs} {pos : Pos} (e : X.K = K) (hc : X.calm = true) (h : PGs X es t) (hn : (assignEach es X.env).length = n := by rfl) (hst : (assignEach es X.env).findIdx? (·.1) = none := by rfl) : PG X (.Tuple es k pos) (gTup K n t) := by
  subst e; exact pg_tup hc h hn hst
theorem pe_fldK {X : Cx} {K : PySem.W.Frag} {e : Expr} {f : Str} {pos : Pos} {ta : TE} (ek : X.K = K) (he : PE X e ta) (hb : attributeBase e f X.env (eval e X.env) = eval e X.env) : PE X (.Attribute e f pos) (tFld K ta f) := by
  subst ek; exact pe_fld he hb
/-! ### what stands, what is new: F the frozen part (nobody changes it), H the heap; from F, H to F', H' with changes at mu alone -/
structure Gr (mu : Addr → Prop) (F H F' H' : Hp) : Prop where
  ff : Same F F'
  fh : Same F' H'
  nw : ∀ c o, F' c = some o → F c = some o ∨ H c = none
  fr : ∀ c o, H c = some o → ¬ mu c → H' c = some o
  th : ∀ c, H' c = none → H c = none
/-- nothing but new things -/
abbrev mu0 : Addr → Prop := fun _ => False
/-- the purse alone -/
abbrev muP (p : Addr) : Addr → Prop := fun c => c = p
section
variable {mu : Addr → Prop} {F H F1 H1 F2 H2 : Hp} {q : Addr} {o u : HO}
theorem Gr.refl (s : Same F H) : Gr mu F H F H := ⟨fun _ _ h => h, s, fun _ _ h => .inl h, fun _ _ h _ => h, fun _ h => h⟩
theorem Gr.trans (a : Gr mu F H F1 H1) (b : Gr mu F1 H1 F2 H2) : Gr mu F H F2 H2 where
  ff := fun c o h => b.ff c o (a.ff c o h)
  fh := b.fh
  nw := fun c o h => by
    rcases b.nw c o h with h | h
    · exact a.nw c o h
    · exact .inr (a.th c h)
  fr := fun c o h m => b.fr c o (a.fr c o h m) m
  th := fun c h => a.th c (b.th c h)
/-- a part that changes what is ours, or what mu has -/
theorem Gr.thn {mu' : Addr → Prop} (a : Gr mu F H F1 H1) (b : Gr mu' F1 H1 F2 H2) (k : ∀ c, mu' c → mu c ∨ H c = none) : Gr mu F H F2 H2 where
  ff := fun c o h => b.ff c o (a.ff c o h)
  fh := b.fh
  nw := fun c o h => by
    rcases b.nw c o h with h | h
    · exact a.nw c o h
    · exact .inr (a.th c h)
  fr := fun c o h m => b.fr c o (a.fr c o h m) fun z => (k c z).elim m fun n => by rw [n] at h; cases h
  th := fun c h => a.th c (b.th c h)
theorem Gr.weak {mu' : Addr → Prop} (a : Gr mu F H F1 H1) (m : ∀ c, mu c → mu' c) : Gr mu' F H F1 H1 :=
  ⟨a.ff, a.fh, a.nw, fun c o h n => a.fr c o h fun z => n (m c z), a.th⟩
theorem Gr.of0 (a : Gr mu0 F H F1 H1) : Gr mu F H F1 H1 := a.weak fun _ z => z.elim
/-- a new thing that nobody will change -/
theorem Gr.new (a : Gr mu F H F1 H1) (n : H1 q = none) : Gr mu F H (upd F1 q o) (upd H1 q o) where
  ff := fun c o h => by
    rw [upd_ne (ne_of_none (a.fh c o (a.ff c o h)) n)]
    exact a.ff c o h
  fh := fun c u h => by
    by_cases e : c = q
    · subst e; rw [upd_same] at h ⊢; exact h
    · rw [upd_ne e] at h ⊢; exact a.fh c u h
  nw := fun c u h => by
    by_cases e : c = q
    · subst e; exact .inr (a.th _ n)
    · rw [upd_ne e] at h; exact a.nw c u h
  fr := fun c u h m => by
    rw [upd_ne (ne_of_none (a.fr c u h m) n)]
    exact a.fr c u h m
  th := fun c h => by
    by_cases e : c = q
    · subst e; rw [upd_same] at h; cases h
    · rw [upd_ne e] at h; exact a.th c h
/-- a new thing that may be changed yet -/
theorem Gr.own (a : Gr mu F H F1 H1) (n : H1 q = none) : Gr mu F H F1 (upd H1 q o) where
  ff := a.ff
  fh := fun c u h => by
    rw [upd_ne (ne_of_none (a.fh c u h) n)]
    exact a.fh c u h
  nw := a.nw
  fr := fun c u h m => by
    rw [upd_ne (ne_of_none (a.fr c u h m) n)]
    exact a.fr c u h m
  th := fun c h => by
    by_cases e : c = q
    · subst e; rw [upd_same] at h; cases h
    · rw [upd_ne e] at h; exact a.th c h
/-- a change of what is ours, and not frozen -/
theorem Gr.set (a : Gr mu F H F1 H1) (f : F1 q = none) (m : H q = none ∨ mu q) : Gr mu F H F1 (upd H1 q o) where
  ff := a.ff
  fh := fun c u h => by
    rw [upd_ne (ne_of_none h f)]
    exact a.fh c u h
  nw := a.nw
  fr := fun c u h k => by
    have e : c ≠ q := by
      rintro rfl
      rcases m with m | m
      · rw [m] at h; cases h
      · exact k m
    rw [upd_ne e]
    exact a.fr c u h k
  th := fun c h => by
    by_cases e : c = q
    · subst e; rw [upd_same] at h; cases h
    · rw [upd_ne e] at h; exact a.th c h
/-- what was ours is changed no more -/
theorem Gr.frz (a : Gr mu F H F1 H1) (h : H1 q = some o) (n : H q = none) (f : F1 q = none) : Gr mu F H (upd F1 q o) H1 where
  ff := fun c u e => by
    rw [upd_ne (ne_of_none (a.ff c u e) f)]
    exact a.ff c u e
  fh := fun c u e => by
    by_cases k : c = q
    · subst k; rw [upd_same] at e; cases e; exact h
    · rw [upd_ne k] at e; exact a.fh c u e
  nw := fun c u e => by
    by_cases k : c = q
    · subst k; exact .inr n
    · rw [upd_ne k] at e; exact a.nw c u e
  fr := a.fr
  th := a.th
theorem Gr.free (a : Gr mu F H F1 H1) (n : H1 q = none) : F1 q = none := a.fh.free n
end
/-- an owned thing: new since H, not frozen, it is o now -/
structure Ow (H F H1 : Hp) (q : Addr) (o : HO) : Prop where
  n : H q = none
  f : F q = none
  h : H1 q = some o
section
variable {mu mu' : Addr → Prop} {H0 F H F1 H1 : Hp} {q r : Addr} {o u : HO}
theorem Ow.call (w : Ow H0 F H q o) (a : Gr mu F H F1 H1) (m : ¬ mu q) : Ow H0 F1 H1 q o :=
  ⟨w.n, (by
    cases e : F1 q with
    | none => rfl
    | some z =>
      rcases a.nw q z e with k | k
      · rw [w.f] at k; cases k
      · rw [w.h] at k; cases k), a.fr q o w.h m⟩
theorem Ow.ne (w : Ow H0 F H q o) (n : H r = none) : q ≠ r := ne_of_none w.h n
theorem Ow.new (w : Ow H0 F H q o) (n : H r = none) : Ow H0 (upd F r u) (upd H r u) q o :=
  ⟨w.n, by rw [upd_ne (w.ne n)]; exact w.f, by rw [upd_ne (w.ne n)]; exact w.h⟩
theorem Ow.own (w : Ow H0 F H q o) (n : H r = none) : Ow H0 F (upd H r u) q o :=
  ⟨w.n, w.f, by rw [upd_ne (w.ne n)]; exact w.h⟩
theorem Ow.mk1 (a : Gr mu H0' H0 F H) (n : H q = none) : Ow H0 F (upd H q o) q o := ⟨a.th q n, a.free n, upd_same⟩
theorem Ow.set (w : Ow H0 F H q o) : Ow H0 F (upd H q u) q u := ⟨w.n, w.f, upd_same⟩
theorem Ow.other (w : Ow H0 F H q o) (e : q ≠ r) : Ow H0 F (upd H r u) q o := ⟨w.n, w.f, by rw [upd_ne e]; exact w.h⟩
end
/-! ### what stands for a datum -/
def All2 {α β : Type} (r : α → β → Prop) (xs : List α) (ys : List β) : Prop := xs.length = ys.length ∧ ∀ (i : Nat) (x : α) (y : β), xs[i]? = some x → ys[i]? = some y → r x y
section
variable {α β : Type} {r s : α → β → Prop} {xs xs' : List α} {ys ys' : List β}
theorem All2.nil : All2 r [] [] := ⟨rfl, fun i x y h => by simp at h⟩
theorem All2.get (a : All2 r xs ys) {i : Nat} {y : β} (h : ys[i]? = some y) : ∃ x, xs[i]? = some x ∧ r x y := by
  have l := (List.getElem?_eq_some_iff.mp h).1
  have l' : i < xs.length := by rw [a.1]; exact l
  exact ⟨xs[i], List.getElem?_eq_getElem l', a.2 i _ y (List.getElem?_eq_getElem l') h⟩
theorem All2.get' (a : All2 r xs ys) {i : Nat} {x : α} (h : xs[i]? = some x) : ∃ y, ys[i]? = some y ∧ r x y := by
  have l := (List.getElem?_eq_some_iff.mp h).1
  have l' : i < ys.length := by rw [← a.1]; exact l
  exact ⟨ys[i], List.getElem?_eq_getElem l', a.2 i x _ h (List.getElem?_eq_getElem l')⟩
theorem All2.imp (a : All2 r xs ys) (f : ∀ x y, r x y → s x y) : All2 s xs ys := ⟨a.1, fun i x y h k => f x y (a.2 i x y h k)⟩
theorem All2.app (a : All2 r xs ys) (b : All2 r xs' ys') : All2 r (xs ++ xs') (ys ++ ys') := by
  refine ⟨by rw [List.length_append, List.length_append, a.1, b.1], fun i x y h k => ?_⟩
  by_cases l : i < xs.length
  · rw [List.getElem?_append_left l] at h
    rw [List.getElem?_append_left (by rw [← a.1]; exact l)] at k
    exact a.2 i x y h k
  · rw [List.getElem?_append_right (by omega)] at h
    rw [List.getElem?_append_right (by rw [← a.1]; omega), ← a.1] at k
    exact b.2 _ x y h k
theorem All2.one {x : α} {y : β} (h : r x y) : All2 r [x] [y] := ⟨rfl, fun i a b p q => by
  cases i with
  | zero => simp at p q; subst p; subst q; exact h
  | succ n => simp at p⟩
theorem All2.cons {x : α} {y : β} (h : r x y) (a : All2 r xs ys) : All2 r (x :: xs) (y :: ys) := (All2.one h).app a
theorem All2.set (a : All2 r xs ys) {x : α} {y : β} (h : r x y) (j : Nat) : All2 r (xs.set j x) (ys.set j y) := by
  refine ⟨by rw [List.length_set, List.length_set]; exact a.1, fun i u v p q => ?_⟩
  by_cases e : j = i
  · subst e
    rw [List.getElem?_set_self'] at p q
    cases e1 : xs[j]? with
    | none => rw [e1] at p; cases p
    | some z =>
      cases e2 : ys[j]? with
      | none => rw [e2] at q; cases q
      | some z2 =>
        rw [e1] at p; rw [e2] at q
        cases p; cases q
        exact h
  · rw [List.getElem?_set_ne e] at p q
    exact a.2 i u v p q
theorem All2.take (a : All2 r xs ys) (n : Nat) : All2 r (xs.take n) (ys.take n) := by
  refine ⟨by rw [List.length_take, List.length_take, a.1], fun i u v p q => ?_⟩
  rw [List.getElem?_take] at p q
  split at p
  · rw [if_pos (by assumption)] at q; exact a.2 i u v p q
  · cases p
theorem All2.drop (a : All2 r xs ys) (n : Nat) : All2 r (xs.drop n) (ys.drop n) := by
  refine ⟨by rw [List.length_drop, List.length_drop, a.1], fun i u v p q => ?_⟩
  rw [List.getElem?_drop] at p q
  exact a.2 _ u v p q
end
class Dat (α : Type) where
  rep : Hp → V → α → Prop
  mono : ∀ {H H' : Hp} {v : V} {d : α}, Same H H' → rep H v d → rep H' v d
  py : α → PyData
  dp : ∀ {K : PySem.W.Frag} {H : Hp} {v : V} {d : α}, rep H v d → Dp K H v (py d)
  can : ∀ d, (py d).canLay0 = true
  dep : Nat
  depth : ∀ d, (py d).depth ≤ dep
  eqv : ∀ a b, PyData.eqv (py a) (py b) = true ↔ a = b
section
variable {α β γ : Type}
/-- v stands for d in H -/
abbrev Is [Dat α] (H : Hp) (v : V) (d : α) : Prop := Dat.rep H v d
theorem Is.up [Dat α] {H H' : Hp} {v : V} {d : α} (h : Is H v d) (s : Same H H') : Is H' v d := Dat.mono s h
abbrev IsAll [Dat α] (H : Hp) (xs : List V) (ds : List α) : Prop := All2 (fun v d => Is H v d) xs ds
theorem IsAll.up [Dat α] {H H' : Hp} {xs : List V} {ds : List α} (h : IsAll H xs ds) (s : Same H H') : IsAll H' xs ds := h.imp fun _ _ z => Is.up z s
theorem dp_all [Dat α] {K : PySem.W.Frag} {H : Hp} : ∀ {xs : List V} {ds : List α}, IsAll H xs ds → DpAll K H xs (ds.map Dat.py)
  | [], [], _ => .nil
  | [], d :: ds, h => by have := h.1; simp at this
  | x :: xs, [], h => by have := h.1; simp at this
  | x :: xs, d :: ds, h => .cons (Dat.dp (h.2 0 x d rfl rfl)) (dp_all ⟨by have := h.1; simpa using this, fun i a b p q => h.2 (i + 1) a b (by simpa using p) (by simpa using q)⟩)
theorem can_all [Dat α] : ∀ ds : List α, PyData.canLayAll0 (ds.map Dat.py) = true
  | [] => rfl
  | d :: ds => by
    show (PyData.canLay0 (Dat.py d) && PyData.canLayAll0 (ds.map Dat.py)) = true
    rw [Dat.can, can_all ds]; rfl
theorem depth_all [Dat α] : ∀ ds : List α, PyData.depthAll (ds.map Dat.py) ≤ Dat.dep α
  | [] => Nat.zero_le _
  | d :: ds => by
    show max (PyData.depth (Dat.py d)) (PyData.depthAll (ds.map Dat.py)) ≤ _
    exact Nat.max_le.mpr ⟨Dat.depth d, depth_all ds⟩
theorem eqv_all [Dat α] : ∀ a b : List α, PyData.eqvAll (a.map Dat.py) (b.map Dat.py) = true ↔ a = b
  | [], [] => by simp [PyData.eqvAll]
  | [], _ :: _ => by simp [PyData.eqvAll]
  | _ :: _, [] => by simp [PyData.eqvAll]
  | x :: xs, y :: ys => by
    rw [List.map_cons, List.map_cons, PyData.eqvAll, Bool.and_eq_true, Dat.eqv, eqv_all xs ys, List.cons.injEq]
instance : Dat Int where
  rep := fun _ v i => v = .int i
  mono := fun _ h => h
  py := .int
  dp := fun h => h ▸ .int _
  can := fun _ => rfl
  dep := 0
  depth := fun _ => Nat.le_refl _
  eqv := fun a b => by simp [PyData.eqv]
instance : Dat Bool where
  rep := fun _ v i => v = .bl i
  mono := fun _ h => h
  py := .bool
  dp := fun h => h ▸ .bl _
  can := fun _ => rfl
  dep := 0
  depth := fun _ => Nat.le_refl _
  eqv := fun a b => by simp [PyData.eqv]
/-- a list of data -/
instance [Dat α] : Dat (List α) where
  rep := fun H v l => ∃ a xs, v = .ref a ∧ H a = some (.lst xs) ∧ IsAll H xs l
  mono := fun s h => by
    obtain ⟨a, xs, e, h, i⟩ := h
    exact ⟨a, xs, e, s _ _ h, IsAll.up i s⟩
  py := fun l => .list (l.map Dat.py)
  dp := fun h => by
    obtain ⟨a, xs, rfl, h, i⟩ := h
    exact .lst (SqL.of h) (dp_all i)
  can := fun d => can_all d
  dep := Dat.dep α + 1
  depth := fun d => Nat.succ_le_succ (depth_all d)
  eqv := fun a b => by rw [PyData.eqv]; exact eqv_all a b
/-- a tuple of data of one kind -/
structure Tup (α : Type) where
  l : List α
  deriving DecidableEq
instance [Dat α] : Dat (Tup α) where
  rep := fun H v l => ∃ a xs, v = .ref a ∧ H a = some (.tup xs) ∧ IsAll H xs l.l
  mono := fun s h => by
    obtain ⟨a, xs, e, h, i⟩ := h
    exact ⟨a, xs, e, s _ _ h, IsAll.up i s⟩
  py := fun l => .tuple (l.l.map Dat.py)
  dp := fun h => by
    obtain ⟨a, xs, rfl, h, i⟩ := h
    exact .tup (SqT.of h) (dp_all i)
  can := fun d => can_all d.l
  dep := Dat.dep α + 1
  depth := fun d => Nat.succ_le_succ (depth_all d.l)
  eqv := fun a b => by
    rw [PyData.eqv, eqv_all]
    obtain ⟨a⟩ := a; obtain ⟨b⟩ := b
    simp
/-- a pair; a triple -/
structure T2 (α β : Type) where
  a : α
  b : β
  deriving DecidableEq
structure T3 (α β γ : Type) where
  a : α
  b : β
  c : γ
  deriving DecidableEq
instance [Dat α] [Dat β] : Dat (T2 α β) where
  rep := fun H v d => ∃ p x y, v = .ref p ∧ H p = some (.tup [x, y]) ∧ Is H x d.a ∧ Is H y d.b
  mono := fun s h => by
    obtain ⟨p, x, y, e, h, i, j⟩ := h
    exact ⟨p, x, y, e, s _ _ h, Is.up i s, Is.up j s⟩
  py := fun d => .tuple [Dat.py d.a, Dat.py d.b]
  dp := fun h => by
    obtain ⟨p, x, y, rfl, h, i, j⟩ := h
    exact .tup (SqT.of h) (.cons (Dat.dp i) (.cons (Dat.dp j) .nil))
  can := fun d => by
    show (PyData.canLay0 (Dat.py d.a) && (PyData.canLay0 (Dat.py d.b) && true)) = true
    rw [Dat.can, Dat.can]; rfl
  dep := max (Dat.dep α) (Dat.dep β) + 1
  depth := fun d => by
    have h1 := Dat.depth d.a
    have h2 := Dat.depth d.b
    show max (PyData.depth (Dat.py d.a)) (max (PyData.depth (Dat.py d.b)) 0) + 1 ≤ _
    omega
  eqv := fun a b => by
    obtain ⟨a, a'⟩ := a; obtain ⟨b, b'⟩ := b
    simp [PyData.eqv, PyData.eqvAll, Dat.eqv]
instance [Dat α] [Dat β] [Dat γ] : Dat (T3 α β γ) where
  rep := fun H v d => ∃ p x y z, v = .ref p ∧ H p = some (.tup [x, y, z]) ∧ Is H x d.a ∧ Is H y d.b ∧ Is H z d.c
  mono := fun s h => by
    obtain ⟨p, x, y, z, e, h, i, j, k⟩ := h
    exact ⟨p, x, y, z, e, s _ _ h, Is.up i s, Is.up j s, Is.up k s⟩
  py := fun d => .tuple [Dat.py d.a, Dat.py d.b, Dat.py d.c]
  dp := fun h => by
    obtain ⟨p, x, y, z, rfl, h, i, j, k⟩ := h
    exact .tup (SqT.of h) (.cons (Dat.dp i) (.cons (Dat.dp j) (.cons (Dat.dp k) .nil)))
  can := fun d => by
    show (PyData.canLay0 (Dat.py d.a) && (PyData.canLay0 (Dat.py d.b) && (PyData.canLay0 (Dat.py d.c) && true))) = true
    rw [Dat.can, Dat.can, Dat.can]; rfl
  dep := max (Dat.dep α) (max (Dat.dep β) (Dat.dep γ)) + 1
  depth := fun d => by
    have h1 := Dat.depth d.a
    have h2 := Dat.depth d.b
    have h3 := Dat.depth d.c
    show max (PyData.depth (Dat.py d.a)) (max (PyData.depth (Dat.py d.b)) (max (PyData.depth (Dat.py d.c)) 0)) + 1 ≤ _
    omega
  eqv := fun a b => by
    obtain ⟨a, a', a''⟩ := a; obtain ⟨b, b', b''⟩ := b
    simp [PyData.eqv, PyData.eqvAll, Dat.eqv]
/-- None, or a datum that is a tuple or a list -/
class Big (α : Type) [Dat α] : Prop where
  big : ∀ d : α, (∃ l, Dat.py d = .tuple l) ∨ ∃ l, Dat.py d = .list l
instance [Dat α] : Big (List α) := ⟨fun d => .inr ⟨_, rfl⟩⟩
instance [Dat α] : Big (Tup α) := ⟨fun d => .inl ⟨_, rfl⟩⟩
instance [Dat α] [Dat β] : Big (T2 α β) := ⟨fun d => .inl ⟨_, rfl⟩⟩
instance [Dat α] [Dat β] [Dat γ] : Big (T3 α β γ) := ⟨fun d => .inl ⟨_, rfl⟩⟩
instance [Dat α] [Big α] : Dat (Option α) where
  rep := fun H v d => match d with
    | none => v = .non
    | some d => Is H v d
  mono := fun {H H' v d} s h => by
    cases d with
    | none => exact h
    | some d => exact Is.up (show Is H v d from h) s
  py := fun d => match d with
    | none => .none
    | some d => Dat.py d
  dp := fun {K H v d} h => by
    cases d with
    | none => cases h; exact .non
    | some d => exact Dat.dp (show Is H v d from h)
  can := fun d => by
    cases d with
    | none => rfl
    | some d => exact Dat.can d
  dep := Dat.dep α
  depth := fun d => by
    cases d with
    | none => exact Nat.zero_le _
    | some d => exact Dat.depth d
  eqv := fun a b => by
    cases a with
    | none =>
      cases b with
      | none => exact ⟨fun _ => rfl, fun _ => rfl⟩
      | some b =>
        refine ⟨fun h => ?_, fun h => nomatch h⟩
        have h : PyData.eqv .none (Dat.py b) = true := h
        rcases Big.big b with ⟨l, e⟩ | ⟨l, e⟩ <;> (rw [e] at h; simp only [PyData.eqv] at h; cases h)
    | some a =>
      cases b with
      | none =>
        refine ⟨fun h => ?_, fun h => nomatch h⟩
        have h : PyData.eqv (Dat.py a) .none = true := h
        rcases Big.big a with ⟨l, e⟩ | ⟨l, e⟩ <;> (rw [e] at h; simp only [PyData.eqv] at h; cases h)
      | some b =>
        show PyData.eqv (Dat.py a) (Dat.py b) = true ↔ _
        rw [Dat.eqv, Option.some.injEq]
end
/-- == and != of data -/
theorem eq_dat0 {α : Type} [Dat α] [DecidableEq α] {a b : α} (hd : Dat.dep α ≤ 64) : SeqAt.shaped (Dat.py a) = true ∧ SeqAt.shaped (Dat.py b) = true ∧ PyData.eqv (Dat.py a) (Dat.py b) = decide (a = b) := by
  refine ⟨?_, ?_, ?_⟩
  · show (PyData.canLay0 _ && decide _) = true
    rw [Dat.can, decide_eq_true (Nat.le_trans (Dat.depth a) hd)]; rfl
  · show (PyData.canLay0 _ && decide _) = true
    rw [Dat.can, decide_eq_true (Nat.le_trans (Dat.depth b) hd)]; rfl
  · rw [Bool.eq_iff_iff, Dat.eqv, decide_eq_true_iff]
theorem eq_dat {α : Type} [Dat α] [DecidableEq α] {K : PySem.W.Frag} {H : Hp} {x y : V} {a b : α} {Q : VK} (ha : Is H x a) (hb : Is H y b) (q : Q (.bl (decide (a = b))) H) (hd : Dat.dep α ≤ 64 := by decide) : rEqD K x y H Q := by
  obtain ⟨h1, h2, h3⟩ := eq_dat0 (a := a) (b := b) hd
  exact ⟨Dat.py a, Dat.py b, Dat.dp ha, Dat.dp hb, h1, h2, by rw [h3]; exact q⟩
theorem ne_dat {α : Type} [Dat α] [DecidableEq α] {K : PySem.W.Frag} {H : Hp} {x y : V} {a b : α} {Q : VK} (ha : Is H x a) (hb : Is H y b) (q : Q (.bl (!decide (a = b))) H) (hd : Dat.dep α ≤ 64 := by decide) : rNeD K x y H Q := by
  obtain ⟨h1, h2, h3⟩ := eq_dat0 (a := a) (b := b) hd
  exact ⟨Dat.py a, Dat.py b, Dat.dp ha, Dat.dp hb, h1, h2, by rw [h3]; exact q⟩
/-! ### machines -/
/-- an entry -/
inductive Ent where
  | emp
  | go (put way row : Int)
  deriving DecidableEq
def entO : Ent → HO
  | .emp => .tup []
  | .go p w r => .tup [.int p, .int w, .int r]
def entP : Ent → PyData
  | .emp => .tuple []
  | .go p w r => .tuple [.int p, .int w, .int r]
instance : Dat Ent where
  rep := fun H v e => ∃ a, v = .ref a ∧ H a = some (entO e)
  mono := fun s h => by obtain ⟨a, e, h⟩ := h; exact ⟨a, e, s _ _ h⟩
  py := entP
  dp := fun {K H v d} h => by
    obtain ⟨a, rfl, h⟩ := h
    cases d with
    | emp => exact .tup (SqT.of h) .nil
    | go p w r => exact .tup (SqT.of h) (.cons (.int _) (.cons (.int _) (.cons (.int _) .nil)))
  can := fun d => by cases d <;> rfl
  dep := 1
  depth := fun d => by cases d <;> simp [entP, PyData.depth, PyData.depthAll]
  eqv := fun a b => by cases a <;> cases b <;> simp [entP, PyData.eqv, PyData.eqvAll]
instance : Big Ent := ⟨fun d => by cases d <;> exact .inl ⟨_, rfl⟩⟩
abbrev Mach := List (List Ent)
/-! ### pairs of ints: a dict's items, sorted ones -/
abbrev PI := T2 Int Int
def dI (l : List PI) : List (Key × V) := l.map fun p => (Sum.inl p.a, V.int p.b)
def look (l : List PI) (x : Int) : Option Int := (l.find? fun p => decide (p.a = x)).map (·.b)
def put (l : List PI) (x v : Int) : List PI := if (l.any fun p => decide (p.a = x)) = true then l.map (fun p => if p.a = x then ⟨p.a, v⟩ else p) else l ++ [⟨x, v⟩]
def merge (l m : List PI) : List PI := m.foldl (fun acc p => put acc p.a p.b) l
theorem key_inl (a b : Int) : ((Sum.inl a : Key) = Sum.inl b) = (a = b) := propext ⟨Sum.inl.inj, fun h => by rw [h]⟩
theorem dI_val (x : Int) : ∀ l : List PI, valV (dI l) (Sum.inl x) = (look l x).map V.int
  | [] => rfl
  | p :: l => by
    have ih := dI_val x l
    show valV ((Sum.inl p.a, V.int p.b) :: dI l) (Sum.inl x) = _
    by_cases e : p.a = x
    · rw [valV_pos (by rw [key_inl]; exact e)]
      simp [look, e]
    · rw [valV_neg (by rw [key_inl]; exact e), ih]
      simp [look, e]
theorem dI_put (l : List PI) (x v : Int) : putK (dI l) (Sum.inl x) (.int v) = dI (put l x v) := by
  have e : ((dI l).any fun kv => decide (kv.1 = Sum.inl x)) = (l.any fun p => decide (p.a = x)) := by
    unfold dI
    rw [List.any_map]
    congr 1
    funext p
    simp only [Function.comp, key_inl]
  unfold putK put
  rw [e]
  by_cases a : (l.any fun p => decide (p.a = x)) = true
  · rw [if_pos a, if_pos a]
    unfold dI
    rw [List.map_map, List.map_map]
    congr 1
    funext p
    simp only [Function.comp, key_inl]
    by_cases h : p.a = x
    · rw [if_pos h, if_pos h]
    · rw [if_neg h, if_neg h]
  · rw [if_neg a, if_neg a]
    unfold dI
    rw [List.map_append]
    rfl
theorem dI_merge (m : List PI) : ∀ l : List PI, mergeK (dI l) (dI m) = dI (merge l m) := by
  induction m with
  | nil => intro l; rfl
  | cons p m ih =>
    intro l
    show mergeK (putK (dI l) (Sum.inl p.a) (.int p.b)) (dI m) = dI (merge (put l p.a p.b) m)
    rw [dI_put]
    exact ih _
theorem look_nil (x : Int) : look [] x = none := rfl
theorem look_cons (p : PI) (l : List PI) (x : Int) : look (p :: l) x = if p.a = x then some p.b else look l x := by
  unfold look
  rw [List.find?_cons]
  by_cases e : p.a = x
  · simp [e]
  · simp [e]
theorem look_any (x : Int) : ∀ l : List PI, (l.any fun p => decide (p.a = x)) = (look l x).isSome
  | [] => rfl
  | p :: l => by
    rw [List.any_cons, look_any x l, look_cons]
    by_cases e : p.a = x
    · simp [e]
    · simp [e]
theorem look_map (x y v : Int) : ∀ l : List PI, look (l.map fun p => if p.a = x then ⟨p.a, v⟩ else p) y = (look l y).map fun z => if y = x then v else z
  | [] => rfl
  | p :: l => by
    rw [List.map_cons, look_cons, look_cons, look_map x y v l]
    by_cases e : p.a = x
    · rw [if_pos e]
      by_cases f : p.a = y
      · rw [if_pos f, if_pos f]
        rw [← f, Option.map_some, if_pos e]
      · rw [if_neg f, if_neg f]
    · rw [if_neg e]
      by_cases f : p.a = y
      · rw [if_pos f, if_pos f, Option.map_some, if_neg (by rw [← f]; exact e)]
      · rw [if_neg f, if_neg f]
theorem look_app (l m : List PI) (x : Int) : look (l ++ m) x = (look l x).or (look m x) := by
  induction l with
  | nil => rfl
  | cons p l ih =>
    rw [List.cons_append, look_cons, look_cons, ih]
    by_cases e : p.a = x
    · rw [if_pos e, if_pos e]; rfl
    · rw [if_neg e, if_neg e]
theorem look_put (l : List PI) (x v y : Int) : look (put l x v) y = if y = x then some v else look l y := by
  unfold put
  by_cases a : (l.any fun p => decide (p.a = x)) = true
  · rw [if_pos a, look_map]
    by_cases e : y = x
    · rw [if_pos e, e]
      rw [look_any] at a
      obtain ⟨z, hz⟩ := Option.isSome_iff_exists.mp a
      rw [hz, Option.map_some, if_pos rfl]
    · rw [if_neg e]
      cases look l y with
      | none => rfl
      | some z => rw [Option.map_some, if_neg e]
  · rw [if_neg a, look_app]
    rw [look_any] at a
    by_cases e : y = x
    · rw [if_pos e, e]
      cases h : look l x with
      | none => rw [look_cons, if_pos rfl]; rfl
      | some z => rw [h] at a; exact absurd rfl a
    · rw [if_neg e, look_cons, if_neg (fun z => e z.symm), look_nil]
      cases look l y <;> rfl
/-- no place twice -/
def Nd (l : List PI) : Prop := (l.map (·.a)).Nodup
theorem look_none {l : List PI} {x : Int} : look l x = none ↔ x ∉ l.map (·.a) := by
  induction l with
  | nil => simp [look_nil]
  | cons p l ih =>
    rw [look_cons, List.map_cons, List.mem_cons]
    by_cases e : p.a = x
    · rw [if_pos e]; simp [e]
    · rw [if_neg e, ih]
      constructor
      · intro h z
        rcases z with z | z
        · exact e z.symm
        · exact h z
      · intro h z
        exact h (.inr z)
theorem look_mem {l : List PI} (h : Nd l) {p : PI} (m : p ∈ l) : look l p.a = some p.b := by
  induction l with
  | nil => cases m
  | cons q l ih =>
    have h' := List.nodup_cons.mp h
    rw [look_cons]
    rcases List.mem_cons.mp m with rfl | m
    · rw [if_pos rfl]
    · rw [if_neg (fun e => h'.1 (by show q.a ∈ _; rw [e]; exact List.mem_map.mpr ⟨p, m, rfl⟩))]
      exact ih h'.2 m
theorem mem_look {l : List PI} {x v : Int} (h : look l x = some v) : (⟨x, v⟩ : PI) ∈ l := by
  induction l with
  | nil => cases h
  | cons q l ih =>
    rw [look_cons] at h
    by_cases e : q.a = x
    · rw [if_pos e] at h
      cases h
      subst e
      exact List.mem_cons_self
    · rw [if_neg e] at h
      exact List.mem_cons_of_mem _ (ih h)
theorem nd_put {l : List PI} (h : Nd l) (x v : Int) : Nd (put l x v) := by
  unfold put
  by_cases a : (l.any fun p => decide (p.a = x)) = true
  · rw [if_pos a]
    unfold Nd
    rw [List.map_map]
    have e : ((fun p : PI => p.a) ∘ fun p : PI => if p.a = x then (⟨p.a, v⟩ : PI) else p) = fun p : PI => p.a := by
      funext p
      simp only [Function.comp]
      split <;> rfl
    rw [e]; exact h
  · rw [if_neg a]
    unfold Nd
    rw [List.map_append]
    refine nd_snoc h ?_
    rw [look_any] at a
    refine look_none.mp ?_
    cases q : look l x with
    | none => rfl
    | some z => rw [q] at a; exact absurd rfl a
theorem put_new {l : List PI} {x : Int} (v : Int) (h : look l x = none) : put l x v = l ++ [⟨x, v⟩] := by
  unfold put
  rw [look_any, h]
  rfl
theorem merge_nd {m : List PI} : ∀ {l : List PI}, Nd (l ++ m) → merge l m = l ++ m := by
  induction m with
  | nil => intro l _; simp [merge]
  | cons p m ih =>
    intro l h
    have e : l ++ p :: m = (l ++ [p]) ++ m := by simp
    have hn : look l p.a = none := by
      refine look_none.mpr fun z => ?_
      unfold Nd at h
      rw [List.map_append] at h
      exact (List.nodup_append.mp h).2.2 _ z _ (by rw [List.map_cons]; exact List.mem_cons_self) rfl
    show merge (put l p.a p.b) m = _
    rw [put_new _ hn, e]
    exact ih (by rw [← e]; exact h)
theorem nd_nil : Nd [] := List.nodup_nil
theorem put_len (l : List PI) (x v : Int) : (put l x v).length ≤ l.length + 1 := by
  unfold put
  split
  · rw [List.length_map]; omega
  · rw [List.length_append]; exact Nat.le_refl _
/-- Python's order of pairs -/
def leP (p q : PI) : Bool := decide (p.a < q.a) || (decide (p.a = q.a) && decide (p.b ≤ q.b))
theorem leP_iff {p q : PI} : leP p q = true ↔ p.a < q.a ∨ (p.a = q.a ∧ p.b ≤ q.b) := by simp [leP]
def ins (p : PI) : List PI → List PI
  | [] => [p]
  | q :: l => if leP p q = true then p :: q :: l else q :: ins p l
def srt (l : List PI) : List PI := l.foldr ins []
theorem ins_perm (p : PI) : ∀ l : List PI, (ins p l).Perm (p :: l)
  | [] => List.Perm.refl _
  | q :: l => by
    unfold ins
    split
    · exact List.Perm.refl _
    · exact (List.Perm.cons q (ins_perm p l)).trans (List.Perm.swap p q l)
theorem srt_perm : ∀ l : List PI, (srt l).Perm l
  | [] => List.Perm.refl _
  | p :: l => (ins_perm p (srt l)).trans ((srt_perm l).cons p)
abbrev LeP (p q : PI) : Prop := leP p q = true
theorem leP_trans {p q r : PI} (h1 : LeP p q) (h2 : LeP q r) : LeP p r := by
  have a := leP_iff.mp h1
  have b := leP_iff.mp h2
  exact leP_iff.mpr (by omega)
theorem leP_total (p q : PI) : LeP p q ∨ LeP q p := by
  show leP p q = true ∨ leP q p = true
  rw [leP_iff, leP_iff]
  omega
theorem ins_srt (p : PI) : ∀ {l : List PI}, l.Pairwise LeP → (ins p l).Pairwise LeP
  | [], _ => List.pairwise_singleton _ _
  | q :: l, h => by
    have h' := List.pairwise_cons.mp h
    unfold ins
    split
    · rename_i e
      refine List.pairwise_cons.mpr ⟨fun x m => ?_, h⟩
      rcases List.mem_cons.mp m with rfl | m
      · exact e
      · exact leP_trans e (h'.1 x m)
    · rename_i e
      refine List.pairwise_cons.mpr ⟨fun x m => ?_, ins_srt p h'.2⟩
      rcases List.mem_cons.mp ((ins_perm p l).mem_iff.mp m) with rfl | m
      · rcases leP_total q x with z | z
        · exact z
        · exact absurd z e
      · exact h'.1 x m
theorem srt_srt : ∀ l : List PI, (srt l).Pairwise LeP
  | [] => List.Pairwise.nil
  | p :: l => ins_srt p (srt_srt l)
theorem leP_anti {p q : PI} (h1 : LeP p q) (h2 : LeP q p) : p = q := by
  have a := leP_iff.mp h1
  have b := leP_iff.mp h2
  obtain ⟨x, y⟩ := p
  obtain ⟨x', y'⟩ := q
  have e1 : x = x' := by show x = x'; simp only at a b; omega
  have e2 : y = y' := by simp only at a b; omega
  rw [e1, e2]
/-- there is one sorted list of them -/
theorem srt_uniq : ∀ {l m : List PI}, l.Pairwise LeP → m.Pairwise LeP → l.Perm m → l = m
  | [], m, _, _, h => (List.Perm.eq_nil h.symm).symm
  | x :: l, [], _, _, h => absurd h.length_eq (by simp)
  | x :: l, y :: m, hl, hm, h => by
    have l' := List.pairwise_cons.mp hl
    have m' := List.pairwise_cons.mp hm
    have h1 : LeP y x := by
      rcases List.mem_cons.mp (h.mem_iff.mp (List.mem_cons_self (a := x) (l := l))) with e | z
      · rw [e]; rcases leP_total y y with z | z <;> exact z
      · exact m'.1 x z
    have h2 : LeP x y := by
      rcases List.mem_cons.mp (h.mem_iff.mpr (List.mem_cons_self (a := y) (l := m))) with e | z
      · rw [e]; rcases leP_total x x with z | z <;> exact z
      · exact l'.1 y z
    have e := leP_anti h2 h1
    subst e
    rw [srt_uniq l'.2 m'.2 h.cons_inv]
theorem srt_of {l m : List PI} (h : m.Pairwise LeP) (p : m.Perm l) : m = srt l := srt_uniq h (srt_srt l) (p.trans (srt_perm l).symm)
/-- what a value says as a pair, read off the heap -/
def pOf (H : Hp) : V → Int × Int
  | .ref t => match H t with
    | some (.tup [.int i, .int j]) => (i, j)
    | _ => (0, 0)
  | _ => (0, 0)
theorem pOf_is {H : Hp} {v : V} {d : PI} (h : Is H v d) : ∃ t, v = .ref t ∧ H t = some (.tup [.int (pOf H v).1, .int (pOf H v).2]) ∧ d = ⟨(pOf H v).1, (pOf H v).2⟩ := by
  obtain ⟨t, x, y, rfl, h1, h2, h3⟩ := h
  have h2 : x = .int d.a := h2
  have h3 : y = .int d.b := h3
  subst h2
  subst h3
  have e : pOf H (.ref t) = (d.a, d.b) := by simp only [pOf, h1]
  exact ⟨t, rfl, by rw [e]; exact h1, by rw [e]⟩
theorem all_of {H : Hp} : ∀ {xs : List V} {l : List PI}, IsAll H xs l → l = xs.map fun v => (⟨(pOf H v).1, (pOf H v).2⟩ : PI) := fun {xs l} h => by
  refine List.ext_getElem? fun i => ?_
  rw [List.getElem?_map]
  cases e : xs[i]? with
  | none =>
    have := List.getElem?_eq_none_iff.mp e
    exact List.getElem?_eq_none_iff.mpr (by rw [← h.1]; exact this)
  | some x =>
    obtain ⟨d, hd, hx⟩ := h.get' e
    obtain ⟨t, _, _, q⟩ := pOf_is hx
    rw [hd, q]
    rfl
/-- sorted of a list of pairs -/
theorem sort_pairs {K : PySem.W.Frag} {F H : Hp} {a : Addr} {xs : List V} {l : List PI} {Q : VK} (sF : Same F H) (hx : IsAll F xs l) (ha : SqL K H a xs) (q : ∀ ys p, H p = none → IsAll F ys (srt l) → Q (.ref p) (upd H p (.lst ys))) : rSortQ K [.ref a] H Q := by
  unfold rSortQ
  refine ⟨a, xs, pOf F, rfl, ha, fun x m => ?_, fun ys p hs hb np => q ys p np ?_⟩
  · obtain ⟨i, hi⟩ := List.getElem?_of_mem m
    obtain ⟨d, _, hd⟩ := hx.get' hi
    obtain ⟨t, e, h, _⟩ := pOf_is hd
    exact ⟨t, e, sF _ _ h⟩
  · have el := all_of hx
    have hys : IsAll F ys (ys.map fun v => (⟨(pOf F v).1, (pOf F v).2⟩ : PI)) := by
      refine ⟨by rw [List.length_map], fun i x y h1 h2 => ?_⟩
      rw [List.getElem?_map, h1] at h2
      cases h2
      have m : x ∈ xs := hb.perm.mem_iff.mp (List.mem_of_getElem? h1)
      obtain ⟨j, hj⟩ := List.getElem?_of_mem m
      obtain ⟨d, _, hd⟩ := hx.get' hj
      obtain ⟨t, e, h, e2⟩ := pOf_is hd
      exact ⟨t, _, _, e, h, rfl, rfl⟩
    have es : (ys.map fun v => (⟨(pOf F v).1, (pOf F v).2⟩ : PI)) = srt l := by
      refine srt_of ?_ ?_
      · refine List.pairwise_map.mpr (List.Pairwise.imp (fun {x y} h => ?_) hs)
        have h := SrtO.lexB_no.mp h
        exact leP_iff.mpr (by simp only; omega)
      · rw [el]
        exact hb.perm.map _
    rw [es] at hys
    exact hys
theorem pairs_of {K : PySem.W.Frag} {H : Hp} : ∀ {xs : List V} {l : List PI}, IsAll H xs l → ∃ ps : List Addr, xs = ps.map V.ref ∧ Paired (fun p kv => SqT K H p [kV kv.1, kv.2]) ps (dI l)
  | [], [], _ => ⟨[], rfl, .nil⟩
  | [], d :: l, h => by have := h.1; simp at this
  | x :: xs, [], h => by have := h.1; simp at this
  | x :: xs, d :: l, h => by
    obtain ⟨t, x1, x2, e, h1, h2, h3⟩ := h.2 0 x d rfl rfl
    have h2 : x1 = .int d.a := h2
    have h3 : x2 = .int d.b := h3
    subst h2
    subst h3
    obtain ⟨ps, e2, p⟩ := pairs_of (K := K) (xs := xs) (l := l) ⟨by have := h.1; simpa using this, fun i a b p q => h.2 (i + 1) a b (by simpa using p) (by simpa using q)⟩
    exact ⟨t :: ps, by rw [e, e2]; rfl, .cons (SqT.of h1) p⟩
/-- dict(pairs) -/
theorem dict_pairs {K : PySem.W.Frag} {H : Hp} {a : Addr} {xs : List V} {l : List PI} {Q : VK} (hx : IsAll H xs l) (ha : SqL K H a xs) (q : ∀ p, H p = none → Q (.ref p) (upd H p (.dK (dI (merge [] l))))) : rDictP K [.ref a] H Q := by
  unfold rDictP
  obtain ⟨ps, e, p⟩ := pairs_of (K := K) hx
  refine ⟨a, ps, dI l, rfl, by rw [← e]; exact ha, p, fun d nd => ?_⟩
  have e2 : mergeK [] (dI l) = dI (merge [] l) := dI_merge l []
  rw [e2]
  exact q d nd
/-! ### a dict under its lock -/
theorem lock_in {F H : Hp} {d : Addr} {o : HO} (s : Same F H) : Same (fun c => if c = d then none else F c) (upd H d o) := fun c u h => by
  by_cases e : c = d
  · simp only [e, if_true] at h; cases h
  · simp only [e, if_false] at h
    rw [upd_ne e]; exact s c u h
theorem lock_out {F H F2 H2 : Hp} {d : Addr} {o u : HO} (s : Same F H) (h : H d = some u) (g : Gr mu0 (fun c => if c = d then none else F c) (upd H d o) F2 H2) :
    H2 d = some o ∧ Same F2 (fun c => if c = d then F d else F2 c) ∧ Gr mu0 F H (fun c => if c = d then F d else F2 c) (upd H2 d u) := by
  have n2 : F2 d = none := by
    cases e : F2 d with
    | none => rfl
    | some z =>
      rcases g.nw d z e with k | k
      · simp only [if_true] at k; cases k
      · rw [upd_same] at k; cases k
  refine ⟨g.fr d o upd_same (fun z => z), fun c z e => ?_, ⟨fun c z e => ?_, fun c z e => ?_, fun c z e => ?_, fun c z e m => ?_, fun c e => ?_⟩⟩
  · by_cases k : c = d
    · rw [k, n2] at e; cases e
    · simp only [k, if_false]; exact e
  · by_cases k : c = d
    · simp only [k, if_true]; rw [← k]; exact e
    · simp only [k, if_false]
      exact g.ff c z (by simp only [k, if_false]; exact e)
  · by_cases k : c = d
    · simp only [k, if_true] at e
      rw [k, upd_same, ← h]
      exact s d z e
    · simp only [k, if_false] at e
      rw [upd_ne k]; exact g.fh c z e
  · by_cases k : c = d
    · simp only [k, if_true] at e
      exact .inl (by rw [k]; exact e)
    · simp only [k, if_false] at e
      rcases g.nw c z e with q | q
      · simp only [k, if_false] at q; exact .inl q
      · rw [upd_ne k] at q; exact .inr q
  · by_cases k : c = d
    · rw [k, upd_same]; rw [k, h] at e; exact e
    · rw [upd_ne k]
      exact g.fr c z (by rw [upd_ne k]; exact e) (fun z => z)
  · by_cases k : c = d
    · rw [k, upd_same] at e; cases e
    · rw [upd_ne k] at e
      have q := g.th c e
      rw [upd_ne k] at q; exact q
/-- the signs that aren't 0, in order -/
def nz (p : PI) : Bool := decide (p.b ≠ 0)
def told (l : List PI) : List PI := srt (l.filter nz)
theorem dI_get {l : List PI} {i : Nat} (h : i < l.length) : (dI l)[i]? = some (Sum.inl l[i].a, V.int l[i].b) := by
  unfold dI
  rw [List.getElem?_map, List.getElem?_eq_getElem h]
  rfl
theorem filter_take_succ {l : List PI} {f : PI → Bool} {i : Nat} (h : i < l.length) : (l.take (i + 1)).filter f = (l.take i).filter f ++ (if f l[i] = true then [l[i]] else []) := by
  rw [List.take_add_one, List.getElem?_eq_getElem h, List.filter_append]
  show _ ++ List.filter f [l[i]] = _
  rw [List.filter_cons]
  split <;> rfl
theorem nd_srt {l : List PI} (h : Nd l) : Nd (srt l) := ((srt_perm l).map (fun p : PI => p.a)).nodup_iff.mpr h
theorem mem_srt {l : List PI} {q : PI} : q ∈ srt l ↔ q ∈ l := (srt_perm l).mem_iff
theorem mem_put {l : List PI} {x v : Int} {q : PI} (m : q ∈ put l x v) : q ∈ l ∨ q = ⟨x, v⟩ := by
  unfold put at m
  split at m
  · obtain ⟨z, hz, e⟩ := List.mem_map.mp m
    split at e
    · rename_i h1 h2
      exact .inr (by rw [← e, h2])
    · exact .inl (by rw [← e]; exact hz)
  · rcases List.mem_append.mp m with m | m
    · exact .inl m
    · exact .inr (List.mem_singleton.mp m)
/-! ### sorted(d.items()), d a dict of ints to ints -/
section
open PySem.Spec PyProof.Rows
variable {X : Cx}
/-- many new things are tracked at once -/
theorem inv_many {pins : List (Addr × Obj)} {σ : L2.St} {H H' : Hp} {s : Shared} {h' : Heap} {tk : Nat} {as : List Addr} (I : Inv X pins σ H s) (k : ∀ b o, s.heap.get? b = some o → h'.get? b = some o) (hp : ∀ a ∈ as, s.heap.objs.size ≤ a)
    (p1 : ∀ b, b ∉ as → H' b = H b) (p2 : ∀ b ∈ as, ∀ o, H' b = some o → ObjOk X.prog X.w H' h' b o) : Inv X pins σ H' { s with heap := h', toks := tk } := by
  have old : ∀ b o, s.heap.get? b = some o → b ∉ as := fun b o e z => Nat.lt_irrefl _ (Nat.lt_of_lt_of_le (Heap.lt_size e) (hp b z))
  have trc : ∀ b o, H b = some o → b ∉ as := fun b o e z => by
    have := I.hok.lt e
    exact Nat.lt_irrefl _ (Nat.lt_of_lt_of_le this (hp b z))
  have kp : ∀ b o, H b = some o → H' b = some o := fun b o e => by rw [p1 b (trc b o e)]; exact e
  refine I.un ⟨fun b o q _ _ _ => k b o q, fun b o q _ _ _ => ⟨o.slots, k b o q⟩, fun b o q n _ => by rw [p1 b (old b o q)]; exact n, fun b o q _ => ⟨o, k b o q⟩, fun b xs e => kp b _ e, fun b o u e => kp b _ e, fun b ps e => ⟨#[], by rw [kp b _ e]; simp⟩⟩ fun b o e => ?_
  by_cases m : b ∈ as
  · exact p2 b m o e
  · rw [p1 b m] at e
    exact (I.hok b o e).stay (fun c u _ q => k c u q) (fun c q => kp c _ q) fun c xs q => kp c _ q
/-- the pair that stands at a -/
def pzAt (zs : List (Addr × PI)) (a : Addr) : Option PI := (zs.find? fun z => decide (z.1 = a)).map (·.2)
theorem pzAt_ix : ∀ {zs : List (Addr × PI)}, (zs.map (·.1)).Nodup → ∀ {j : Nat} {z : Addr × PI}, zs[j]? = some z → pzAt zs z.1 = some z.2
  | [], _, j, z, h => by cases h
  | y :: ys, nd, 0, z, h => by
    have e := Option.some.inj h
    subst e
    simp [pzAt]
  | y :: ys, nd, j + 1, z, h => by
    have nd' := List.nodup_cons.mp nd
    have m : z.1 ∈ ys.map (·.1) := List.mem_map.mpr ⟨z, List.mem_of_getElem? (show ys[j]? = some z from h), rfl⟩
    have ih := pzAt_ix nd'.2 (show ys[j]? = some z from h)
    have ne : ¬ y.1 = z.1 := fun e => nd'.1 (by show y.1 ∈ _; rw [e]; exact m)
    unfold pzAt at ih ⊢
    rw [List.find?_cons, decide_eq_false ne]
    exact ih
theorem pzAt_no {zs : List (Addr × PI)} {a : Addr} (h : a ∉ zs.map (·.1)) : pzAt zs a = none := by
  unfold pzAt
  rw [List.find?_eq_none.mpr fun z m e => h (List.mem_map.mpr ⟨z, m, of_decide_eq_true e⟩)]
  rfl
def trk (H : Hp) (B : Addr) (L : HO) (zs : List (Addr × PI)) : Hp := fun b => if b = B then some L else match pzAt zs b with
  | some q => some (.tup [.int q.a, .int q.b])
  | none => H b
def adOf : Value → Addr
  | .ref a => a
  | _ => 0
@[irreducible] def rSortIt : V → Hp → VK → Prop := fun x H Q => ∃ (d : Addr) (l : List PI), x = .ref d ∧ H d = some (.dK (dI l)) ∧
  ∀ (H' : Hp) (p : Addr) (ys : List Addr), Same H H' → H p = none → (∀ t ∈ ys, H t = none) → p ∉ ys → (∀ b, b ≠ p → b ∉ ys → H' b = H b) → H' p = some (.lst (ys.map V.ref)) → All2 (fun t (q : PI) => H' t = some (.tup [.int q.a, .int q.b])) ys (srt l) → Q (.ref p) H'
def tSortIt (te : TE) : TE := fun σ H Q => te σ H fun x H1 => rSortIt x H1 Q
theorem pe_sortedItems {e : Expr} {te : TE} {p apos cpos pos : Pos} (hc : X.calm = true) (he : PE X e te) (hg : Gl X "sorted") (hm : X.mg "sorted" = none) (hv : bootBuiltins "sorted" = some (.builtin "sorted")) (hbase : attributeBase e "items" X.env (eval e X.env) = eval e X.env := by rfl) (hline : (apos.endLine == cpos.line) = true := by rfl)
    (hs : starEach [.Call (.Attribute e "items" apos) [] [] cpos] X.env = (false, eval (.Call (.Attribute e "items" apos) [] [] cpos) X.env) :: starEach [] X.env := by rfl) :
    PE X (.Call (.Name "sorted" p) [.Call (.Attribute e "items" apos) [] [] cpos] [] pos) (tSortIt te) := by
  refine ⟨fun pins s σ H Q I hq => ?_⟩
  refine wpAny_Call_Name_kw (ld_blt I hg hm hv ?_)
  refine PyProof.Rows.callWith_builtin1 ?_ hs rfl
  rw [hs]
  show wpAny _ _ (spliced ((false, eval (.Call (.Attribute e "items" apos) [] [] cpos) X.env) :: backTo pos (starEach [] X.env))) _ _ s
  refine Calls.spliced_cons ?_
  refine wpAny_Call_method (T := "dict") (id := "dict.items") hbase rfl hline F.plainAttrs_dict F.slot_dict_items F.type_dict_items (thn (he.run pins s σ H _ I hq) fun u s1 ⟨x, H1, I1, rx, q⟩ => ?_)
  unfold rSortIt at q
  obtain ⟨d, l, rfl, hd, q⟩ := q
  obtain rfl : u = Value.ref d := rx
  obtain ⟨hz, hs0, vs, kv, hdo⟩ := I1.hok d _ hd
  obtain ⟨ep, hat⟩ := hdo.dictAt
  have lk : (dI l).length = vs.length := Paired.length kv
  have ll : (dI l).length = l.length := by unfold dI; rw [List.length_map]
  refine ⟨hdo.typeIs, hdo.mapOf.noDict, ?_⟩
  show wpAny _ _ (callWith cpos (.builtin "dict.items") [.ref d] [] []) _ X.xe s1
  refine method_meetsIn F.slot_dict_items F.entry_dict_items rfl (PySem.evalArgs_none ⟨rfl, hdo.typeIs, F.args_dict_items_1 _, _, meets_dict_items (mixKind X.prog X.w) d hs0, ⟨vs, hdo⟩, ?_⟩)
  refine Calls.spliced_nil ?_
  have I2 : Inv X pins σ H1 { s1 with heap := s1.heap.push { cls := .type "dict_items", data := .fields #[.ref d] } } := I1.kept (t' := s1.toks) fun b ob q => Heap.get?_push_of_some _ q
  have hB : ((H1 d).isSome) = true := by rw [hd]; rfl
  refine Calls.call_function_entry kind_sorted plain_sorted entry_sorted (args_sorted1 _) (by
    unfold Builtin.«sorted»
    refine wpAny_bind (m := checkCount "sorted" 1 1 _) (wpAny_pure (wpAny_bind (PySem.W.kdx_collect (knd := mixKind X.prog X.w) (kvs := vs) (ep := ep) (I1.ok.hd hc) ⟨_, Heap.get?_push_size _ rfl, rfl, rfl⟩ (hat.push _) (by omega) fun h1 tk as hk hl hG => ?_)))
    refine wpAny_bind (wpAny_newList ?_ (by rw [List.length_map, hl]; omega))
    -- the pairs' tuples: at as
    have nd : as.Nodup := hG.rise.imp fun {a b} h => Nat.ne_of_lt h
    have lz : (as.zip l).map (·.1) = as := List.map_fst_zip (by omega)
    have zx : ∀ (j : Nat) (a : Addr), as[j]? = some a → ∃ (q : PI) (t u : Tok), l[j]? = some q ∧ pzAt (as.zip l) a = some q ∧ h1.get? a = some { cls := .type "tuple", data := .seq #[.int q.a t, .int q.b u] } := fun j a h => by
      obtain ⟨key, k, x, e1, e2, e3⟩ := hG.pairs j a h
      have jl : j < l.length := by have := (List.getElem?_eq_some_iff.mp h).1; omega
      have lj : l[j]? = some l[j] := List.getElem?_eq_getElem jl
      obtain ⟨y, e4, e5, e6⟩ := LiI.paired_get kv (dI_get jl)
      rw [e1] at e4
      have e4 := Option.some.inj e4
      subst e4
      obtain ⟨i, tk1, e7, rfl⟩ | ⟨z, tk1, e7, _⟩ := keyIs_shape (show keyIs k key = true from e2)
      · have e5 : Sum.inl l[j].a = k := e5
        rw [e7] at e5
        have e5 := Sum.inl.inj e5
        subst e5
        obtain ⟨tk2, e6⟩ := (show RelV (.int l[j].b) x from e6)
        subst e6
        exact ⟨l[j], tk1, tk2, lj, pzAt_ix (zs := as.zip l) (by rw [lz]; exact nd) (j := j) (z := (a, l[j])) (List.getElem?_zip_eq_some.mpr ⟨h, lj⟩), e3⟩
      · have e5 : Sum.inl l[j].a = k := e5
        rw [e7] at e5
        cases e5
    have zm : ∀ a ∈ as, ∃ (q : PI) (t u : Tok), pzAt (as.zip l) a = some q ∧ h1.get? a = some { cls := .type "tuple", data := .seq #[.int q.a t, .int q.b u] } := fun a m => by
      obtain ⟨j, hj⟩ := List.getElem?_of_mem m
      obtain ⟨q, t, u, _, h2, h3⟩ := zx j a hj
      exact ⟨q, t, u, h2, h3⟩
    have lm : as.map (fun a => (pzAt (as.zip l) a).getD ⟨0, 0⟩) = l := by
      refine List.ext_getElem? fun j => ?_
      rw [List.getElem?_map]
      cases hj : as[j]? with
      | none =>
        have := List.getElem?_eq_none_iff.mp hj
        exact (List.getElem?_eq_none_iff.mpr (by omega)).symm
      | some a =>
        obtain ⟨q, t, u, h1, h2, _⟩ := zx j a hj
        rw [h1, Option.map_some, h2]; rfl
    generalize ezs : as.zip l = zs at zx zm lm lz
    have s12 : (s1.heap.push { cls := .type "dict_items", data := .fields #[.ref d] }).objs.size ≤ h1.objs.size := by
      have := Heap.lt_size (hk _ _ (Heap.get?_push_size s1.heap rfl))
      rw [Heap.size_push]; exact this
    have Bn : h1.objs.size ∉ as := fun z => Nat.lt_irrefl _ (hG.there z)
    let kk : Value → Int × Int := fun v => (((pzAt zs (adOf v)).getD ⟨0, 0⟩).a, ((pzAt zs (adOf v)).getD ⟨0, 0⟩).b)
    have ho : (h1.push { cls := .type "list", data := .seq (as.map Value.ref).toArray }).get? h1.objs.size = some (seqObj "list" (as.map Value.ref).toArray 0) := Heap.get?_push_size _ rfl
    refine wpAny_bind (wpAny_holding (wpAny_call_entry slot_list_sort ⟨_, ho, rfl⟩ entry_list_sort (SrtO.list_sort_ord (ltv := fun v u => SrtO.lexB (kk v) (kk u)) (SrtO.swo_lex kk) ho (by rw [List.length_map, hl]; omega) (fun h2 => ?_) fun out hso hbo => ⟨_, rfl, wpAny_pure ⟨_, rfl, ?_⟩⟩) (args_list_sort _)))
    · refine SrtO.pairs_sortableO (k := kk) (by omega) (fun v m => ?_) fun o e => ?_
      · obtain ⟨a, ma, rfl⟩ := List.mem_map.mp m
        obtain ⟨q, t, u, h1', h2'⟩ := zm a ma
        refine ⟨a, _, t, u, 0, rfl, Heap.get?_push_of_some _ h2', rfl, ?_⟩
        show _ = Data.seq #[.int ((pzAt zs a).getD ⟨0, 0⟩).a t, .int ((pzAt zs a).getD ⟨0, 0⟩).b u] 0
        rw [h1']
        rfl
      · rw [ho] at e
        cases e
        intro c
        exact absurd (Value.type.inj c) (by decide)
    · have outp : out.Perm (as.map Value.ref) := hbo.perm
      have oe : out = (out.map adOf).map Value.ref := by
        rw [List.map_map]
        refine (List.map_id out).symm.trans (List.map_congr_left fun v m => ?_)
        obtain ⟨a, _, rfl⟩ := List.mem_map.mp (outp.mem_iff.mp m)
        rfl
      have yp : (out.map adOf).Perm as := by
        have := outp.map adOf
        rw [List.map_map] at this
        have e : as.map (adOf ∘ Value.ref) = as := (List.map_congr_left fun a _ => rfl).trans (List.map_id as)
        rw [e] at this; exact this
      generalize out.map adOf = ys at oe yp
      have lo : out.length ≤ sizeLine := by rw [oe, List.length_map, yp.length_eq, hl]; omega
      obtain ⟨ep3, h3B⟩ := sortedHeap_at (vs := as.map Value.ref) (out := out.toArray) ho
      have h3o : ∀ b o, h1.get? b = some o → (sortedHeap (h1.push { cls := .type "list", data := .seq (as.map Value.ref).toArray }) h1.objs.size (as.map Value.ref) out.toArray).get? b = some o := fun b o e => by
        have bl := Heap.lt_size e
        rw [sortedHeap_old (Nat.ne_of_lt bl) (by rw [Heap.size_push]; exact Nat.lt_succ_of_lt bl)]
        exact Heap.get?_push_of_some _ e
      have tB : trk H1 h1.objs.size (.lst (ys.map V.ref)) zs h1.objs.size = some (.lst (ys.map V.ref)) := by unfold trk; rw [if_pos rfl]
      have tT : ∀ a ∈ as, ∀ q, pzAt zs a = some q → trk H1 h1.objs.size (.lst (ys.map V.ref)) zs a = some (.tup [.int q.a, .int q.b]) := fun a m q e => by
        unfold trk
        rw [if_neg (fun z => Bn (by rw [← z]; exact m)), e]
      have tO : ∀ b, b ≠ h1.objs.size → b ∉ as → trk H1 h1.objs.size (.lst (ys.map V.ref)) zs b = H1 b := fun b n m => by
        unfold trk
        rw [if_neg n, pzAt_no (by rw [lz]; exact m)]
      have big : ∀ a ∈ h1.objs.size :: as, (s1.heap.push { cls := .type "dict_items", data := .fields #[.ref d] }).objs.size ≤ a := fun a m => by
        rcases List.mem_cons.mp m with rfl | m
        · exact s12
        · exact Nat.le_of_lt (hG.above a m)
      have J := inv_many (tk := tk) (H' := trk H1 h1.objs.size (.lst (ys.map V.ref)) zs) (h' := sortedHeap (h1.push { cls := .type "list", data := .seq (as.map Value.ref).toArray }) h1.objs.size (as.map Value.ref) out.toArray) (as := h1.objs.size :: as) I2 (fun b o e => h3o b o (hk b o e)) big
          (fun b m => tO b (fun z => m (by rw [z]; exact List.mem_cons_self)) (fun z => m (List.mem_cons_of_mem _ z))) (fun b m o e => by
        by_cases hb : b = h1.objs.size
        · subst hb
          rw [tB] at e
          cases e
          refine ⟨by rw [List.length_map, yp.length_eq, hl]; omega, out, ep3, ?_, h3B⟩
          rw [oe]
          exact LiI.vals_refs ys
        · have m := (List.mem_cons.mp m).resolve_left hb
          obtain ⟨q, t, u, e1, e2⟩ := zm b m
          rw [tT b m q e1] at e
          cases e
          exact ⟨two_le, [.int q.a t, .int q.b u], .cons ⟨_, rfl⟩ (.cons ⟨_, rfl⟩ .nil), ⟨_, h3o b _ e2, rfl, _, rfl⟩⟩)
      have fr1 : ∀ a ∈ h1.objs.size :: as, H1 a = none := fun a m => I2.hok.fresh (big a m)
      have ym : ∀ a, a ∈ ys ↔ a ∈ as := fun a => yp.mem_iff
      refine ⟨.ref h1.objs.size, _, J, rfl, q _ _ ys (fun b o e => ?_) (fr1 _ List.mem_cons_self) (fun t m => fr1 t (List.mem_cons_of_mem _ ((ym t).mp m))) (fun z => Bn ((ym _).mp z)) (fun b n m => tO b n fun z => m ((ym b).mpr z)) tB ?_⟩
      · rw [tO b (fun z => by rw [z, fr1 _ List.mem_cons_self] at e; cases e) (fun z => by rw [fr1 b (List.mem_cons_of_mem _ z)] at e; cases e)]
        exact e
      · have es : ys.map (fun a => (pzAt zs a).getD ⟨0, 0⟩) = srt l := by
          refine srt_of ?_ (by rw [← lm]; exact yp.map _)
          rw [oe] at hso
          have hso := List.pairwise_map.mp hso
          refine List.pairwise_map.mpr (hso.imp fun {x y} h => ?_)
          have h := SrtO.lexB_no.mp h
          exact leP_iff.mpr (by simp only [kk, adOf] at h; omega)
        rw [← es]
        refine ⟨by rw [List.length_map], fun i x y h1 h2 => ?_⟩
        rw [List.getElem?_map, h1] at h2
        cases h2
        have m := (ym x).mp (List.mem_of_getElem? h1)
        obtain ⟨q, t, u, e1, e2⟩ := zm x m
        rw [tT x m q e1]
        show _ = some (HO.tup [V.int ((pzAt zs x).getD ⟨0, 0⟩).a, V.int ((pzAt zs x).getD ⟨0, 0⟩).b])
        rw [e1]
        rfl)
theorem sitems {F H : Hp} {d : Addr} {l : List PI} {Q : VK} (sF : Same F H) (hd : H d = some (.dK (dI l))) (q : ∀ (F' H' : Hp) (p : Addr) (xs : List V), Gr mu0 F H F' H' → Ow H F' H' p (.lst xs) → IsAll F' xs (srt l) → Q (.ref p) H') : rSortIt (.ref d) H Q := by
  unfold rSortIt
  refine ⟨d, l, rfl, hd, fun H' p ys s n nt pn off hp al => ?_⟩
  have fy : ∀ b ∈ ys, F b = none := fun b m => sF.free (nt b m)
  have s' : Same F (fun b => if b ∈ ys then H' b else F b) := fun b o e => by
    by_cases m : b ∈ ys
    · rw [fy b m] at e; cases e
    · simp only [m, if_false]; exact e
  have e2 : ∀ b, b ∈ ys → (if b ∈ ys then H' b else F b) = H' b := fun b m => if_pos m
  refine q (fun b => if b ∈ ys then H' b else F b) H' p (ys.map V.ref) ⟨s', fun b o e => ?_, fun b o e => ?_, fun b o e _ => s b o e, fun b e => s.free e⟩ ⟨n, ?_, hp⟩ ⟨by rw [List.length_map]; exact al.1, fun i x y h1 h2 => ?_⟩
  · by_cases m : b ∈ ys
    · simp only [m, if_true] at e; exact e
    · simp only [m, if_false] at e; exact s b o (sF b o e)
  · by_cases m : b ∈ ys
    · exact .inr (nt b m)
    · simp only [m, if_false] at e; exact .inl e
  · show (if p ∈ ys then H' p else F p) = none
    rw [if_neg pn]; exact sF.free n
  · rw [List.getElem?_map] at h1
    cases e : ys[i]? with
    | none => rw [e] at h1; cases h1
    | some t =>
      rw [e] at h1
      cases h1
      refine ⟨t, _, _, rfl, ?_, rfl, rfl⟩
      show (if t ∈ ys then H' t else F t) = _
      rw [if_pos (List.mem_of_getElem? e)]
      exact al.2 i t y e h2
end
/-! ### sum of a tuple; a tuple not at all or once -/
section
open PySem.Spec PyProof.Rows
variable {X : Cx}
def rSumT (K : PySem.W.Frag) : List V → Hp → VK → Prop := fun vs H Q => ∃ (a : Addr) (ns : List Int), vs = [V.ref a] ∧ SqT K H a (ns.map V.int) ∧ Q (.int ns.sum) H
theorem cr_sumT (hc : X.calm = true) : CallR X (.builtin "sum") (rSumT X.K) := by
  intro pins s σ H vs us Q I r h
  obtain ⟨a, ns, rfl, ht, q⟩ := h
  obtain ⟨its, rv, ⟨o, ho, hcl, n, hd⟩, _⟩ := I.tuple ht
  have hi := rv.ints
  obtain ⟨xs, e⟩ := hi.allInts.items
  have hn : numsOf (intItems xs).toList = ns := by rw [← e]; exact hi.numsOf
  rw [nums_intItems] at hn
  rw [e] at hd
  rw [Vals.ref1 r]
  refine PySem.W.ktm_sumG (I.ok.hd hc) ⟨o, ho, hcl, n, hd⟩ fun h' tk t' hk => ?_
  rw [preSum_eq, List.take_of_length_le (by simp), hn]
  exact ⟨.int _, H, I.kept hk, ⟨_, rfl⟩, q⟩
theorem tup_mul1 (l : Addr) (items : Array Value) (n : Nat) (dd : Option Addr) (sl : Array (Option Value)) (u : Tok) (hne : items.isEmpty = false) :
    Meets (Builtin.«tuple.__mul__» ⟨[.ref l, .int 1 u], []⟩) (fun _ R s => s.heap.get? l = some { cls := .type "tuple", dict := dd, data := .seq items n, slots := sl } ∧ R (.ok (.ret (Value.ref l))) s) :=
  .of_wp fun prog w A R s h => by
    obtain ⟨hp, g, d, tk, os⟩ := s
    obtain ⟨hl, h⟩ := h
    have f1 := AutoSeq1.idx_int
    wp_walk using wpAny_loadPart' hl
    exact ⟨_, rfl, h⟩
theorem tup_mul0 (l : Addr) (items : Array Value) (n : Nat) (dd : Option Addr) (sl : Array (Option Value)) (u : Tok) (hne : items.isEmpty = false) :
    Meets (Builtin.«tuple.__mul__» ⟨[.ref l, .int 0 u], []⟩) (fun _ R s => s.heap.get? l = some { cls := .type "tuple", dict := dd, data := .seq items n, slots := sl } ∧
      R (.ok (.ret (Value.ref s.heap.objs.size))) { s with heap := s.heap.push { cls := Value.type "tuple", data := Data.seq #[] }, toks := s.toks }) :=
  .of_wp fun prog w A R s h => by
    obtain ⟨hp, g, d, tk, os⟩ := s
    obtain ⟨hl, h⟩ := h
    have f1 := AutoSeq1.idx_int
    wp_walk using wpAny_loadPart' hl
    exact ⟨_, rfl, h⟩
def rRep01 (K : PySem.W.Frag) : R2 := fun x y H Q => ∃ l k xs, x = .ref l ∧ y = .int k ∧ SqT K H l xs ∧ xs ≠ [] ∧ ((k = 1 ∧ Q (.ref l) H) ∨ (k = 0 ∧ ∀ p, H p = none → Q (.ref p) (upd H p (.tup []))))
theorem op_rep01 : OpR X (binaryOp .Mult) (rRep01 X.K) := by
  intro pins s σ H x y v u Q I rx ry h
  obtain ⟨l, k, xs, rfl, rfl, hT, hne, h⟩ := h
  cases rx
  obtain ⟨tk, rfl⟩ := ry
  obtain ⟨its, r, ⟨⟨cls, dd, data, sl⟩, ho, hc, n, hd⟩, hs⟩ := I.tuple hT
  simp only at hc hd
  subst hc hd
  have hi : its.toArray.isEmpty = false := by
    cases its with
    | nil => have := r.length; exact absurd (List.eq_nil_of_length_eq_zero this) hne
    | cons a b => rfl
  rcases h with ⟨rfl, q⟩ | ⟨rfl, q⟩
  · refine wpAny_binaryOp_repeat_ref (T := "tuple") (U := "int") (by decide) ⟨_, ho, rfl⟩ (fun s' => typeIs_int s' 1 tk) noFill_tuple_mul F.fills_int_mul F.slot_int_rmul repeat_tuple F.slot_int_index.lookup
      (call_meets F.slot_int_rmul (typeIs_int s 1 tk) F.entry_int_rmul (F.args_int_rmul_2 _ _) (int_rmul_tuple 1 tk l its.toArray n dd sl)
        ⟨ho, rfl, ⟨_, ho, rfl⟩, call_meets F.slot_tuple_mul ⟨_, ho, rfl⟩ F.entry_tuple_mul (F.args_tuple_mul_2 _ _) (tup_mul1 l its.toArray n dd sl tk hi) ⟨ho, ?_⟩⟩)
    exact ⟨.ref l, H, I, rfl, q⟩
  · refine wpAny_binaryOp_repeat_ref (T := "tuple") (U := "int") (by decide) ⟨_, ho, rfl⟩ (fun s' => typeIs_int s' 0 tk) noFill_tuple_mul F.fills_int_mul F.slot_int_rmul repeat_tuple F.slot_int_index.lookup
      (call_meets F.slot_int_rmul (typeIs_int s 0 tk) F.entry_int_rmul (F.args_int_rmul_2 _ _) (int_rmul_tuple 0 tk l its.toArray n dd sl)
        ⟨ho, rfl, ⟨_, ho, rfl⟩, call_meets F.slot_tuple_mul ⟨_, ho, rfl⟩ F.entry_tuple_mul (F.args_tuple_mul_2 _ _) (tup_mul0 l its.toArray n dd sl tk hi) ⟨ho, ?_⟩⟩)
    refine ⟨.ref s.heap.objs.size, _, I.laid (t' := s.toks) (o := .tup []) (fun b ob q => Heap.get?_push_of_some _ q) (Nat.le_refl _) ?_, rfl, q _ (I.hok.fresh (Nat.le_refl _))⟩
    exact ⟨nil_le, _, .nil, IsTup.new _ _⟩
end
/-! slices of tuples, +: the ways -/
@[irreducible] def rSlQ (K : PySem.W.Frag) : V → Option Int → Option Int → Hp → VK → Prop := rSlA K
theorem sl_tupQ {X : Cx} : SlR X (rSlQ X.K) := by
  unfold rSlQ
  exact sl_tupA
@[irreducible] def rCatQ (K : PySem.W.Frag) : R2 := rCatA K
theorem op_catQ {X : Cx} : OpR X (binaryOp .Add) (rCatQ X.K) := by
  unfold rCatQ
  exact op_catA
theorem slA_all {K : PySem.W.Frag} {H : Hp} {a : Addr} {xs : List V} {lo hi : Option Int} {Q : VK} (h : SqT K H a xs) (w : HT.sIx xs.length 0 lo = 0 ∧ HT.sIx xs.length xs.length hi = xs.length) (q : Q (.ref a) H) : rSlQ K (.ref a) lo hi H Q := by
  unfold rSlQ
  exact ⟨a, xs, rfl, h, fun _ => q, fun n => absurd w n⟩
theorem slA_cut {K : PySem.W.Frag} {H : Hp} {a : Addr} {xs : List V} {lo hi : Option Int} {Q : VK} (h : SqT K H a xs) (w : ¬ (HT.sIx xs.length 0 lo = 0 ∧ HT.sIx xs.length xs.length hi = xs.length)) (q : ∀ p, H p = none → Q (.ref p) (upd H p (.tup (cutV xs lo hi)))) : rSlQ K (.ref a) lo hi H Q := by
  unfold rSlQ
  exact ⟨a, xs, rfl, h, fun n => absurd n w, fun _ => q⟩
theorem catA_nil {K : PySem.W.Frag} {H : Hp} {a b : Addr} {ys : List V} {Q : VK} (h : SqT K H a []) (h2 : SqT K H b ys) (l : ys.length ≤ sizeLine) (q : Q (.ref b) H) : rCatQ K (.ref a) (.ref b) H Q := by
  unfold rCatQ
  exact ⟨a, b, [], ys, rfl, rfl, h, h2, by simpa using l, fun _ => q, fun n => absurd rfl n, fun n => absurd rfl n⟩
theorem catA_new {K : PySem.W.Frag} {H : Hp} {a b : Addr} {xs ys : List V} {Q : VK} (h : SqT K H a xs) (h2 : SqT K H b ys) (l : xs.length + ys.length ≤ sizeLine) (n1 : xs ≠ []) (n2 : ys ≠ []) (q : ∀ p, H p = none → Q (.ref p) (upd H p (.tup (xs ++ ys)))) : rCatQ K (.ref a) (.ref b) H Q := by
  unfold rCatQ
  exact ⟨a, b, xs, ys, rfl, rfl, h, h2, l, fun e => absurd e n1, fun _ e => absurd e n2, fun _ _ => q⟩
/-! ### enumerate(tuple); sorted(dict) of int keys, of any length -/
section
open PySem.Spec PyProof.Rows
set_option maxHeartbeats 8000000 in
theorem enT_new (t : Addr) (zs : Array Value) : Meets (Builtin.«enumerate.__new__» ⟨[.type "enumerate", .ref t], []⟩) (fun _ R s => s.heap.IsTuple t zs ∧
    R (.ok (.ret (.ref (s.heap.push { cls := .type "tuple_iterator", data := .fields #[.ref t, .int 0 0] }).objs.size)))
      { s with heap := (s.heap.push { cls := .type "tuple_iterator", data := .fields #[.ref t, .int 0 0] }).push { cls := .type "enumerate", data := .fields #[.none, .bool false, .ref s.heap.objs.size, rawInt 0, .none, .none] } }) :=
  .of_wp fun prog w A R s z => by
    obtain ⟨hp, gs, dr, tk, os⟩ := s
    obtain ⟨hz, z⟩ := z
    have sub := sub_enumerate
    have step : ∀ {A' : Around} {E : Value → Shared → Prop} {Q : Value → Shared → Prop}, Q (.ref hp.objs.size) ⟨hp.push { cls := .type "tuple_iterator", data := .fields #[.ref t, .int 0 0] }, gs, dr, tk, os⟩ → wpAny (model prog w) A' (pyIter (.ref t)) Q E ⟨hp, gs, dr, tk, os⟩ :=
      fun q => (begins_tuple t zs).iter prog w _ _ ⟨hp, gs, dr, tk, os⟩ _ hz q
    wp_walk using step
    refine wpAny_stack_any fun st => wpAny_pure ?_
    split
    · rename_i c _ _ _ _ _
      cases (c == Value.type "enumerate")
      · wp_walk using step
        exact ⟨_, rfl, z⟩
      · wp_walk using step
        exact ⟨_, rfl, z⟩
    · wp_walk using step
      exact ⟨_, rfl, z⟩
section
variable {prog : Program} {w : World} {A : Around} {E : Value → Shared → Prop} {s : Shared}
theorem enT_call {t : Addr} {zs : Array Value} {Q : Value → Shared → Prop} (ht : s.heap.IsTuple t zs)
    (k : ∀ h', IsEnum h' (s.heap.objs.size + 1) s.heap.objs.size 0 .none → h'.IsTupleIter s.heap.objs.size t 0 → h'.objs.size = s.heap.objs.size + 2 →
      (∀ b o, s.heap.get? b = some o → h'.get? b = some o) → Q (.ref (s.heap.objs.size + 1)) { s with heap := h' }) :
    wpAny (model prog w) A (call (.type "enumerate") [.ref t]) Q E s := by
  refine callType_new F.called_enumerate (by decide) (F.typeCall_enumerate_1 _) (F.newCall_enumerate_1 _) (fun obj => F.args_object_init_2 obj _) F.entry_enumerate_new (enT_new t zs) ⟨ht, ?_⟩
  have ez : (s.heap.push { cls := .type "tuple_iterator", data := .fields #[.ref t, .int 0 0] }).objs.size = s.heap.objs.size + 1 := Heap.size_push ..
  show _ ∧ _
  rw [ez]
  have en : IsEnum ((s.heap.push { cls := .type "tuple_iterator", data := .fields #[.ref t, .int 0 0] }).push { cls := .type "enumerate", data := .fields #[.none, .bool false, .ref s.heap.objs.size, rawInt 0, .none, .none] })
      (s.heap.objs.size + 1) s.heap.objs.size 0 .none := by
    have y := Heap.get?_push_size (s.heap.push { cls := .type "tuple_iterator", data := .fields #[.ref t, .int 0 0] }) (o := { cls := .type "enumerate", data := .fields #[.none, .bool false, .ref s.heap.objs.size, rawInt 0, .none, .none] }) rfl
    rw [ez] at y; exact y
  exact ⟨⟨_, en, rfl⟩, k _ en ⟨_, Heap.get?_push_of_some _ (Heap.get?_push_size _ rfl), rfl, rfl⟩ (by rw [Heap.size_push, ez]) fun b o x => Heap.get?_push_of_some _ (Heap.get?_push_of_some _ x)⟩
theorem enT_end {e it t : Addr} {i : Nat} {zs : Array Value} {old : Value} {Q : Option Value → Shared → Prop} (hh : A.handled = none) (he : IsEnum s.heap e it i old) (hit : s.heap.IsTupleIter it t i) (ht : s.heap.IsTuple t zs) (hx : zs.size ≤ i)
    (k : ∀ h', Heap.ExtBut it s.heap h' → Q none { s with heap := h' }) : wpAny (model prog w) A (pyNext (.ref e)) Q E s := by
  have hT : s.TypeIs (.ref e) "enumerate" := ⟨_, he, rfl⟩
  unfold pyNext
  refine wpAny_bind (wpAny_attempt (wpAny_callSpecial?_slot (name := Str.ofString "__next__") hT F.slot_enumerate_next (wpAny_call_entry F.slot_enumerate_next hT F.entry_enumerate_next ?_ (F.args_enumerate_next_1 _))))
  show wpAny _ _ (field (.ref e) 2 >>= _) _ _ _
  refine wpAny_bind (wpAny_field he rfl (x := .ref it) rfl (wpAny_bind (wpAny_nextOf_tuple_end (show A.in1.handled = none from hh) hit ht (Array.getElem?_eq_none hx) fun h' x eb hx' => ?_)))
  obtain ⟨o, ho, hc⟩ := hx'
  exact wpAny_bind (wpAny_isInstance (T := "StopIteration") (b := true) ⟨o, ho, hc⟩ isSubtype_stop (wpAny_pure (k _ eb)))
end
/-- the tuple at a, each item in a new pair with its place -/
def Iet (K : PySem.W.Frag) (a : Addr) : It :=
  ⟨fun i H => ∃ (xs : List V) (x : V), SqT K H a xs ∧ xs[i]? = some x, fun i H v H' => ∃ T x, v = .ref T ∧ H T = none ∧ H' = upd H T (.tup [.int (i : Nat), x]) ∧ ∀ xs, SqT K H a xs → xs[i]? = some x, fun i H => ∃ xs : List V, SqT K H a xs ∧ xs.length ≤ i⟩
theorem turn_enT {P : Program} {w : World} {K : PySem.W.Frag} {elts : List PySem.Expr} {kk : Nat} {tpos : Pos} (a e it : Addr) (ae : a ≠ e) (ai : a ≠ it) :
    Turn P w K (.Tuple elts kk tpos) (Iet K a) [e, it] e (fun i h => (∃ old, IsEnum h e it ((i : Nat) : Int) old) ∧ h.IsTupleIter it a i ∧ e ≠ it) where
  mem := List.mem_cons_self ..
  obj := fun i h st b hb => by
    obtain ⟨⟨old, he⟩, ⟨o, ho, hc, hd⟩, _⟩ := st
    rcases List.mem_cons.mp hb with z | z
    · rw [z]; exact ⟨_, he, fun v q => nomatch q⟩
    · rw [List.mem_singleton.mp z]; exact ⟨o, ho, fun v q => by rw [hd] at q; cases q⟩
  keep := fun i h h' st k => by
    obtain ⟨⟨old, he⟩, hi, hne⟩ := st
    exact ⟨⟨old, k e (List.mem_cons_self ..) _ he⟩, hi.at fun o q => k it (List.mem_cons_of_mem _ (List.mem_singleton.mpr rfl)) o q, hne⟩
  item := by
    intro X hP hw hK hc i pins s σ H E I hf st hg
    subst hP hw hK
    obtain ⟨⟨old, he⟩, hit, hne⟩ := st
    obtain ⟨xs, x, hq, hx⟩ := hg
    obtain ⟨its, rv, p, hz⟩ := I.tuple hq
    obtain ⟨u, hu, ru⟩ := rv.get hx
    have il : i < its.toArray.size := by
      have := (List.getElem?_eq_some_iff.mp hu).1
      rw [List.size_toArray]; exact this
    have hel : e < s.heap.objs.size := Heap.lt_size he
    have hil : it < s.heap.objs.size := by obtain ⟨_, q, _⟩ := hit; exact Heap.lt_size q
    have D := Draws.tuple (prog := X.prog) (w := X.w) (A := X.A.in1) (show X.A.in1.handled = none from I.ok.hd hc) it a ai its.toArray
    refine wpAny_pyNext_enum_itemD D he ⟨hit, p⟩ il hne (fun m => by
      rcases List.mem_cons.mp m with m | m
      · exact hne m
      · exact ae (List.mem_singleton.mp m).symm) fun x' h' tk px ho hst' hT hsz hk => ?_
    have eu : x' = u := by
      have y : its.toArray[i]? = some u := by rw [List.getElem?_toArray]; exact hu
      rw [px] at y
      exact Option.some.inj y
    subst eu
    refine ⟨_, rfl, wpAny_letOwnedTupleGo_enum (s := { s with heap := h', toks := tk + 1 }) ho fun h'' he' sb => ?_⟩
    have hT2 : h''.get? s.heap.objs.size = some { cls := .type "tuple", data := .seq #[.int i tk, x'] } := (sb.2 _ (Nat.ne_of_gt hel)).trans hT
    have new : ObjOk X.prog X.w (upd H s.heap.objs.size (.tup [.int (i : Nat), x])) h'' s.heap.objs.size (.tup [.int (i : Nat), x]) :=
      ⟨two_le, [.int i tk, x'], .cons ⟨_, rfl⟩ (.cons ru .nil), ⟨_, hT2, rfl, _, rfl⟩⟩
    have J : Inv X pins σ (upd H s.heap.objs.size (.tup [.int (i : Nat), x])) { s with heap := h'', toks := tk + 1 } :=
      I.turnedNew (ch := [e, it]) (fun b ob hb q => (sb.2 b (fun z => hb (z ▸ List.mem_cons_self ..))).trans (hk b ob (fun z => hb (z ▸ List.mem_cons_self ..)) (fun z => hb (z ▸ List.mem_cons_of_mem _ (List.mem_singleton.mpr rfl))) q)) hf (Nat.le_refl _) new
    refine ⟨.ref s.heap.objs.size, _, J, rfl, ⟨_, x, rfl, I.hok.fresh (Nat.le_refl _), rfl, fun ys hy => by rw [I.tuple_inj hy hq]; exact hx⟩, ⟨⟨x', ?_⟩, hst'.1.at fun o q => (sb.2 it (Ne.symm hne)).trans q, hne⟩, fun b hb => ?_⟩
    · rw [show ((i + 1 : Nat) : Int) = (i : Int) + 1 by omega]; exact he'
    · have lb : b < s.heap.objs.size := by
        rcases List.mem_cons.mp hb with z | z
        · rw [z]; exact hel
        · rw [List.mem_singleton.mp z]; exact hil
      rw [upd_ne (Nat.ne_of_lt lb)]
      exact (hf b hb).1
  done := by
    intro X hP hw hK hc i pins s σ H E I hf st hg
    subst hP hw hK
    obtain ⟨⟨old, he⟩, hit, hne⟩ := st
    obtain ⟨xs, hq, hx⟩ := hg
    obtain ⟨its, rv, p, hz⟩ := I.tuple hq
    obtain ⟨f0, f1, f2, f3, f4, f5⟩ := hf it (List.mem_cons_of_mem _ (List.mem_singleton.mpr rfl))
    have hl := rv.length
    exact enT_end (I.ok.hd hc) he hit p (by rw [List.size_toArray]; omega) fun h' eb => ⟨rfl, I.turned (t' := s.toks) (fun b o hb q => eb b o hb q) f0 f1 f3 f4 f5⟩
  self := fun A i s Q E st h => by
    obtain ⟨⟨_, he⟩, _⟩ := st
    exact wpAny_pyIter_enum he h
def iEnT (K : PySem.W.Frag) (ta : TA) : TI := fun σ H R => ta σ H fun vs H1 => ∃ a xs, vs = [.ref a] ∧ SqT K H1 a xs ∧ R (Iet K a) H1
theorem pi_enT {X : Cx} {e : PySem.Expr} {ta : TA} {p pos tpos : Pos} {elts : List PySem.Expr} {kk : Nat} (hg : Gl X "enumerate") (hm : X.mg "enumerate" = none) (ha : PA X [e] ta) (hs : starEach [e] X.env = [(false, eval e X.env)] := by rfl) :
    L2.PI X (.Tuple elts kk tpos) (.Call (.Name "enumerate" p) [e] [] pos) (iEnT X.K ta) := by
  refine ⟨fun pins s σ H R I h => Call_ (ld_blt I hg hm boot_enumerate (PyProof.Rows.callWith_type1 (thn (ha.run pos pins s σ H _ I h) fun us s1 ⟨vs, H1, J, r1, q1⟩ => ?_) hs rfl))⟩
  obtain ⟨a, xs, ex, hq, q⟩ := q1
  subst ex
  cases r1 with
  | cons r rr =>
    cases rr
    cases r
    obtain ⟨its, rv, p', hz⟩ := J.tuple hq
    have la : a < s1.heap.objs.size := p'.lt
    refine enT_call p' fun h' he hit hsz hk => wpAny_pyIter_enum he ?_
    have J2 : Inv X pins σ H1 { s1 with heap := h' } := J.kept (t' := s1.toks) hk
    refine ⟨s1.heap.objs.size + 1, [s1.heap.objs.size + 1, s1.heap.objs.size], _, _, H1, rfl, J2, turn_enT a (s1.heap.objs.size + 1) s1.heap.objs.size (Nat.ne_of_lt (Nat.lt_succ_of_lt la)) (Nat.ne_of_lt la), ⟨⟨.none, he⟩, hit, Nat.succ_ne_self _⟩, fun b hb => ?_, q⟩
    have lb : s1.heap.objs.size ≤ b := by
      rcases List.mem_cons.mp hb with z | z
      · rw [z]; exact Nat.le_add_right _ _
      · rw [List.mem_singleton.mp z]; exact Nat.le_refl _
    exact J.fpOk lb (J.hok.fresh lb)
theorem walk_enT {K : PySem.W.Frag} {a : Addr} {xs : List V} : Walk (Iet K a) xs.length (fun H => SqT K H a xs) (YPair (fun i => some (.int (i : Nat))) (fun i => xs[i]?)) := by
  refine ⟨fun i _ hi q => ⟨xs, xs[i], q, List.getElem?_eq_getElem hi⟩, fun _ q => ⟨xs, q, Nat.le_refl _⟩, fun i H v H' _ q y => ?_⟩
  obtain ⟨T, x, h1, h2, h3, h4⟩ := y
  exact ⟨T, .int (i : Nat), x, h1, h2, h3, rfl, h4 xs q⟩
/-- sorted(d) of a dict whose keys are ints -/
@[irreducible] def rSortDI : List V → Hp → VK → Prop := fun xs H Q => ∃ (a : Addr) (kvs : List (Key × V)) (ks : List Int), xs = [.ref a] ∧ Rd H a (.dK kvs) ∧ kvs.map (·.1) = ks.map Sum.inl ∧
  ∀ (ys : List Int) (p : Addr), ys.Perm ks → ys.Pairwise (· ≤ ·) → H p = none → Q (.ref p) (upd H p (.lst (ys.map V.int)))
theorem ints_at : ∀ {vs : List Value} {ns : List Int}, vs.length = ns.length → (∀ (j : Nat) (v : Value), vs[j]? = some v → ∃ i t, ns[j]? = some i ∧ v = Value.int i t) → IntsAre vs ns
  | [], [], _, _ => .nil
  | v :: vs, n :: ns, l, h => by
    obtain ⟨i, t, e, rfl⟩ := h 0 v rfl
    cases (show some n = some i from e)
    exact .cons n t (ints_at (by simpa using l) fun j u z => h (j + 1) u z)
  | [], _ :: _, l, _ => by simp at l
  | _ :: _, [], l, _ => by simp at l
theorem call_sortDI {X : Cx} (hc : X.calm = true) : CallR X (.builtin "sorted") rSortDI := by
  intro pins s σ H xs us Q I r q
  unfold rSortDI at q
  obtain ⟨a, kvs, ks, rfl, hd, hks, q⟩ := q
  rw [Vals.ref1 r]
  obtain ⟨z, lo, vs, rel, dd⟩ := dk_rd I.hok hd
  obtain ⟨ep, hat⟩ := dd.dictAt
  have hkeys : vs.map (·.1) = ks.map Sum.inl := rel.keys.symm.trans hks
  have hl : vs.length = ks.length := by
    have e := congrArg List.length hkeys
    rw [List.length_map, List.length_map] at e; exact e
  have hz : vs.length ≤ sizeLine := by rw [← rel.length]; exact z
  refine Calls.call_function_entry PyProof.Rows.kind_sorted PyProof.Rows.plain_sorted PyProof.Rows.entry_sorted (PyProof.Rows.args_sorted1 _) ?_
  unfold Builtin.«sorted»
  refine wpAny_bind (m := checkCount "sorted" 1 1 _) (wpAny_pure (wpAny_bind (PySem.W.kdu_collect (A := X.A.in1) (PySem.W.kdl_dict (knd := mixKind X.prog X.w) (kvs := vs) (ep := ep) lo) (I.ok.hd hc) hat hz fun h' tk acc hk hacc => ?_)))
  have hal : acc.toList.length = ks.length := by rw [Array.length_toList, hacc.1, hl]
  have hS : IntsAre acc.toList ks := ints_at hal fun j v e => by
    obtain ⟨k, x, e1, e2⟩ := hacc.2 j v (by rw [← Array.getElem?_toList]; exact e)
    have e3 : (vs.map (·.1))[j]? = some k := by rw [List.getElem?_map, e1]; rfl
    rw [hkeys, List.getElem?_map] at e3
    cases e4 : ks[j]? with
    | none => rw [e4] at e3; cases e3
    | some y =>
      rw [e4] at e3
      have e5 : Sum.inl y = k := Option.some.inj e3
      subst e5
      rcases keyIs_shape (show keyIs (Sum.inl y) v = true from e2) with ⟨i, t, ek, ev⟩ | ⟨w', t, ek, ev⟩
      · cases ek; exact ⟨y, t, rfl, ev⟩
      · cases ek
  have J : Inv X pins σ H { s with heap := h', toks := tk } := I.kept hk
  refine wpAny_bind (wpAny_newList ?_ (by rw [hal, ← hl]; exact hz))
  have hoL : (h'.push (seqObj "list" acc.toList.toArray 0)).get? h'.objs.size = some (seqObj "list" acc.toList.toArray 0) := Heap.get?_push_size _ rfl
  show wpAny _ _ _ _ _ { s with heap := h'.push (seqObj "list" acc.toList.toArray 0), toks := tk }
  refine wpAny_bind (wpAny_holding (wpAny_call_entry PyProof.Rows.slot_list_sort ⟨_, hoL, rfl⟩ PyProof.Rows.entry_list_sort
    (SrtO.list_sort_ord (s := { s with heap := h'.push (seqObj "list" acc.toList.toArray 0), toks := tk }) SrtO.swo_int hoL (by rw [hal, ← hl]; exact hz) (fun h2 => SrtO.ints_sortable hS h2) fun out k1 k2 => ⟨_, rfl, ?_⟩) (PyProof.Rows.args_list_sort _)))
  obtain ⟨g1, g2, g3⟩ := SrtO.ints_out hS k1 k2
  obtain ⟨e', he'⟩ := PyProof.Rows.sortedHeap_at (vs := acc.toList) (out := out.toArray) hoL
  have hlen : ((out.map SrtO.iv).map V.int).length ≤ sizeLine := by rw [List.length_map, g2.length_eq, ← hl]; exact hz
  refine wpAny_pure ⟨_, rfl, .ref h'.objs.size, upd H h'.objs.size (.lst ((out.map SrtO.iv).map V.int)), J.laid (t' := tk) (fun b u e => ?_) (Nat.le_refl _)
    (show ObjOk X.prog X.w _ _ _ (.lst ((out.map SrtO.iv).map V.int)) from ⟨hlen, out, e', vals_of_ints g1, he'⟩), rfl, q _ _ g2 g3 (J.hok.fresh (Nat.le_refl _))⟩
  have hb : b < h'.objs.size := Heap.lt_size e
  rw [PyProof.Rows.sortedHeap_old (Nat.ne_of_lt hb) (by rw [Heap.size_push]; exact Nat.lt_succ_of_lt hb)]
  exact Heap.get?_push_of_some _ e
end
/-! ### dicts keyed by data: tuples in tuples -/
section
open PySem.Spec PyProof.Rows
mutual
def keyD : PyData → NestedKey
  | .int i => .num i
  | .str x => .text x
  | .tuple xs => .tup (keyDs xs)
  | _ => .none
def keyDs : List PyData → List NestedKey
  | [] => []
  | d :: ds => keyD d :: keyDs ds
end
mutual
def kable : PyData → Bool
  | .none => true
  | .int _ => true
  | .str _ => true
  | .tuple xs => kables xs
  | _ => false
def kables : List PyData → Bool
  | [] => true
  | d :: ds => kable d && kables ds
end
mutual
theorem keyD_eqv : ∀ a b : PyData, kable a = true → kable b = true → (keyD a = keyD b ↔ PyData.eqv a b = true)
  | .none, b, _, hb => by cases b <;> simp_all [keyD, PyData.eqv, kable]
  | .int i, b, _, hb => by cases b <;> simp_all [keyD, PyData.eqv, kable]
  | .str x, b, _, hb => by cases b <;> simp_all [keyD, PyData.eqv, kable]
  | .tuple xs, .tuple ys, ha, hb => by
    rw [keyD, keyD, PyData.eqv, NestedKey.tup.injEq]
    exact keyDs_eqv xs ys (by rw [kable] at ha; exact ha) (by rw [kable] at hb; exact hb)
  | .tuple xs, .none, _, _ => by simp [keyD, PyData.eqv]
  | .tuple xs, .int _, _, _ => by simp [keyD, PyData.eqv]
  | .tuple xs, .str _, _, _ => by simp [keyD, PyData.eqv]
  | .tuple xs, .bool _, _, hb => by simp [kable] at hb
  | .tuple xs, .list _, _, hb => by simp [kable] at hb
  | .tuple xs, .dict _, _, hb => by simp [kable] at hb
  | .bool _, _, ha, _ => by simp [kable] at ha
  | .list _, _, ha, _ => by simp [kable] at ha
  | .dict _, _, ha, _ => by simp [kable] at ha
theorem keyDs_eqv : ∀ a b : List PyData, kables a = true → kables b = true → (keyDs a = keyDs b ↔ PyData.eqvAll a b = true)
  | [], [], _, _ => by simp [keyDs, PyData.eqvAll]
  | [], _ :: _, _, _ => by simp [keyDs, PyData.eqvAll]
  | _ :: _, [], _, _ => by simp [keyDs, PyData.eqvAll]
  | a :: as, b :: bs, ha, hb => by
    rw [kables, Bool.and_eq_true] at ha hb
    rw [keyDs, keyDs, PyData.eqvAll, Bool.and_eq_true, List.cons.injEq, keyD_eqv a b ha.1 hb.1, keyDs_eqv as bs ha.2 hb.2]
end
mutual
theorem keyD_depth : ∀ d : PyData, (keyD d).depth ≤ d.depth
  | .none => by simp [keyD, NestedKey.depth]
  | .int _ => by simp [keyD, NestedKey.depth]
  | .str _ => by simp [keyD, NestedKey.depth]
  | .bool _ => by simp [keyD, NestedKey.depth]
  | .list _ => by simp [keyD, NestedKey.depth]
  | .dict _ => by simp [keyD, NestedKey.depth]
  | .tuple xs => by
    rw [keyD, NestedKey.depth, PyData.depth]
    exact Nat.succ_le_succ (keyDs_depth xs)
theorem keyDs_depth : ∀ ds : List PyData, NestedKey.depthAll (keyDs ds) ≤ PyData.depthAll ds
  | [] => by simp [keyDs, NestedKey.depthAll]
  | d :: ds => by
    have h1 := keyD_depth d
    have h2 := keyDs_depth ds
    rw [keyDs, NestedKey.depthAll, PyData.depthAll]
    omega
end
section
variable {X : Cx} {pins : List (Addr × Obj)} {σ : L2.St} {H : Hp} {s : Shared}
mutual
theorem key_at (I : Inv X pins σ H s) : ∀ (d : PyData) (v : V) (u : Value), kable d = true → Dp X.K H v d → RelV v u → NestedIs s.heap (keyD d) u
  | .none, _, _, _, hd, r => by cases hd; cases r; exact .none
  | .int i, _, _, _, hd, r => by cases hd; obtain ⟨t, rfl⟩ := r; exact .int _ _
  | .str x, _, _, _, hd, r => by cases hd; obtain ⟨t, rfl⟩ := r; exact .text _ _
  | .tuple ds, _, _, hk, hd, r => by
    cases hd with
    | tup hs ha =>
      cases r
      obtain ⟨its, rv, ⟨o, ho, hc, n, hdt⟩, _⟩ := I.tuple hs
      exact .tup ho hc hdt (by simpa using keys_at I ds _ its (by rw [kable] at hk; exact hk) ha rv)
  | .bool _, _, _, hk, _, _ => by simp [kable] at hk
  | .list _, _, _, hk, _, _ => by simp [kable] at hk
  | .dict _, _, _, hk, _, _ => by simp [kable] at hk
theorem keys_at (I : Inv X pins σ H s) : ∀ (ds : List PyData) (vs : List V) (us : List Value), kables ds = true → DpAll X.K H vs ds → Vals vs us → NestedAll s.heap (keyDs ds) us
  | [], _, _, _, hd, r => by cases hd; cases r; exact .nil
  | d :: ds, _, _, hk, hd, r => by
    rw [kables, Bool.and_eq_true] at hk
    cases hd with
    | cons h1 h2 =>
      cases r with
      | cons r1 r2 => exact .cons (key_at I d _ _ hk.1 h1 r1) (keys_at I ds _ _ hk.2 h2 r2)
end
end
/-- a key, the place of its tuple, the value -/
abbrev Ne := NestedKey × Addr × V
def RelN : List Ne → List (NestedKey × Addr × Value) → Prop := Paired fun p q => p.1 = q.1 ∧ p.2.1 = q.2.1 ∧ RelV p.2.2 q.2.2
def NOk (P : Program) (w : World) (a : Addr) (xs : List Ne) (h : Heap) : Prop := xs.length ≤ sizeLine ∧ (a == sysModules) = false ∧ ∃ ys, RelN xs ys ∧
  ∃ o es ep, h.get? a = some o ∧ o.ExactDict ∧ o.data = .dict es ep ∧ es.toList = ys.map (entryOfKey (nestedKind P w)) ∧ (ys.map (·.1)).Nodup
/-- a dict of such keys -/
def DictN (P : Program) (w : World) (a : Addr) (xs : List Ne) : HO := .ext (NOk P w a xs)
theorem NOk.obj {P : Program} {w : World} {a : Addr} {xs : List Ne} {h : Heap} {H : Hp} (x : NOk P w a xs h) : ObjOk P w H h a (DictN P w a xs) := by
  refine ⟨x, ?_, fun h1 h2 y k => ?_⟩
  · obtain ⟨_, _, _, _, o, _, _, e, _⟩ := x
    exact ⟨o, e⟩
  · obtain ⟨z1, z2, ys, r, o, es, ep, e, c⟩ := y
    exact ⟨z1, z2, ys, r, o, es, ep, k _ e, c⟩
def valN (xs : List Ne) (k : NestedKey) : Option V := (xs.find? fun x => decide (x.1 = k)).map (·.2.2)
def putN (xs : List Ne) (k : NestedKey) (b : Addr) (v : V) : List Ne := if (valN xs k).isSome then xs.map (fun x => if x.1 = k then (x.1, x.2.1, v) else x) else xs ++ [(k, b, v)]
theorem RelN.val {xs : List Ne} {ys : List (NestedKey × Addr × Value)} (r : RelN xs ys) (k : NestedKey) : RelO (valN xs k) ((atKey ys k).map (·.2)) := by
  induction r with
  | nil => exact True.intro
  | @cons p q ps qs h t ih =>
    obtain ⟨h1, h2, h3⟩ := h
    unfold valN atKey at ih ⊢
    rw [List.find?_cons, List.find?_cons]
    by_cases e : p.1 = k
    · rw [decide_eq_true e, decide_eq_true (h1 ▸ e)]
      exact h3
    · rw [decide_eq_false e, decide_eq_false (h1 ▸ e)]
      exact ih
theorem RelN.put {xs : List Ne} {ys : List (NestedKey × Addr × Value)} (r : RelN xs ys) (k : NestedKey) (b : Addr) {v : V} {u : Value} (rv : RelV v u) : RelN (putN xs k b v) (storedH ys k b u) := by
  have e : (valN xs k).isSome = (atKey ys k).isSome := by
    rw [(r.val k).isSome_eq, Option.isSome_map]
  unfold putN storedH
  rw [e]
  by_cases h : (atKey ys k).isSome = true
  · rw [if_pos h, if_pos h]
    clear e h
    induction r with
    | nil => exact .nil
    | @cons p q ps qs hpq t ih =>
      obtain ⟨h1, h2, h3⟩ := hpq
      refine .cons ?_ ih
      unfold putAt
      dsimp only
      by_cases e : p.1 = k
      · rw [if_pos e, if_pos (h1 ▸ e)]; exact ⟨h1, h2, rv⟩
      · rw [if_neg e, if_neg (h1 ▸ e)]; exact ⟨h1, h2, h3⟩
  · rw [if_neg h, if_neg h]
    clear e h
    induction r with
    | nil => exact .cons ⟨rfl, rfl, rv⟩ .nil
    | cons hpq t ih => exact .cons hpq ih
/-- the keys stand yet -/
def KeysN (K : PySem.W.Frag) (H : Hp) (xs : List Ne) : Prop := ∀ t ∈ xs, ∃ d, keyD d = t.1 ∧ kable d = true ∧ d.depth ≤ 8 ∧ Dp K H (.ref t.2.1) d
section
variable {X : Cx} {pins : List (Addr × Obj)} {σ : L2.St} {H : Hp} {s : Shared} {a : Addr} {xs : List Ne}
theorem n_of (I : Inv X pins σ H s) (e : H a = some (DictN X.prog X.w a xs)) (hk : KeysN X.K H xs) : xs.length ≤ sizeLine ∧ (a == sysModules) = false ∧ ∃ ys, RelN xs ys ∧ s.heap.DictOfH (nestedKind X.prog X.w) a ys := by
  obtain ⟨⟨z1, z2, ys, r, o, es, ep, e1, e2, e3, e4, e5⟩, _⟩ := (show ObjOk X.prog X.w H s.heap a (DictN X.prog X.w a xs) from I.hok a _ e)
  refine ⟨z1, z2, ys, r, o, es, ep, e1, e2, e3, e4, ?_, e5⟩
  have all : ∀ {xs : List Ne} {ys : List (NestedKey × Addr × Value)}, RelN xs ys → KeysN X.K H xs → ∀ x ∈ ys, (nestedKind X.prog X.w).is s.heap x.1 x.2.1 := by
    intro xs ys r
    induction r with
    | nil => intro _ x hx; exact nomatch hx
    | @cons p q ps qs h t ih =>
      intro hk x hx
      obtain ⟨h1, h2, h3⟩ := h
      rcases List.mem_cons.mp hx with e | hx
      · subst e
        obtain ⟨d, k1, k2, k3, k4⟩ := hk p (List.mem_cons_self ..)
        rw [← h1, ← h2, ← k1]
        exact ⟨key_at I d _ _ k2 k4 rfl, Nat.le_trans (keyD_depth d) k3⟩
      · exact ih (fun t m => hk t (List.mem_cons_of_mem _ m)) x hx
  exact all r hk
end
/-- what the dict at a holds at the key y -/
def NGet (X : Cx) (H : Hp) (a : Addr) (y : V) (o : Option V) : Prop := ∃ xs b d, H a = some (DictN X.prog X.w a xs) ∧ KeysN X.K H xs ∧ y = .ref b ∧ Dp X.K H y d ∧ kable d = true ∧ d.depth ≤ 8 ∧ o = valN xs (keyD d)
def NPut (X : Cx) (H : Hp) (a : Addr) (y v : V) (H' : Hp) : Prop := ∃ xs b d, H a = some (DictN X.prog X.w a xs) ∧ KeysN X.K H xs ∧ y = .ref b ∧ Dp X.K H y d ∧ kable d = true ∧ d.depth ≤ 8 ∧ xs.length < sizeLine ∧ H' = upd H a (DictN X.prog X.w a (putN xs (keyD d) b v))
theorem putN_len (xs : List Ne) (k : NestedKey) (b : Addr) (v : V) : (putN xs k b v).length ≤ xs.length + 1 := by
  unfold putN
  split
  · rw [List.length_map]; omega
  · rw [List.length_append]; exact Nat.le_refl _
section
variable {X : Cx} {pins : List (Addr × Obj)} {σ : L2.St} {H : Hp} {s : Shared} {a : Addr} {y v : V} {u r : Value} {o : Option V} {A : Around} {E : Value → Shared → Prop}
theorem n_in {Q : Value → Shared → Prop} (hu : A.units + 9 < cLine) (I : Inv X pins σ H s) (g : NGet X H a y o) (ry : RelV y u) (h : ∀ s', Inv X pins σ H s' → Q (.bool o.isSome) s') : wpAny (model X.prog X.w) A (compareOp .In u (.ref a)) Q E s := by
  obtain ⟨xs, b, d, e, hk, rfl, hd, kd, dd, l⟩ := g
  cases (show u = Value.ref b from ry)
  obtain ⟨z, zd, ys, rel, D⟩ := n_of I e hk
  refine wpAny_in_heap (knd := nestedKind X.prog X.w) (show A.units + 1 + 8 < cLine by omega) ⟨key_at I d _ _ kd hd rfl, Nat.le_trans (keyD_depth d) dd⟩ zd D ?_
  have q := (rel.val (keyD d)).isSome_eq
  rw [Option.isSome_map] at q
  rw [← q, ← l]
  exact h _ (I.tok _)
theorem n_notIn {Q : Value → Shared → Prop} (hu : A.units + 9 < cLine) (I : Inv X pins σ H s) (g : NGet X H a y o) (ry : RelV y u) (h : ∀ s', Inv X pins σ H s' → Q (.bool (!o.isSome)) s') : wpAny (model X.prog X.w) A (compareOp .NotIn u (.ref a)) Q E s := by
  obtain ⟨xs, b, d, e, hk, rfl, hd, kd, dd, l⟩ := g
  cases (show u = Value.ref b from ry)
  obtain ⟨z, zd, ys, rel, D⟩ := n_of I e hk
  refine wpAny_notIn_heap (knd := nestedKind X.prog X.w) (show A.units + 1 + 8 < cLine by omega) ⟨key_at I d _ _ kd hd rfl, Nat.le_trans (keyD_depth d) dd⟩ zd D ?_
  have q := (rel.val (keyD d)).isSome_eq
  rw [Option.isSome_map] at q
  rw [← q, ← l]
  exact h _ (I.tok _)
theorem n_item {Q : Value → Shared → Prop} (hu : A.units + 9 < cLine) (I : Inv X pins σ H s) (g : NGet X H a y (some v)) (ry : RelV y u) (h : ∀ w' s', Inv X pins σ H s' → RelV v w' → Q w' s') : wpAny (model X.prog X.w) A (getItem (.ref a) u) Q E s := by
  obtain ⟨xs, b, d, e, hk, rfl, hd, kd, dd, l⟩ := g
  cases (show u = Value.ref b from ry)
  obtain ⟨z, zd, ys, rel, D⟩ := n_of I e hk
  obtain ⟨w', hw, rw'⟩ := RelO.some_of (v := v) (o := (atKey ys (keyD d)).map (·.2)) (by rw [l]; exact rel.val _)
  obtain ⟨p, hp, hp2⟩ := Option.map_eq_some_iff.mp hw
  refine wpAny_getItem_heap (knd := nestedKind X.prog X.w) (show A.units + 1 + 8 < cLine by omega) ⟨key_at I d _ _ kd hd rfl, Nat.le_trans (keyD_depth d) dd⟩ D hp ?_
  rw [hp2]
  exact h w' _ (I.tok _) rw'
theorem n_set {H' : Hp} {Q : Unit → Shared → Prop} (hu : A.units + 9 < cLine) (I : Inv X pins σ H s) (g : NPut X H a y v H') (ry : RelV y u) (rv : RelV v r) (h : ∀ s', Inv X pins σ H' s' → Q () s') : wpAny (model X.prog X.w) A (setItem (.ref a) u r) Q E s := by
  obtain ⟨xs, b, d, e, hk, rfl, hd, kd, dd, l, rfl⟩ := g
  cases (show u = Value.ref b from ry)
  obtain ⟨z, zd, ys, rel, D⟩ := n_of I e hk
  have hz : ys.length ≤ sizeLine := by rw [← Paired.length rel]; exact z
  have hl : (putN xs (keyD d) b v).length ≤ sizeLine := by have := putN_len xs (keyD d) b v; omega
  refine wpAny_setItem_heap (hsz := hz) (knd := nestedKind X.prog X.w) (show A.units + 1 + 8 < cLine by omega) ⟨key_at I d _ _ kd hd rfl, Nat.le_trans (keyD_depth d) dd⟩ D fun h' D' hs => h _ ?_
  obtain ⟨q, es, ep, hq, h2, h3, h4, _, h5⟩ := D'
  exact d_write I (by rw [e]; exact True.intro) hs ⟨q, hq⟩ (NOk.obj ⟨hl, zd, _, rel.put _ b rv, q, es, ep, hq, h2, h3, h4, h5⟩)
end
/-! the rules -/
def tNNew (P : Program) (w : World) : TE := fun _ H Q => ∀ p, H p = none → Q (.ref p) (upd H p (DictN P w p []))
def tNIn (X : Cx) (n : Bool) (ty td : TE) : TE := fun σ H Q => ty σ H fun y H1 => td σ H1 fun x H2 => ∃ a o, x = .ref a ∧ NGet X H2 a y o ∧ Q (.bl (if n then !o.isSome else o.isSome)) H2
def tNGet (X : Cx) (td ty : TE) : TE := fun σ H Q => td σ H fun x H1 => ty σ H1 fun y H2 => ∃ a v, x = .ref a ∧ NGet X H2 a y (some v) ∧ Q v H2
def sNPut (X : Cx) (td ty tv : TE) : TS := fun D σ H => tv σ H fun v H1 => td σ H1 fun x H2 => ty σ H2 fun y H3 => ∃ a H4, x = .ref a ∧ NPut X H3 a y v H4 ∧ D.nx σ H4
section
variable {X : Cx} {o i value : PySem.Expr} {pos pos' : Pos} {td ty tv : TE}
theorem pe_nnew : PE X (.Dict [] [] pos) (tNNew X.prog X.w) := ⟨fun pins s σ H Q I h => by
  refine wpAny_Dict_empty ⟨.ref s.heap.objs.size, _, I.laid (a := s.heap.objs.size) (o := DictN X.prog X.w s.heap.objs.size []) (t' := s.toks) (fun _ _ q => Heap.get?_push_of_some _ q) (Nat.le_refl _) ?_, rfl, h _ (I.hok.fresh (Nat.le_refl _))⟩
  exact NOk.obj ⟨Nat.zero_le _, beq_eq_false_iff_ne.mpr (Ne.symm (Nat.ne_of_lt I.big)), [], .nil, _, #[], 0, Heap.get?_push_size _ rfl, ⟨rfl, rfl, rfl⟩, rfl, rfl, List.nodup_nil⟩⟩
theorem pc_nin (hu : X.A.units + 9 < cLine) (hi : PE X i ty) (ho : PE X o td) : PC X .In i o (tNIn X false ty td) := by
  refine ⟨fun pins s σ H Q I h => thn (hi.run pins s σ H _ I h) fun iv s1 ⟨y, H1, J1, ry, q1⟩ => thn (ho.run pins s1 σ H1 _ J1 q1) fun u s2 ⟨x, H2, J2, rx, a, ov, ex, g, q2⟩ => ?_⟩
  subst ex
  obtain rfl : u = Value.ref a := rx
  exact n_in hu J2 g ry fun s3 J3 => ⟨.bl ov.isSome, H2, J3, rfl, q2⟩
theorem pc_nnotin (hu : X.A.units + 9 < cLine) (hi : PE X i ty) (ho : PE X o td) : PC X .NotIn i o (tNIn X true ty td) := by
  refine ⟨fun pins s σ H Q I h => thn (hi.run pins s σ H _ I h) fun iv s1 ⟨y, H1, J1, ry, q1⟩ => thn (ho.run pins s1 σ H1 _ J1 q1) fun u s2 ⟨x, H2, J2, rx, a, ov, ex, g, q2⟩ => ?_⟩
  subst ex
  obtain rfl : u = Value.ref a := rx
  exact n_notIn hu J2 g ry fun s3 J3 => ⟨.bl (!ov.isSome), H2, J3, rfl, q2⟩
theorem ps_nput (hu : X.A.units + 9 < cLine) (ho : PE X o td) (hi : PE X i ty) (hv : PE X value tv) (hs : swapsWith value (some (.Subscript o i pos')) pos.line X.env = pure false) : PS X (.Assign [.Subscript o i pos'] value pos) (sNPut X td ty tv) := by
  refine ⟨fun pins s σ H D I h => wpAny_Assign_Subscript (thn (hv.run pins s σ H _ I h) fun r s1 ⟨v, H1, J1, rv, q1⟩ => thn (ho.run pins s1 σ H1 _ J1 q1) fun u s2 ⟨x, H2, J2, rx, q2⟩ => thn (hi.run pins s2 σ H2 _ J2 q2) fun iv s3 ⟨y, H3, J3, ry, a, H4, ex, g, q3⟩ => ?_) hs⟩
  subst ex
  obtain rfl : u = Value.ref a := rx
  exact n_set hu J3 g ry rv fun s4 J4 => ⟨σ, H4, J4, q3⟩
end
/-! the same, of typed data -/
abbrev DL (α : Type) := List (Addr × α × V)
def neL {α : Type} [Dat α] (l : DL α) : List Ne := l.map fun t => (keyD (Dat.py t.2.1), t.1, t.2.2)
def DictD (P : Program) (w : World) {α : Type} [Dat α] (a : Addr) (l : DL α) : HO := DictN P w a (neL l)
def hasD {α : Type} [DecidableEq α] (l : DL α) (x : α) : Bool := l.any fun t => decide (t.2.1 = x)
def putD {α : Type} [DecidableEq α] (l : DL α) (b : Addr) (x : α) (v : V) : DL α := if hasD l x = true then l.map (fun t => if t.2.1 = x then (t.1, t.2.1, v) else t) else l ++ [(b, x, v)]
def KeysD {α : Type} [Dat α] (H : Hp) (l : DL α) : Prop := ∀ t ∈ l, Is H (.ref t.1) t.2.1
class Kd (α : Type) [Dat α] : Prop where
  k : ∀ d : α, kable (Dat.py d) = true
instance : Kd Int := ⟨fun _ => by show kable (.int _) = true; rw [kable]⟩
theorem kd_all {α : Type} [Dat α] [Kd α] : ∀ l : List α, kables (l.map Dat.py) = true
  | [] => by rw [List.map_nil, kables]
  | d :: l => by rw [List.map_cons, kables, Kd.k, kd_all l]; rfl
instance {α : Type} [Dat α] [Kd α] : Kd (Tup α) := ⟨fun d => by show kable (.tuple (d.l.map Dat.py)) = true; rw [kable]; exact kd_all d.l⟩
instance {α β : Type} [Dat α] [Dat β] [Kd α] [Kd β] : Kd (T2 α β) := ⟨fun d => by
  show kable (.tuple [Dat.py d.a, Dat.py d.b]) = true
  rw [kable, kables, kables, kables, Kd.k, Kd.k]; rfl⟩
instance {α β γ : Type} [Dat α] [Dat β] [Dat γ] [Kd α] [Kd β] [Kd γ] : Kd (T3 α β γ) := ⟨fun d => by
  show kable (.tuple [Dat.py d.a, Dat.py d.b, Dat.py d.c]) = true
  rw [kable, kables, kables, kables, kables, Kd.k, Kd.k, Kd.k]; rfl⟩
section
variable {α : Type} [Dat α] [DecidableEq α] [Kd α]
theorem keyD_inj (a b : α) : (keyD (Dat.py a) = keyD (Dat.py b)) = (a = b) := propext ((keyD_eqv _ _ (Kd.k a) (Kd.k b)).trans (Dat.eqv a b))
theorem KeysD.n {K : PySem.W.Frag} {H : Hp} {l : DL α} (h : KeysD H l) (hl : Dat.dep α ≤ 8) : KeysN K H (neL l) := fun t m => by
  obtain ⟨x, mx, rfl⟩ := List.mem_map.mp m
  exact ⟨Dat.py x.2.1, rfl, Kd.k _, Nat.le_trans (Dat.depth _) hl, Dat.dp (h x mx)⟩
theorem KeysD.up {H H' : Hp} {l : DL α} (h : KeysD H l) (s : Same H H') : KeysD H' l := fun t m => Is.up (h t m) s
theorem valN_neL (x : α) : ∀ l : DL α, (valN (neL l) (keyD (Dat.py x))).isSome = hasD l x
  | [] => rfl
  | t :: l => by
    have ih := valN_neL x l
    unfold valN neL hasD at ih ⊢
    rw [List.map_cons, List.find?_cons, List.any_cons]
    simp only [keyD_inj] at ih ⊢
    by_cases e : t.2.1 = x
    · rw [decide_eq_true e]; rfl
    · rw [decide_eq_false e, Bool.false_or]; exact ih
theorem putN_neL (l : DL α) (b : Addr) (x : α) (v : V) : putN (neL l) (keyD (Dat.py x)) b v = neL (putD l b x v) := by
  unfold putN putD
  rw [valN_neL]
  by_cases h : hasD l x = true
  · rw [if_pos h, if_pos h]
    unfold neL
    rw [List.map_map, List.map_map]
    congr 1
    funext t
    simp only [Function.comp, keyD_inj]
    by_cases e : t.2.1 = x
    · rw [if_pos e, if_pos e]
    · rw [if_neg e, if_neg e]
  · rw [if_neg h, if_neg h]
    unfold neL
    rw [List.map_append]; rfl
theorem NGet.d {X : Cx} {P : Program} {w : World} {H : Hp} {a b : Addr} {l : DL α} {x : α} (h : H a = some (DictD P w a l)) (k : KeysD H l) (hx : Is H (.ref b) x) (hP : X.prog = P := by rfl) (hw : X.w = w := by rfl) (hl : Dat.dep α ≤ 8 := by decide) : NGet X H a (.ref b) (valN (neL l) (keyD (Dat.py x))) := by
  subst hP hw
  exact ⟨neL l, b, Dat.py x, h, k.n hl, rfl, Dat.dp hx, Kd.k x, Nat.le_trans (Dat.depth x) hl, rfl⟩
theorem NPut.d {X : Cx} {P : Program} {w : World} {H : Hp} {a b : Addr} {l : DL α} {x : α} {v : V} (h : H a = some (DictD P w a l)) (k : KeysD H l) (hx : Is H (.ref b) x) (z : l.length < sizeLine) (hP : X.prog = P := by rfl) (hw : X.w = w := by rfl) (hl : Dat.dep α ≤ 8 := by decide) : NPut X H a (.ref b) v (upd H a (DictD P w a (putD l b x v))) := by
  subst hP hw
  exact ⟨neL l, b, Dat.py x, h, k.n hl, rfl, Dat.dp hx, Kd.k x, Nat.le_trans (Dat.depth x) hl, by unfold neL; rw [List.length_map]; exact z, by rw [putN_neL]; rfl⟩
theorem hasD_put (l : DL α) (b : Addr) (x y : α) (v : V) : hasD (putD l b x v) y = (decide (x = y) || hasD l y) := by
  unfold putD
  by_cases h : hasD l x = true
  · rw [if_pos h]
    have e : hasD (l.map fun t => if t.2.1 = x then (t.1, t.2.1, v) else t) y = hasD l y := by
      unfold hasD
      rw [List.any_map]
      congr 1
      funext t
      show decide ((if t.2.1 = x then (t.1, t.2.1, v) else t).2.1 = y) = _
      split <;> rfl
    rw [e]
    by_cases c : x = y
    · subst c; rw [h, Bool.or_true]
    · rw [decide_eq_false c, Bool.false_or]
  · rw [if_neg h]
    unfold hasD
    rw [List.any_append, List.any_cons, List.any_nil, Bool.or_false, Bool.or_comm]
theorem KeysD.put {H : Hp} {l : DL α} {b : Addr} {x : α} {v : V} (h : KeysD H l) (hx : Is H (.ref b) x) : KeysD H (putD l b x v) := fun t m => by
  unfold putD at m
  by_cases c : hasD l x = true
  · rw [if_pos c] at m
    obtain ⟨t0, m0, rfl⟩ := List.mem_map.mp m
    have z := h t0 m0
    show Is H (.ref (if t0.2.1 = x then (t0.1, t0.2.1, v) else t0).1) (if t0.2.1 = x then (t0.1, t0.2.1, v) else t0).2.1
    split <;> exact z
  · rw [if_neg c] at m
    rcases List.mem_append.mp m with m | m
    · exact h t m
    · rw [List.mem_singleton.mp m]; exact hx
theorem putD_len (l : DL α) (b : Addr) (x : α) (v : V) : (putD l b x v).length ≤ l.length + 1 := by
  unfold putD
  split
  · rw [List.length_map]; omega
  · rw [List.length_append]; exact Nat.le_refl _
end
theorem units9 {k : Nat} {A : Around} (r : Room k A) : A.units + 9 < cLine := by have := r.un; omega
end
/-! ### sorted(..) of data; of a dict keyed by data -/
section
open PySem.Spec PyProof.Rows PySem.W
/-- any two compare -/
class Lk (α : Type) [Dat α] : Prop where
  k : ∀ a b : α, alike (Dat.py a) (Dat.py b) = true
instance : Lk Int := ⟨fun a b => by show alike (.int a) (.int b) = true; rw [alike]⟩
theorem lk_all {α : Type} [Dat α] [Lk α] : ∀ xs ys : List α, alikeAll (xs.map Dat.py) (ys.map Dat.py) = true
  | [], _ => by rw [List.map_nil, alikeAll]
  | _ :: _, [] => by rw [List.map_nil, List.map_cons, alikeAll]
  | x :: xs, y :: ys => by rw [List.map_cons, List.map_cons, alikeAll, Lk.k x y, lk_all xs ys]; rfl
instance {α : Type} [Dat α] [Lk α] : Lk (Tup α) := ⟨fun a b => by show alike (.tuple (a.l.map Dat.py)) (.tuple (b.l.map Dat.py)) = true; rw [alike]; exact lk_all a.l b.l⟩
instance {α : Type} [Dat α] [Lk α] : Lk (List α) := ⟨fun a b => by show alike (.list (a.map Dat.py)) (.list (b.map Dat.py)) = true; rw [alike]; exact lk_all a b⟩
instance {α β : Type} [Dat α] [Dat β] [Lk α] [Lk β] : Lk (T2 α β) := ⟨fun a b => by
  show alike (.tuple [Dat.py a.a, Dat.py a.b]) (.tuple [Dat.py b.a, Dat.py b.b]) = true
  rw [alike, alikeAll, alikeAll, alikeAll, Lk.k, Lk.k]; rfl⟩
instance {α β γ : Type} [Dat α] [Dat β] [Dat γ] [Lk α] [Lk β] [Lk γ] : Lk (T3 α β γ) := ⟨fun a b => by
  show alike (.tuple [Dat.py a.a, Dat.py a.b, Dat.py a.c]) (.tuple [Dat.py b.a, Dat.py b.b, Dat.py b.c]) = true
  rw [alike, alikeAll, alikeAll, alikeAll, alikeAll, Lk.k, Lk.k, Lk.k]; rfl⟩
/-- all tuples that hold something, or none a tuple -/
class So (α : Type) [Dat α] : Prop where
  k : (∀ a : α, ∃ x r, Dat.py a = .tuple (x :: r)) ∨ ∀ a : α, Dat.py a ≠ .none ∧ ∀ xs, Dat.py a ≠ .tuple xs
instance : So Int := ⟨.inr fun _ => ⟨(fun e => nomatch e), fun _ e => nomatch e⟩⟩
instance {α : Type} [Dat α] : So (List α) := ⟨.inr fun _ => ⟨(fun e => nomatch e), fun _ e => nomatch e⟩⟩
instance {α β : Type} [Dat α] [Dat β] : So (T2 α β) := ⟨.inl fun _ => ⟨_, _, rfl⟩⟩
instance {α β γ : Type} [Dat α] [Dat β] [Dat γ] : So (T3 α β γ) := ⟨.inl fun _ => ⟨_, _, rfl⟩⟩
/-- Python's sorted -/
def sortD {α : Type} [Dat α] (l : List α) : List α := l.mergeSort (dataLe false Dat.py)
theorem sortD_perm {α : Type} [Dat α] (l : List α) : (sortD l).Perm l := List.mergeSort_perm _ _
theorem each_of {α : Type} [Dat α] {H : Hp} : ∀ {xs : List V} {its : List Value} {ds : List α}, Vals xs its → IsAll H xs ds → EachIs (fun u d => ∃ v, RelV v u ∧ Is H v d) its ds
  | _, _, [], .nil, _ => .nil
  | _, _, d :: ds, .nil, h => by have := h.1; simp at this
  | _, _, [], .cons _ _, h => by have := h.1; simp at this
  | x :: xs, u :: us, d :: ds, .cons r rs, h => .cons ⟨x, r, h.2 0 x d rfl rfl⟩ (each_of rs ⟨by have := h.1; simpa using this, fun i a b p q => h.2 (i + 1) a b (by simpa using p) (by simpa using q)⟩)
theorem each_back {α : Type} [Dat α] {H : Hp} : ∀ {its : List Value} {ds : List α}, EachIs (fun u d => ∃ v, RelV v u ∧ Is H v d) its ds → ∃ xs, Vals xs its ∧ IsAll H xs ds
  | _, _, .nil => ⟨[], .nil, All2.nil⟩
  | _, _, .cons ⟨v, r, i⟩ t => by
    obtain ⟨xs, rs, al⟩ := each_back t
    exact ⟨v :: xs, .cons r rs, All2.cons i al⟩
/-- sorted(xs), xs a list of data -/
@[irreducible] def rSortN (K : PySem.W.Frag) : List V → Hp → VK → Prop := fun vs H Q => ∃ (α : Type) (_ : Dat α) (_ : Lk α) (_ : So α) (F : Hp) (a : Addr) (xs : List V) (ds : List α), vs = [.ref a] ∧ Same F H ∧ SqL K H a xs ∧ IsAll F xs ds ∧ Dat.dep α ≤ 64 ∧
  ∀ (ys : List V) (p : Addr), IsAll F ys (sortD ds) → H p = none → Q (.ref p) (upd H p (.lst ys))
theorem rSortN.mk {α : Type} [Dat α] [Lk α] [So α] {K : PySem.W.Frag} {F H : Hp} {Q : VK} {a : Addr} {xs : List V} {ds : List α} (sF : Same F H) (h : SqL K H a xs) (al : IsAll F xs ds) (q : ∀ (ys : List V) (p : Addr), IsAll F ys (sortD ds) → H p = none → Q (.ref p) (upd H p (.lst ys))) (hd : Dat.dep α ≤ 64 := by decide) : rSortN K [.ref a] H Q := by
  unfold rSortN
  exact ⟨α, inferInstance, inferInstance, inferInstance, F, a, xs, ds, rfl, sF, h, al, hd, q⟩
/-- sorted(d), d a dict keyed by data -/
@[irreducible] def rSortDN (X : Cx) : List V → Hp → VK → Prop := fun vs H Q => ∃ (α : Type) (_ : Dat α) (_ : Lk α) (_ : So α) (F : Hp) (a : Addr) (l : DL α), vs = [.ref a] ∧ Same F H ∧ H a = some (DictD X.prog X.w a l) ∧ KeysD F l ∧ Dat.dep α ≤ 64 ∧
  ∀ (ys : List V) (p : Addr), IsAll F ys (sortD (l.map (·.2.1))) → H p = none → Q (.ref p) (upd H p (.lst ys))
theorem rSortDN.mk {α : Type} [Dat α] [Lk α] [So α] {X : Cx} {P : Program} {w : World} {F H : Hp} {Q : VK} {a : Addr} {l : DL α} (sF : Same F H) (h : H a = some (DictD P w a l)) (k : KeysD F l) (q : ∀ (ys : List V) (p : Addr), IsAll F ys (sortD (l.map (·.2.1))) → H p = none → Q (.ref p) (upd H p (.lst ys))) (hd : Dat.dep α ≤ 64 := by decide) (hP : X.prog = P := by rfl) (hw : X.w = w := by rfl) : rSortDN X [.ref a] H Q := by
  have h' : H a = some (DictD X.prog X.w a l) := by rw [hP, hw]; exact h
  unfold rSortDN
  exact ⟨α, inferInstance, inferInstance, inferInstance, F, a, l, rfl, sF, h', k, hd, q⟩
theorem rel_at : ∀ {xs : List Ne} {ys : List (NestedKey × Addr × Value)}, RelN xs ys → ∀ {j : Nat} {x : Ne}, xs[j]? = some x → ∃ y, ys[j]? = some y ∧ (x.1 = y.1 ∧ x.2.1 = y.2.1 ∧ RelV x.2.2 y.2.2)
  | _, _, .nil, j, x, e => by cases e
  | _, _, .cons h t, 0, x, e => by cases e; exact ⟨_, rfl, h⟩
  | _, _, .cons h t, j + 1, x, e => rel_at t (show _ = some x from e)
theorem vals_refs {α : Type} : ∀ l : DL α, Vals (l.map fun t => V.ref t.1) (l.map fun t => Value.ref t.1)
  | [] => .nil
  | t :: l => .cons rfl (vals_refs l)
theorem acc_eq {P : Program} {w : World} {α : Type} [Dat α] {l : DL α} {ys0 : List (NestedKey × Addr × Value)} {es : Array DictEntry} {acc : Array Value} (rel : RelN (neL l) ys0) (hes : es.toList = ys0.map (entryOfKey (nestedKind P w))) (hn : acc.size = es.size)
    (h : ∀ (i : Nat) (v : Value), acc[i]? = some v → ∃ hi : i < es.size, v = es[i].key) : acc.toList = l.map fun t => Value.ref t.1 := by
  have l0 : ys0.length = l.length := by
    have := Paired.length rel
    unfold neL at this
    rw [List.length_map] at this
    exact this.symm
  have l1 : es.size = l.length := by rw [← Array.length_toList, hes, List.length_map, l0]
  refine List.ext_getElem (by rw [Array.length_toList, hn, l1, List.length_map]) fun j h1 h2 => ?_
  have h1' : j < acc.size := by rw [Array.length_toList] at h1; exact h1
  have h2' : j < l.length := by rw [List.length_map] at h2; exact h2
  have hy : j < ys0.length := by omega
  have z := h j acc[j] (Array.getElem?_eq_getElem h1')
  have jn : (neL l)[j]? = some (keyD (Dat.py l[j].2.1), l[j].1, l[j].2.2) := by
    unfold neL
    rw [List.getElem?_map, List.getElem?_eq_getElem h2']; rfl
  have y := rel_at rel jn
  rw [List.getElem?_eq_getElem hy] at y
  have ry := y.choose_spec
  have ey : ys0[j] = y.choose := Option.some.inj ry.1
  have he : es.toList[j]? = some (entryOfKey (nestedKind P w) ys0[j]) := by rw [hes, List.getElem?_map, List.getElem?_eq_getElem hy]; rfl
  rw [Array.getElem?_toList, Array.getElem?_eq_getElem (by omega)] at he
  rw [Array.getElem_toList, List.getElem_map, z.choose_spec, Option.some.inj he]
  show Value.ref ys0[j].2.1 = Value.ref l[j].1
  rw [ey, ← ry.2.2.1]
theorem sort_new {prog : Program} {w : World} {A : Around} {E : Value → Shared → Prop} {s : Shared} {β : Type} {vs : List Value} {bs : List β} {enc : β → PyData} {R : Value → β → Prop} {a : Addr} {n : Nat} {P : PySem.Fin → Shared → Prop}
    (ho : s.heap.get? a = some (seqObj "list" vs.toArray n)) (e : EachIs R vs bs) (er' : EachIs (fun v b => ∃ as, Reads (sortingHeap s.heap a vs) v (enc b) as) vs bs) (hal : AllAlike (bs.map enc)) (hk : Sortable (bs.map enc)) (hL : vs.length ≤ sizeLine) (hu : ∀ b, b ∈ bs → A.units + (enc b).depth < cLine)
    (h : ∀ out : List Value, out.length = bs.length → EachIs R out (bs.mergeSort (dataLe false enc)) → P (.done (.ret .none)) { s with heap := sortedHeap s.heap a vs out.toArray }) : wpAny (model prog w) A (Builtin.«list.sort» ⟨[.ref a], []⟩) P E s :=
  list_sort_vals (κ := dataKind (sortingHeap s.heap a vs) (bs.map enc)) ho (SortsAt.data (s := { s with heap := sortingHeap s.heap a vs }) (each_map (R := fun v d => ∃ as, Reads (sortingHeap s.heap a vs) v d as) enc er') hal hk (bound_map hu)) hL
    (h _ (by rw [sortVals_length false rfl]; exact e.length) (sortVals_data false e er' hal))
section
variable {X : Cx}
theorem call_sortN (hu : X.A.units + 66 < cLine) : CallR X (.builtin "sorted") (rSortN X.K) := by
  intro pins s σ H vs us Q I r h
  unfold rSortN at h
  obtain ⟨α, i1, i2, i3, F, a, xs, ds, rfl, sF, hs, al, hd, q⟩ := h
  obtain ⟨its, rv, hl, hz⟩ := I.list hs
  rw [Vals.ref1 r]
  have e := each_of rv al
  have er : EachIs (fun u d => ∃ as, Reads s.heap u (Dat.py d) as) its ds := e.mono fun u d ⟨v, r1, i⟩ => Dp.reads I _ v u (Dat.dp (Is.up i sF)) r1
  refine sorted_data (enc := Dat.py) hl.isList e er (AllAlike.of Lk.k) ?_ (by rw [← al.1]; exact hz) (fun d _ => by have := Dat.depth d; omega) fun out ol eo => ?_
  · rcases So.k (α := α) with h | h
    · exact Sortable.tuples h
    · exact Sortable.others h
  · obtain ⟨ys, r2, al2⟩ := each_back eo
    obtain ⟨n, hn⟩ := sortedAll_at s.heap its (List.toArray out)
    have ly : ys.length ≤ sizeLine := by rw [r2.length, ol, ← al.1]; exact hz
    exact ⟨.ref (s.heap.objs.size + 1), upd H (s.heap.objs.size + 1) (.lst ys), I.laid (t' := s.toks) (fun b o e => sortedAll_old e) (Nat.le_succ _) ⟨ly, out, n, r2, hn⟩, rfl, q ys _ al2 (I.hok.fresh (Nat.le_succ _))⟩
theorem call_sortDN (hc : X.calm = true) (hu : X.A.units + 66 < cLine) : CallR X (.builtin "sorted") (rSortDN X) := by
  intro pins s σ H vs us Q I r h
  unfold rSortDN at h
  obtain ⟨α, i1, i2, i3, F, a, l, rfl, sF, hH, hk, hd, q⟩ := h
  rw [Vals.ref1 r]
  obtain ⟨⟨hz, lo, ys0, rel, o, es, ep, ho, hx, hdat, hes, hnd⟩, _, _⟩ := I.hok a _ hH
  have esz : es.size = (neL l).length := by rw [← Array.length_toList, hes, List.length_map, ← Paired.length rel]
  have raw : s.heap.DictRaw a es ep := ⟨o, ho, hx, hdat⟩
  refine Calls.call_function_entry PyProof.Rows.kind_sorted PyProof.Rows.plain_sorted PyProof.Rows.entry_sorted (PyProof.Rows.args_sorted1 _) ?_
  unfold Builtin.«sorted»
  refine wpAny_bind (m := checkCount "sorted" 1 1 _) (wpAny_pure (wpAny_bind (kdu_collect (A := X.A.in1) (KdlSrc.rawDict lo) (I.ok.hd hc) raw (by rw [esz]; exact hz) fun h' tk acc hk' hacc => ?_)))
  have J : Inv X pins σ H { s with heap := h', toks := tk } := I.kept hk'
  have eacc : acc.toList = l.map fun t => Value.ref t.1 := acc_eq rel hes hacc.1 hacc.2
  have rv : Vals (l.map fun t => V.ref t.1) acc.toList := by rw [eacc]; exact vals_refs l
  have al : IsAll F (l.map fun t => V.ref t.1) (l.map fun t => t.2.1) := ⟨by rw [List.length_map, List.length_map], fun i x y hx hy => by
    rw [List.getElem?_map] at hx hy
    obtain ⟨t, ht, rfl⟩ := Option.map_eq_some_iff.mp hx
    obtain ⟨t', ht', rfl⟩ := Option.map_eq_some_iff.mp hy
    cases ht.symm.trans ht'
    exact hk t (List.mem_of_getElem? ht)⟩
  have hlen : acc.toList.length ≤ sizeLine := by rw [eacc, List.length_map]; unfold neL at hz; rw [List.length_map] at hz; exact hz
  have e := each_of rv al
  have er : EachIs (fun u d => ∃ as, Reads h' u (Dat.py d) as) acc.toList (l.map fun t => t.2.1) := e.mono fun u d ⟨v, r1, i⟩ => Dp.reads J _ v u (Dat.dp (Is.up i sF)) r1
  refine wpAny_bind (wpAny_newList ?_ hlen)
  have hoL : (h'.push (seqObj "list" acc.toList.toArray 0)).get? h'.objs.size = some (seqObj "list" acc.toList.toArray 0) := Heap.get?_push_size _ rfl
  show wpAny _ _ _ _ _ { s with heap := h'.push (seqObj "list" acc.toList.toArray 0), toks := tk }
  have er' : EachIs (fun u d => ∃ as, Reads (sortingHeap (h'.push (seqObj "list" acc.toList.toArray 0)) h'.objs.size acc.toList) u (Dat.py d) as) acc.toList (l.map fun t => t.2.1) := er.mono fun _ _ ⟨as, r⟩ => ⟨as, Reads.keeps (fun b o e => sortingHeap_old (Nat.ne_of_lt (Heap.lt_size e)) (Heap.get?_push_of_some _ e)) r⟩
  refine wpAny_bind (wpAny_holding (wpAny_call_entry PyProof.Rows.slot_list_sort ⟨_, hoL, rfl⟩ PyProof.Rows.entry_list_sort
    (sort_new (s := { s with heap := h'.push (seqObj "list" acc.toList.toArray 0), toks := tk }) (enc := Dat.py) hoL e er' (AllAlike.of Lk.k) ?_ hlen (fun d _ => ?_) fun out ol so => ⟨_, rfl, ?_⟩) (PyProof.Rows.args_list_sort _)))
  · rcases So.k (α := α) with h | h
    · exact Sortable.tuples h
    · exact Sortable.others h
  · have := Dat.depth d
    show X.A.units + 2 + _ < cLine
    omega
  · obtain ⟨ys, r2, al2⟩ := each_back so
    obtain ⟨e', he'⟩ := PyProof.Rows.sortedHeap_at (vs := acc.toList) (out := out.toArray) hoL
    have ly : ys.length ≤ sizeLine := by rw [r2.length, ol, ← e.length]; exact hlen
    refine wpAny_pure ⟨_, rfl, .ref h'.objs.size, upd H h'.objs.size (.lst ys), J.laid (t' := tk) (fun b u e => ?_) (Nat.le_refl _) (show ObjOk X.prog X.w _ _ _ (.lst ys) from ⟨ly, out, e', r2, he'⟩), rfl, q ys _ al2 (J.hok.fresh (Nat.le_refl _))⟩
    have hb : b < h'.objs.size := Heap.lt_size e
    rw [PyProof.Rows.sortedHeap_old (Nat.ne_of_lt hb) (by rw [Heap.size_push]; exact Nat.lt_succ_of_lt hb)]
    exact Heap.get?_push_of_some _ e
end
end
theorem units66 {k : Nat} {A : Around} (r : Room k A) : A.units + 66 < cLine := by have := r.un; omega
/-! ### tuples known to the object; dict(tuple of pairs) -/
section
open PySem.Spec PyProof.Rows
/-- a tuple whose object is known to have no dict of its own -/
def FT (H : Hp) (a : Addr) (xs : List V) : Prop := ∃ o : Obj, H a = some (.frz o (.tup xs)) ∧ o.dict = none
theorem FT.up {H H' : Hp} {a : Addr} {xs : List V} (h : FT H a xs) (s : Same H H') : FT H' a xs := let ⟨o, e, d⟩ := h; ⟨o, s _ _ e, d⟩
theorem FT.sq {K : PySem.W.Frag} {H : Hp} {a : Addr} {xs : List V} (h : FT H a xs) : SqT K H a xs := let ⟨o, e, _⟩ := h; .inl (.inr ⟨o, e⟩)
def tTupF (t : TA) : TE := fun σ H Q => t σ H fun xs H1 => xs.length ≤ sizeLine ∧ ∀ (p : Addr) (o : Obj), o.dict = none → H1 p = none → Q (.ref p) (upd H1 p (.frz o (.tup xs)))
section
variable {X : Cx} {es : List PySem.Expr} {t : TA} {pos : Pos}
theorem pe_tupF {x1} (h : PA X es t) : PE X (.Tuple es x1 pos) (tTupF t) := by
  refine ⟨fun pins s σ H Q I hq => ?_⟩
  refine wpAny_Tuple_spliced (thn (h.run pos pins s σ H _ I hq) fun us s1 ⟨xs, H1, I1, r, z, q⟩ => ⟨by rw [← r.length]; exact z, ?_⟩)
  have hf : H1 s1.heap.objs.size = none := I1.hok.fresh (Nat.le_refl _)
  refine ⟨.ref s1.heap.objs.size, upd H1 s1.heap.objs.size (.frz { cls := .type "tuple", data := .seq us.toArray } (.tup xs)), I1.laid (t' := s1.toks) (fun b u e => Heap.get?_push_of_some _ e) (Nat.le_refl _) ?_, rfl, q _ _ rfl hf⟩
  exact ⟨Heap.get?_push_size _ rfl, z, us, r, ⟨_, Heap.get?_push_size _ rfl, rfl, _, rfl⟩⟩
/-- tuple(xs) of a list -/
@[irreducible] def rTupF (K : PySem.W.Frag) : List V → Hp → VK → Prop := fun xs H Q => ∃ p ys, xs = [.ref p] ∧ SqL K H p ys ∧ ∀ (l : Addr) (o : Obj), o.dict = none → H l = none → Q (.ref l) (upd H l (.frz o (.tup ys)))
theorem rTupF.mk {K : PySem.W.Frag} {H : Hp} {Q : VK} {p : Addr} {ys : List V} (h : SqL K H p ys) (q : ∀ (l : Addr) (o : Obj), o.dict = none → H l = none → Q (.ref l) (upd H l (.frz o (.tup ys)))) : rTupF K [.ref p] H Q := by
  unfold rTupF; exact ⟨p, ys, rfl, h, q⟩
theorem call_tupF : CallR X (.type "tuple") (rTupF X.K) := by
  intro pins s σ H xs us Q I r h
  unfold rTupF at h
  obtain ⟨p, ys, rfl, hq, q⟩ := h
  rw [Vals.ref1 r]
  obtain ⟨its, r', pl, hz⟩ := I.list hq
  have hlen := r'.length
  refine call_tuple_list pl.isList (fun h' kp => ?_) (by simp only [List.size_toArray]; omega)
  have I1 : Inv X pins σ H { s with heap := h' } := I.kept (t' := s.toks) kp
  have I2 : Inv X pins σ (upd H h'.objs.size (.frz { cls := .type "tuple", data := .seq its.toArray } (.tup ys))) { s with heap := h'.push { cls := .type "tuple", data := .seq its.toArray } } :=
    I1.laid (t' := s.toks) (fun b o e => Heap.get?_push_of_some _ e) (Nat.le_refl _) (show ObjOk X.prog X.w _ _ _ (.frz _ (.tup ys)) from ⟨Heap.get?_push_size _ rfl, hz, its, r', IsTup.new _ _⟩)
  exact ⟨.ref h'.objs.size, _, I2, rfl, q _ _ rfl (I1.hok.fresh (Nat.le_refl _))⟩
theorem pairsV {pins : List (Addr × Obj)} {σ : L2.St} {H : Hp} {s : Shared} (I : Inv X pins σ H s) : ∀ {ps : List Addr} {kvs : List (Key × V)}, Paired (fun p kv => SqT X.K H p [kV kv.1, kv.2]) ps kvs →
    ∃ (prs : List (Key × Value)) (pv : List (Value × Value)), KV kvs prs ∧ prs.length = ps.length ∧ pv.length = ps.length ∧ ∀ (j : Nat) (k v : Value), pv[j]? = some (k, v) → ∃ (b : Addr) (q : Key), ps[j]? = some b ∧ IsTup s.heap b #[k, v] ∧ prs[j]? = some (q, v) ∧ keyIs q k = true
  | _, _, .nil => ⟨[], [], .nil, rfl, rfl, fun j k v e => by simp at e⟩
  | _, _, .cons (a := p) (b := kv) h t => by
    obtain ⟨prs, pv, r, hl, hl2, hp⟩ := pairsV I t
    obtain ⟨its, rv, ht, _⟩ := I.tuple h
    obtain ⟨u, y, ei, ru, ry⟩ := vals2 rv
    subst ei
    refine ⟨(kv.1, y) :: prs, (u, y) :: pv, .cons ⟨rfl, ry⟩ r, by rw [List.length_cons, List.length_cons, hl], by rw [List.length_cons, List.length_cons, hl2], fun j k v e => ?_⟩
    cases j with
    | zero =>
      have e' : (u, y) = (k, v) := Option.some.inj e
      cases e'
      exact ⟨p, kv.1, rfl, ht, rfl, kV_is (P := X.prog) (w := X.w) ru⟩
    | succ j =>
      obtain ⟨b, q, e1, e2, e3, e4⟩ := hp j k v (by simpa using e)
      exact ⟨b, q, by simpa using e1, e2, by simpa using e3, e4⟩
/-- dict(t), t a tuple of pairs -/
@[irreducible] def rDictT (K : PySem.W.Frag) : List V → Hp → VK → Prop := fun xs H Q => ∃ (a : Addr) (ps : List Addr) (kvs : List (Key × V)), xs = [.ref a] ∧ FT H a (ps.map V.ref) ∧ Paired (fun p kv => SqT K H p [kV kv.1, kv.2]) ps kvs ∧ ∀ p, H p = none → Q (.ref p) (upd H p (.dK (mergeK [] kvs)))
theorem rDictT.mk {K : PySem.W.Frag} {H : Hp} {Q : VK} {a : Addr} {ps : List Addr} {kvs : List (Key × V)} (h : FT H a (ps.map V.ref)) (hp : Paired (fun p kv => SqT K H p [kV kv.1, kv.2]) ps kvs) (q : ∀ p, H p = none → Q (.ref p) (upd H p (.dK (mergeK [] kvs)))) : rDictT K [.ref a] H Q := by
  unfold rDictT; exact ⟨a, ps, kvs, rfl, h, hp, q⟩
theorem call_dictT (hcalm : X.calm = true) : CallR X (.type "dict") (rDictT X.K) := by
  intro pins s σ H xs us Q I r q
  unfold rDictT at q
  obtain ⟨a, ps, kvs, rfl, ⟨o, hH, hdn⟩, hp, q⟩ := q
  rw [Vals.ref1 r]
  obtain ⟨ho, hz, its, rv, o', ho', hc', n, hdat⟩ := I.hok a _ hH
  cases ho.symm.trans ho'
  have ei := refs_at rv
  subst ei
  rw [List.length_map] at hz
  obtain ⟨prs, pv, rel, hl, hl2, hpr⟩ := pairsV I hp
  have pl : PlainSeq "tuple" s.heap a (ps.map Value.ref).toArray := ⟨o, n, ho, hc', hdn, hdat⟩
  have pit : PairItems s.heap (ps.map Value.ref).toArray (fun j => (ps[j]?).getD 0) pv := ⟨by rw [List.size_toArray, List.length_map, hl2], fun j k v e => by
    obtain ⟨b, q', e1, e2, _, _⟩ := hpr j k v e
    refine ⟨?_, .inl ?_⟩
    · show (ps.map Value.ref).toArray[j]? = some (Value.ref ((ps[j]?).getD 0))
      rw [e1, List.getElem?_toArray, List.getElem?_map, e1]; rfl
    · show s.heap.IsTuple ((ps[j]?).getD 0) #[k, v]
      rw [e1]
      exact e2⟩
  refine PySem.call_dict_pairs (knd := mixKind X.prog X.w) (kvs := prs) (PairArg.tuple a _ _ pv) (I.ok.hd hcalm) ⟨pl, pit⟩ ⟨by rw [hl, hl2], fun i key v hrel => ?_⟩ (by rw [hl2]; exact hz) fun h' tk hd' k => ?_
  · obtain ⟨b, q', _, _, e3, e4⟩ := hpr i key v hrel
    exact ⟨q', e3, e4⟩
  · have hm : (s.heap.objs.size == sysModules) = false := beq_eq_false_iff_ne.mpr (Nat.ne_of_gt I.big)
    have hlen : (mergeK [] kvs).length ≤ sizeLine := by
      refine Nat.le_trans (length_mergeK kvs []) ?_
      rw [List.length_nil, Nat.zero_add, rel.length, hl]
      exact hz
    exact ⟨.ref s.heap.objs.size, upd H s.heap.objs.size (.dK (mergeK [] kvs)), I.laid (t' := tk) (fun b o e => k b o (fun z => nomatch z) e) (Nat.le_refl _) (show ObjOk X.prog X.w _ _ _ (.dK (mergeK [] kvs)) from ⟨hlen, hm, merged [] prs, KV.merge rel .nil, hd'⟩), rfl, q _ (I.hok.fresh (Nat.le_refl _))⟩
end
/-- a tuple of data, its object known -/
structure PTup (α : Type) where
  l : List α
  deriving DecidableEq
instance {α : Type} [Dat α] : Dat (PTup α) where
  rep := fun H v l => ∃ a xs, v = .ref a ∧ FT H a xs ∧ IsAll H xs l.l
  mono := fun s h => by
    obtain ⟨a, xs, e, h, i⟩ := h
    exact ⟨a, xs, e, h.up s, IsAll.up i s⟩
  py := fun l => .tuple (l.l.map Dat.py)
  dp := fun h => by
    obtain ⟨a, xs, rfl, h, i⟩ := h
    exact .tup h.sq (dp_all i)
  can := fun d => can_all d.l
  dep := Dat.dep α + 1
  depth := fun d => Nat.succ_le_succ (depth_all d.l)
  eqv := fun a b => by
    rw [PyData.eqv, eqv_all]
    obtain ⟨a⟩ := a; obtain ⟨b⟩ := b
    simp
instance {α : Type} [Dat α] [Kd α] : Kd (PTup α) := ⟨fun d => by show kable (.tuple (d.l.map Dat.py)) = true; rw [kable]; exact kd_all d.l⟩
instance {α : Type} [Dat α] [Lk α] : Lk (PTup α) := ⟨fun a b => by show PySem.W.alike (.tuple (a.l.map Dat.py)) (.tuple (b.l.map Dat.py)) = true; rw [PySem.W.alike]; exact lk_all a.l b.l⟩
instance {α : Type} [Dat α] : Big (PTup α) := ⟨fun d => .inl ⟨_, rfl⟩⟩
end
/-! ### dicts of ints compared, alone and behind two ints in a tuple -/
def sameD (l m : List PI) : Bool := l.length == m.length && l.all fun p => decide (look m p.a = some p.b)
theorem nd_sub_len {α : Type} [DecidableEq α] : ∀ {l m : List α}, l.Nodup → (∀ x ∈ l, x ∈ m) → l.length ≤ m.length
  | [], _, _, _ => Nat.zero_le _
  | x :: l, m, h, s => by
    have hx := s x List.mem_cons_self
    have h' := List.nodup_cons.mp h
    have k := nd_sub_len (l := l) (m := m.erase x) h'.2 fun y hy => (List.mem_erase_of_ne fun e => h'.1 (by rw [← e]; exact hy)).mpr (s y (List.mem_cons_of_mem _ hy))
    rw [List.length_erase_of_mem hx] at k
    have := List.length_pos_of_mem hx
    rw [List.length_cons]
    omega
theorem sameD_iff {l m : List PI} (hl : Nd l) (hm : Nd m) : sameD l m = true ↔ ∀ x, look l x = look m x := by
  unfold sameD
  rw [Bool.and_eq_true, beq_iff_eq, List.all_eq_true]
  constructor
  · rintro ⟨e, h⟩ x
    have sub : ∀ y ∈ l.map (·.a), y ∈ m.map (·.a) := fun y hy => by
      obtain ⟨p, hp, rfl⟩ := List.mem_map.mp hy
      have := of_decide_eq_true (h p hp)
      exact List.mem_map.mpr ⟨_, mem_look this, rfl⟩
    cases f : look l x with
    | some v => exact (of_decide_eq_true (h ⟨x, v⟩ (mem_look f))).symm
    | none =>
      cases g : look m x with
      | none => rfl
      | some v =>
        exfalso
        have hx : x ∈ m.map (·.a) := List.mem_map.mpr ⟨_, mem_look g, rfl⟩
        have nx := look_none.mp f
        have k := nd_sub_len (l := x :: l.map fun p : PI => p.a) (m := m.map fun p : PI => p.a) (List.nodup_cons.mpr ⟨nx, hl⟩) fun y hy => by
          rcases List.mem_cons.mp hy with rfl | hy
          · exact hx
          · exact sub y hy
        rw [List.length_cons, List.length_map, List.length_map] at k
        omega
  · intro h
    have a : ∀ {l m : List PI}, Nd l → (∀ x, look l x = look m x) → ∀ y ∈ l.map (·.a), y ∈ m.map (·.a) := fun {l m} hl h y hy => by
      obtain ⟨p, hp, rfl⟩ := List.mem_map.mp hy
      have := look_mem hl hp
      rw [h] at this
      exact List.mem_map.mpr ⟨_, mem_look this, rfl⟩
    refine ⟨?_, fun p hp => decide_eq_true (by rw [← h]; exact look_mem hl hp)⟩
    have k1 := nd_sub_len hl (a hl h)
    have k2 := nd_sub_len hm (a hm fun x => (h x).symm)
    rw [List.length_map, List.length_map] at k1 k2
    omega
theorem sameD_self {l : List PI} (hl : Nd l) : sameD l l = true := (sameD_iff hl hl).mpr fun _ => rfl
theorem dI_inj : ∀ {l m : List PI}, dI l = dI m → l = m
  | [], [], _ => rfl
  | [], _ :: _, h => by cases h
  | _ :: _, [], h => by cases h
  | p :: l, q :: m, h => by
    obtain ⟨a, b⟩ := p
    obtain ⟨a', b'⟩ := q
    have h : (Sum.inl a, V.int b) :: dI l = (Sum.inl a', V.int b') :: dI m := h
    injection h with h1 h2
    cases h1
    rw [dI_inj h2]
section
open PySem.Spec PyProof.Rows
variable {X : Cx}
def eK (l m : List PI) : Key → Bool
  | .inl i => decide (look l i = look m i)
  | .inr _ => false
theorem kv_mem : ∀ {l : List PI} {va : List (Key × Value)}, KV (dI l) va → ∀ {k : Key} {v : Value}, (k, v) ∈ va → ∃ p ∈ l, k = Sum.inl p.a ∧ ∃ t, v = .int p.b t
  | [], va, r, k, v, h => by
    cases r
    cases h
  | p :: l, va, r, k, v, h => by
    cases r with
    | @cons _ q _ qs hr t =>
      obtain ⟨h1, h2⟩ := hr
      rcases List.mem_cons.mp h with e | h
      · subst e
        exact ⟨p, List.mem_cons_self, h1.symm, h2⟩
      · obtain ⟨p', m, e, f⟩ := kv_mem (l := l) t h
        exact ⟨p', List.mem_cons_of_mem _ m, e, f⟩
theorem kv_all (f : Key → Bool) : ∀ {l : List PI} {va : List (Key × Value)}, KV (dI l) va → (va.all fun p => f p.1) = l.all fun p => f (Sum.inl p.a)
  | [], va, r => by
    cases r
    rfl
  | p :: l, va, r => by
    cases r with
    | @cons _ q _ qs hr t =>
      obtain ⟨h1, _⟩ := hr
      have h1 : Sum.inl p.a = q.1 := h1
      rw [List.all_cons, List.all_cons, kv_all f (l := l) t, ← h1]
theorem kv_at {m : List PI} {vb : List (Key × Value)} (r : KV (dI m) vb) (i : Int) : (look m i = none ∧ valueAt vb (Sum.inl i : Key) = none) ∨ ∃ z t, look m i = some z ∧ valueAt vb (Sum.inl i : Key) = some (.int z t) := by
  have h := r.val (Sum.inl i)
  rw [dI_val] at h
  cases e : look m i with
  | none =>
    rw [e] at h
    cases f : valueAt vb (Sum.inl i : Key) with
    | none => exact .inl ⟨rfl, rfl⟩
    | some y => rw [f] at h; cases h
  | some z =>
    rw [e] at h
    cases f : valueAt vb (Sum.inl i : Key) with
    | none => rw [f] at h; cases h
    | some y =>
      rw [f] at h
      obtain ⟨t, rfl⟩ : ∃ t, y = Value.int z t := h
      exact .inr ⟨z, t, rfl, rfl⟩
theorem leaf_int {s : Shared} {n : Nat} {i j : Int} {t u : Tok} : PySem.W.EqTree X.prog X.w s n (.int i t) (.int j u) (decide (i = j)) := by
  refine .leaf fun A _ => ?_
  have e : decide (i = j) = (i == j) := by
    rw [Bool.eq_iff_iff, decide_eq_true_iff, beq_iff_eq]
  rw [e]
  exact SeqAt.EqAt.int_int _ _ _ _
theorem dict_leaf {s : Shared} {l m : List PI} {va vb : List (Key × Value)} (nd : Nd l) (ra : KV (dI l) va) (rb : KV (dI m) vb) : ∀ k v y, (k, v) ∈ va → valueAt vb k = some y → PySem.W.EqTree X.prog X.w s 0 v y (eK l m k) := by
  intro k v y hm hv
  obtain ⟨p, hp, rfl, t, rfl⟩ := kv_mem ra hm
  rcases kv_at rb p.a with ⟨_, f⟩ | ⟨z, u, e, f⟩
  · rw [f] at hv; cases hv
  · rw [f] at hv
    cases hv
    have e2 : eK l m (Sum.inl p.a) = decide (p.b = z) := by
      show decide (look l p.a = look m p.a) = _
      rw [look_mem nd hp, e, Bool.eq_iff_iff, decide_eq_true_iff, decide_eq_true_iff]
      exact ⟨Option.some.inj, fun h => by rw [h]⟩
    rw [e2]
    exact leaf_int
theorem same_all {l m : List PI} {va vb : List (Key × Value)} (nd : Nd l) (ra : KV (dI l) va) (rb : KV (dI m) vb) : (va.length == vb.length && va.all fun p => (valueAt vb p.1).isSome && eK l m p.1) = sameD l m := by
  have el : va.length = l.length := by rw [← ra.length]; unfold dI; rw [List.length_map]
  have em : vb.length = m.length := by rw [← rb.length]; unfold dI; rw [List.length_map]
  unfold sameD
  rw [el, em]
  have e := kv_all (fun k => (valueAt vb k).isSome && eK l m k) ra
  rw [e]
  congr 1
  rw [Bool.eq_iff_iff, List.all_eq_true, List.all_eq_true]
  have key : ∀ p ∈ l, ((valueAt vb (Sum.inl p.a : Key)).isSome && eK l m (Sum.inl p.a)) = decide (look m p.a = some p.b) := fun p hp => by
    show ((valueAt vb (Sum.inl p.a : Key)).isSome && decide (look l p.a = look m p.a)) = _
    rw [look_mem nd hp]
    rcases kv_at rb p.a with ⟨e, f⟩ | ⟨z, u, e, f⟩
    · rw [e, f]; rfl
    · rw [e, f]
      show (true && decide (some p.b = some z)) = decide (some z = some p.b)
      rw [Bool.true_and, Bool.eq_iff_iff, decide_eq_true_iff, decide_eq_true_iff]
      exact eq_comm
  exact ⟨fun h p hp => by rw [← key p hp]; exact h p hp, fun h p hp => by rw [key p hp]; exact h p hp⟩
theorem tri {a b c : V} {us : List Value} (r : Vals [a, b, c] us) : ∃ u1 u2 u3, us = [u1, u2, u3] ∧ RelV a u1 ∧ RelV b u2 ∧ RelV c u3 := by
  cases r with
  | cons h1 r =>
    cases r with
    | cons h2 r =>
      cases r with
      | cons h3 r =>
        cases r
        exact ⟨_, _, _, rfl, h1, h2, h3⟩
/-- d == e, dicts of ints -/
def rEqDi : R2 := fun x y H Q => ∃ a b l m, x = .ref a ∧ y = .ref b ∧ H a = some (.dK (dI l)) ∧ H b = some (.dK (dI m)) ∧ Nd l ∧ Q (.bl (sameD l m)) H
theorem op_eqDi (hu : X.A.units + 64 < cLine) : OpR X (compareOp .Eq) rEqDi := by
  intro pins s σ H x y v u Q I rx ry h
  obtain ⟨a, b, l, m, rfl, rfl, ea, eb, nd, q⟩ := h
  obtain rfl : v = Value.ref a := rx
  obtain rfl : u = Value.ref b := ry
  obtain ⟨_, ya, va, ra, da⟩ := (show ObjOk X.prog X.w H s.heap a (.dK (dI l)) from I.hok a _ ea)
  obtain ⟨_, yb, vb, rb, db⟩ := (show ObjOk X.prog X.w H s.heap b (.dK (dI m)) from I.hok b _ eb)
  exact PySem.W.eq_dictsT (knd := mixKind X.prog X.w) (n := 0) (e := eK l m) ya yb da db (dict_leaf nd ra rb) (by omega) (fin_bl I q (same_all nd ra rb).symm)
/-- (r, s, d) == (r', s', d') -/
def rEqTD : R2 := fun x y H Q => ∃ a b r s d l r' s' d' m, x = .ref a ∧ y = .ref b ∧ H a = some (.tup [.int r, .int s, .ref d]) ∧ H b = some (.tup [.int r', .int s', .ref d']) ∧ H d = some (.dK (dI l)) ∧ H d' = some (.dK (dI m)) ∧ Nd l ∧ Q (.bl (decide (r = r') && decide (s = s') && sameD l m)) H
theorem op_eqTD (hu : X.A.units + 64 < cLine) : OpR X (compareOp .Eq) rEqTD := by
  intro pins s σ H x y v u Q I rx ry h
  obtain ⟨a, b, r, z, d, l, r', z', d', m, rfl, rfl, ea, eb, ed, ed', nd, q⟩ := h
  obtain rfl : v = Value.ref a := rx
  obtain rfl : u = Value.ref b := ry
  obtain ⟨_, yd, va, ra, dd⟩ := (show ObjOk X.prog X.w H s.heap d (.dK (dI l)) from I.hok d _ ed)
  obtain ⟨_, yd', vb, rb, dd'⟩ := (show ObjOk X.prog X.w H s.heap d' (.dK (dI m)) from I.hok d' _ ed')
  obtain ⟨its, r1, p1, _⟩ := I.tuple (SqT.of (K := X.K) ea)
  obtain ⟨its2, r2, p2, _⟩ := I.tuple (SqT.of (K := X.K) eb)
  obtain ⟨u1, u2, u3, rfl, ⟨t1, rfl⟩, ⟨t2, rfl⟩, e3⟩ := tri r1
  obtain ⟨w1, w2, w3, rfl, ⟨t1', rfl⟩, ⟨t2', rfl⟩, e3'⟩ := tri r2
  obtain rfl : u3 = Value.ref d := e3
  obtain rfl : w3 = Value.ref d' := e3'
  refine PySem.W.eq_tuplesT (n := 1) (e := fun j => match j with | 0 => decide (r = r') | 1 => decide (z = z') | _ => sameD l m) p1 p2 (fun j h1 h2 => ?_) (by omega) (fin_bl I q ?_)
  · match j, h1, h2 with
    | 0, _, _ => exact leaf_int
    | 1, _, _ => exact leaf_int
    | 2, _, _ =>
      by_cases e : d = d'
      · subst e
        rw [ed] at ed'
        have e2 : l = m := dI_inj (by injection ed' with ed'; injection ed')
        subst e2
        show PySem.W.EqTree X.prog X.w s 1 (.ref d) (.ref d) (sameD l l)
        rw [sameD_self nd]
        exact .same
      · have k := PySem.W.EqTree.dicts (prog := X.prog) (w := X.w) (knd := mixKind X.prog X.w) (n := 0) (e := eK l m) e yd yd' dd dd' (dict_leaf nd ra rb)
        rw [same_all nd ra rb] at k
        exact k
  · show _ = (([0, 1, 2].all _) && true)
    simp [List.all_cons, Bool.and_assoc]
end
/-! ### exceptions kept in a name beyond their suite -/
section
open PySem.Spec PyProof.Rows
/-- an exception that was caught: its class, its dict -/
def Kp (a : Addr) (cls : Value) (d : Option Addr) : HO := .ext fun h => ∃ oe : Obj, h.get? a = some oe ∧ Zc cls d oe ∧ ∃ vs, oe.data = .fields vs
section
variable {X : Cx} {pins : List (Addr × Obj)} {σ : L2.St} {H : Hp} {s sI : Shared} {a : Addr} {oe : Obj} {cls : Value} {d : Option Addr} {B : Heap}
/-- what is in hand may be tracked -/
theorem kp_track (I : Inv X pins σ H s) (he : s.heap.get? a = some oe) (hz : Zc cls d oe) (hf : ∃ vs, oe.data = .fields vs) (na : H a = none) (nL : a ≠ X.env.locals) (n0 : X.s_0.heap.get? a = none ∨ a ∈ X.ex) (np : ∀ p ∈ X.pn ++ pins, p.1 ≠ a) :
    Inv X pins σ (upd H a (Kp a cls d)) s where
  ok := I.ok
  os := I.os
  bare := I.bare
  base :=
    { keep := I.base.keep
      slot := I.base.slot
      free := fun b o e n x => by
        have nb : b ≠ a := by
          rintro rfl
          rcases n0 with z | z
          · rw [z] at e; cases e
          · exact x z
        rw [upd_ne nb]; exact I.base.free b o e n x
      there := I.base.there
      tups := fun b xs q => by have z := I.base.tups b xs q; rw [upd_ne (ne_of_none z na)]; exact z
      frzs := fun b o u q => by have z := I.base.frzs b o u q; rw [upd_ne (ne_of_none z na)]; exact z
      tbls := fun b ps q => by
        obtain ⟨m, z⟩ := I.base.tbls b ps q
        exact ⟨m, by rw [upd_ne (ne_of_none z na)]; exact z⟩ }
  loc := I.loc
  cell := I.cell
  free := by rw [upd_ne (Ne.symm nL)]; exact I.free
  freeC := fun x c q => by
    have nc : c ≠ a := by
      rintro rfl
      obtain ⟨v, o, ho, hd⟩ := I.cell x _ q
      obtain ⟨vs, hv⟩ := hf
      rw [he] at ho; cases ho
      rw [hv] at hd; cases hd
    rw [upd_ne nc]; exact I.freeC x c q
  pin := fun p hp => by
    obtain ⟨z1, z2, z3⟩ := I.pin p hp
    exact ⟨z1, by rw [upd_ne (np p hp)]; exact z2, z3⟩
  hok := fun b u q => by
    by_cases hb : b = a
    · subst hb
      rw [upd_same] at q; cases q
      exact ⟨⟨oe, he, hz, hf⟩, ⟨oe, he⟩, fun _ _ ⟨o, z, r⟩ k => ⟨o, k o z, r⟩⟩
    · rw [upd_ne hb] at q
      exact (I.hok b u q).stay (fun _ _ _ z => z) (fun c z => by rw [upd_ne (ne_of_none z na)]; exact z) fun c xs z => by rw [upd_ne (ne_of_none z na)]; exact z
  len := I.len
/-- what came into being on the way stands apart from all that was there -/
theorem kp_new (J : Inv X pins σ H sI) (nb : ∀ b o, sI.heap.get? b = some o → b ∉ frs X.stack → B.get? b = some o) (hB : B.get? a = none) (nf : a ∉ frs X.stack) :
    (X.s_0.heap.get? a = none ∨ a ∈ X.ex) ∧ ∀ p ∈ X.pn ++ pins, p.1 ≠ a := by
  have gone : ∀ o, ¬ sI.heap.get? a = some o := fun o e => by
    have z := nb a o e nf
    rw [hB] at z; cases z
  refine ⟨?_, fun p hp z => ?_⟩
  · by_cases hx : a ∈ X.ex
    · exact .inr hx
    · cases e : X.s_0.heap.get? a with
      | none => exact .inl rfl
      | some o =>
        obtain ⟨o', e'⟩ := J.base.there a o e hx
        exact absurd e' (gone o')
  · have e := (J.pin p hp).1
    rw [z] at e
    exact gone _ e
end
/-- what 'except x as n' wishes of an exception that it always catches: behind the suite it is tracked -/
def wKp (K : PySem.W.Frag) (c : Value) (i : Nat) (ts : Addr → Value → Option Addr → TS) (D : Ends) : WX := fun cls d σ H =>
  PySem.W.exmOne K cls c = some true ∧ ∀ a, H a = none → ts a cls d { nx := fun σ' H' => D.nx (σ'.set i none) (upd H' a (Kp a cls d)), rt := D.rt, bk := fun σ' H' => D.bk (σ'.set i none) H', ct := fun σ' H' => D.ct (σ'.set i none) H' } (σ.set i (some (.ref a))) H
section
variable {X : Cx} {x n : Str} {c : Value} {i : Nat} {body suite : List Stmt} {b0 : Stmt} {np pos pos' : Pos} {tb : WX → TS} {ts : Addr → Value → Option Addr → TS}
theorem ps_try_kp (hst : X.stack = X.env :: X.outer) (hfr : X.env.frame = some X.env.locals) (hN : X.N.Nodup) (hi : X.N[i]? = some n) (hl : X.env.kindOf n = some .local) (hc : Names X x c)
    (hb : ∀ (W : WX) (pn : List (Addr × Obj)) (xe : Value → Shared → Prop), Takes (X.tr pn xe) W → PassesOwn (model X.prog X.w) X.A X.env xe → PSs (X.tr pn xe) body (tb W))
    (hsu : ∀ (a : Addr) (oe : Obj) (cls : Value) (d : Option Addr) (pn : List (Addr × Obj)), Zc cls d oe → (∃ vs, oe.data = .fields vs) → PSs (X.suite a ((a, oe) :: pn)) (b0 :: suite) (ts a cls d)) :
    PS X (.Try body [.ExceptHandler (some (.Name x np)) (some n) (b0 :: suite) pos'] [] [] pos) (fun D σ H => tb (wKp X.K c i ts D) D σ H) := by
  refine ⟨fun pins s σ H D I h => ?_⟩
  have ok := I.ok
  have hA : X.A.frames = some (X.env :: X.outer) := ok.frames.trans (congrArg some hst)
  refine wpAny_Try_except (wpAny_mono
    ((hb (wKp X.K c i ts D) (X.pn ++ pins) _ (fun u s' q => ?_) PassesOwn.looking).run [] s σ H D (I.toTry _) h)
    (fun f s1 hsp => ?_) (fun _ _ q => q))
  · obtain ⟨a, B, sI, pi, σ1, H1, cls, d, rfl, J0, nb, up, sky, na, os, ag, hb1, hyes⟩ := q
    have J := J0.ofTry ok
    rw [show (X.tr (X.pn ++ pins) _).stack = X.env :: X.outer from hst] at sky
    show wpAny (model X.prog X.w) X.A (noteFrame (.ref a) X.env) _ _ _
    refine Sky.land Zc.steady hA hfr sky fun hp fl up1 => ?_
    have J1 : Inv X pins σ1 H1 { s' with heap := hp } := J.landed nb fl.1 (up.trans up1) os ag
    obtain ⟨o1, vs1, e1, z1, d1⟩ := fl.there
    have off : a ∉ frs (X.env :: X.outer) := fun hm => by
      obtain ⟨_, o', e', nof⟩ := fl.2.2.1.mem hm
      rw [e1] at e'; cases e'
      exact nof _ d1
    have nL : a ≠ X.env.locals := by
      rintro rfl
      exact off (List.mem_filterMap.mpr ⟨X.env, List.mem_cons_self, hfr⟩)
    have nF : a ∉ X.fs := fun hm => by
      obtain ⟨v, hv, q⟩ := List.mem_filterMap.mp hm
      exact off (List.mem_filterMap.mpr ⟨v, List.mem_cons_of_mem _ hv, q⟩)
    obtain ⟨n0, np0⟩ := kp_new J nb fl.2.1 (by rw [hst]; exact off)
    have K1 := J1.suite e1 d1 na nL nF
    refine wpAny_handleBy_cons (codeAny_handlers_test ?_) (fun z => nomatch z)
    have lt : PySem.W.Looks (model X.prog X.w) hp (typeOf (.ref a)) cls := fun A Q E s k q => wpAny_typeOf_ref (k _ _ e1) (by rw [z1.1]; exact q)
    have lm := PySem.W.exm_one (M := model X.prog X.w) J1.kIn lt hb1
    have nm : ∀ {Q : Value → Shared → Prop} {E : Value → Shared → Prop}, Q c { s' with heap := hp } → wpAny (model X.prog X.w) (X.A.mark (some (.ref a))) (eval (.Name x np) X.env) Q E { s' with heap := hp } := fun q => by
      obtain ⟨g1, g2, g3 | ⟨g3, g4, g5⟩⟩ := hc
      · exact ld_glob (X := X.suite a ((a, o1) :: (X.pn ++ pins))) K1 g1 g3 q g2
      · exact ld_blt (X := X.suite a ((a, o1) :: (X.pn ++ pins))) K1 g1 g3 g4 q g5 g2
    refine nm (lm.here (codeAny_handlers_suite_as (HandSPX.lands_againZ fl fun hq fm up2 => ?_)))
    have J2 : Inv X pins σ1 H1 { s' with heap := hq } := J.landed nb fm.1 ((up.trans up1).trans up2) os ag
    obtain ⟨o2, vs2, e2, z2, d2⟩ := fm.there
    have K2 := J2.suite e2 d2 na nL nF
    refine store_ok (X := X.suite a ((a, o2) :: (X.pn ++ pins))) (v := .ref a) K2 hN hi (.inl hl) rfl (fun s5 K5 => ?_) (.inr hl)
    refine wpAny_mono ((hsu a o2 cls d (X.pn ++ pins) z2 ⟨_, d2⟩).run [] s5 _ H1 _ K5 (hyes a na)) (fun f s6 hsp => ?_) (fun _ _ z => False.elim z)
    cases f with
    | next =>
      obtain ⟨σ6, H6, K6, q6⟩ := hsp
      obtain ⟨e6, n6, _⟩ := K6.pin (a, o2) (List.mem_append_left _ List.mem_cons_self)
      exact gone_ok (kp_track (K6.unsuite ok) e6 z2 ⟨_, d2⟩ n6 nL n0 np0) hN hi hl fun s7 J7 => ⟨_, _, J7, q6⟩
    | brk =>
      obtain ⟨σ6, H6, K6, q6⟩ := hsp
      exact gone_ok (K6.unsuite ok) hN hi hl fun s7 J7 => ⟨_, _, J7, q6⟩
    | cont =>
      obtain ⟨σ6, H6, K6, q6⟩ := hsp
      exact gone_ok (K6.unsuite ok) hN hi hl fun s7 J7 => ⟨_, _, J7, q6⟩
    | ret u =>
      obtain ⟨v6, σ6, H6, K6, r6, q6⟩ := hsp
      exact gone_ok (K6.unsuite ok) hN hi hl fun s7 J7 => ⟨_, _, _, J7, r6, q6⟩
  · cases f with
    | next =>
      obtain ⟨σ6, H6, K6, q6⟩ := hsp
      exact wpAny_execs_nil ⟨σ6, H6, K6.ofTry ok, q6⟩
    | brk =>
      obtain ⟨σ6, H6, K6, q6⟩ := hsp
      exact ⟨σ6, H6, K6.ofTry ok, q6⟩
    | cont =>
      obtain ⟨σ6, H6, K6, q6⟩ := hsp
      exact ⟨σ6, H6, K6.ofTry ok, q6⟩
    | ret u =>
      obtain ⟨v6, σ6, H6, K6, r6, q6⟩ := hsp
      exact ⟨v6, σ6, H6, K6.ofTry ok, r6, q6⟩
end
/-- isinstance(e, c), e a kept exception of the class at D without a dict of its own -/
@[irreducible] def rIsK (K : PySem.W.Frag) : List V → Hp → VK → Prop := fun xs H Q => ∃ (a D : Addr) (c : V) (cv : Value) (b : Bool), xs = [.ref a, c] ∧ H a = some (Kp a (.ref D) none) ∧ ExcC K D ∧ (∀ u, RelV c u → u = cv) ∧ PySem.W.kitOne K (.ref D) cv = some b ∧ Q (.bl b) H
theorem rIsK.mk {K : PySem.W.Frag} {H : Hp} {Q : VK} {a D : Addr} {c : V} {cv : Value} {b : Bool} (h : H a = some (Kp a (.ref D) none)) (hC : ExcC K D) (hc : ∀ u, RelV c u → u = cv) (e : PySem.W.kitOne K (.ref D) cv = some b) (q : Q (.bl b) H) : rIsK K [.ref a, c] H Q := by
  unfold rIsK; exact ⟨a, D, c, cv, b, rfl, h, hC, hc, e, q⟩
theorem kp_inst {X : Cx} {pins : List (Addr × Obj)} {σ : L2.St} {H : Hp} {s : Shared} {a D : Addr} (I : Inv X pins σ H s) (h : H a = some (Kp a (.ref D) none)) : ∃ oe, PySem.W.InstAt s.heap a oe D none := by
  obtain ⟨⟨oe, he, ⟨z1, z2⟩, vs, hv⟩, _⟩ := I.hok a _ h
  obtain ⟨oc, od, oda, osl⟩ := oe
  dsimp only at z1 z2 hv
  subst z1 z2 hv
  exact ⟨_, he, rfl, rfl, trivial⟩
theorem call_isK {X : Cx} : CallR X (.builtin "isinstance") (rIsK X.K) := by
  intro pins s σ H xs us Q I r h
  unfold rIsK at h
  obtain ⟨a, D, c, cv, b, rfl, hH, C, hcv, e, q⟩ := h
  cases r with
  | cons rx rr =>
    cases rr with
    | cons rt rr =>
      cases rr
      cases rx
      obtain rfl := hcv _ rt
      obtain ⟨oe, J⟩ := kp_inst I hH
      exact PySem.W.kia_one (PySem.W.handS_kitx_exc C.hg C.hk C.hs C.hd C.ha C.hn C.ht C.hm) I.kIn J e (fun z => nomatch z) fun tk => ⟨.bl b, H, I.kept (t' := tk) fun _ _ z => z, rfl, q⟩
/-- isinstance(None, ..) and of other things: the list layer's rule, or a kept exception -/
@[irreducible] def rIsB (K : PySem.W.Frag) : List V → Hp → VK → Prop := fun xs H Q => rIsK K xs H Q ∨ rIsi K xs H Q
theorem call_isB {X : Cx} : CallR X (.builtin "isinstance") (rIsB X.K) := by
  intro pins s σ H xs us Q I r h
  unfold rIsB at h
  rcases h with h | h
  · exact call_isK pins s σ H xs us Q I r h
  · exact call_isi pins s σ H xs us Q I r h
theorem rIsB.k {K : PySem.W.Frag} {H : Hp} {Q : VK} {xs : List V} (h : rIsK K xs H Q) : rIsB K xs H Q := by unfold rIsB; exact .inl h
theorem rIsB.i {K : PySem.W.Frag} {H : Hp} {Q : VK} {xs : List V} (h : rIsi K xs H Q) : rIsB K xs H Q := by unfold rIsB; exact .inr h
/-- whether an instance of t is one of C; of a built-in class -/
theorem kit_own {K : PySem.W.Frag} {t : Value} {C : Addr} {b : Bool} (i : PySem.W.isClsIn K C = true) (ty : PySem.W.typeIn K (.ref C) = some (.type "type")) (s : PySem.W.subIn K t (.ref C) = some b) (se : PySem.W.subIn K (.ref C) (.ref C) = some true) : PySem.W.kitOne K t (.ref C) = some b := by
  unfold PySem.W.kitOne
  by_cases e : (t == Value.ref C) = true
  · rw [if_pos e]
    have e' : t = .ref C := eq_of_beq e
    rw [e', se] at s
    exact s
  · rw [if_neg e]
    have i' : (PySem.W.clsIn K C).isSome = true := i
    show (if ((PySem.W.clsIn K C).isSome && PySem.W.typeIn K (.ref C) == some (.type "type")) = true then PySem.W.subIn K t (.ref C) else none) = some b
    rw [if_pos (by rw [i', ty]; rfl)]
    exact s
theorem kit_blt {K : PySem.W.Frag} {D : Addr} {T : String} {b : Bool} (s : PySem.W.subIn K (.ref D) (.type T) = some b) (m : PySem.W.kitMeta T = true := by decide +kernel) : PySem.W.kitOne K (.ref D) (.type T) = some b := by
  unfold PySem.W.kitOne
  rw [if_neg (by
    intro e
    have e' : Value.ref D = .type T := eq_of_beq e
    cases e')]
  show (if PySem.W.kitMeta T = true then PySem.W.subIn K (.ref D) (.type T) else none) = some b
  rw [if_pos m]
  exact s
/-- isinstance(e, (C1, C2, ..)) -/
@[irreducible] def rIsKT (K : PySem.W.Frag) : List V → Hp → VK → Prop := fun xs H Q => ∃ (a D tp : Addr) (cs : List V) (us : List Value) (b : Bool), xs = [.ref a, .ref tp] ∧ H a = some (Kp a (.ref D) none) ∧ ExcC K D ∧ H tp = some (.tup cs) ∧ Paired ClsV cs us ∧ PySem.W.kitAny K (.ref D) us = some b ∧ Q (.bl b) H
theorem rIsKT.mk {K : PySem.W.Frag} {H : Hp} {Q : VK} {a D tp : Addr} {cs : List V} {us : List Value} {b : Bool} (h : H a = some (Kp a (.ref D) none)) (hC : ExcC K D) (ht : H tp = some (.tup cs)) (hc : Paired ClsV cs us) (e : PySem.W.kitAny K (.ref D) us = some b) (q : Q (.bl b) H) : rIsKT K [.ref a, .ref tp] H Q := by
  unfold rIsKT; exact ⟨a, D, tp, cs, us, b, rfl, h, hC, ht, hc, e, q⟩
theorem call_isKT {X : Cx} : CallR X (.builtin "isinstance") (rIsKT X.K) := by
  intro pins s σ H xs us0 Q I r h
  unfold rIsKT at h
  obtain ⟨a, D, tp, cs, us, b, rfl, hH, C, hT, k, e, q⟩ := h
  obtain ⟨u1, u2, rfl, r1, r2⟩ := vals2 r
  cases r1
  cases r2
  obtain ⟨oe, J⟩ := kp_inst I hH
  obtain ⟨_, its, rv, o, h1, h2, n, h3⟩ := (show ObjOk X.prog X.w H s.heap tp (.tup cs) from I.hok tp _ hT)
  have e3 := ClsV.all k rv
  subst e3
  obtain ⟨oc, od, dt, sl⟩ := o
  simp only at h2 h3
  subst h2 h3
  exact PySem.W.kia_tup (PySem.W.handS_kitx_exc C.hg C.hk C.hs C.hd C.ha C.hn C.ht C.hm) I.kIn J h1 e (fun z => nomatch z) fun tk => ⟨.bl b, H, I.tok tk, rfl, q⟩
@[irreducible] def rIsBT (K : PySem.W.Frag) : List V → Hp → VK → Prop := fun xs H Q => rIsKT K xs H Q ∨ rIsiT K xs H Q
theorem call_isBT {X : Cx} : CallR X (.builtin "isinstance") (rIsBT X.K) := by
  intro pins s σ H xs us Q I r h
  unfold rIsBT at h
  rcases h with h | h
  · exact call_isKT pins s σ H xs us Q I r h
  · exact call_isiT pins s σ H xs us Q I r h
theorem rIsBT.k {K : PySem.W.Frag} {H : Hp} {Q : VK} {xs : List V} (h : rIsKT K xs H Q) : rIsBT K xs H Q := by unfold rIsBT; exact .inl h
theorem rIsBT.i {K : PySem.W.Frag} {H : Hp} {Q : VK} {xs : List V} (h : rIsiT K xs H Q) : rIsBT K xs H Q := by unfold rIsBT; exact .inr h
/-- a def that lets nothing out serves where something may be let out; two promises of one def -/
theorem FnOk.lift {P : Program} {w : World} {K : PySem.W.Frag} {mg : Str → Option Value} {base : Heap} {k : Nat} {f : Addr} {fd : FuncData} {ps : List Str} {sp : Sp} (F : FnOk P w K mg base CX0 k f fd ps sp) : FnOk P w K mg base (L2.CX P w) k f fd ps sp :=
  ⟨F.len, fun A outer s H args us vs Q E hr he hb hv hs => codeAny_mono (F.run A outer s H args us vs Q E hr he hb hv hs) fun r s' hq => by
    cases r with
    | error e => exact False.elim hq
    | ok fl =>
      cases fl with
      | ret u => exact hq
      | _ => exact False.elim hq⟩
theorem FnOk.or {P : Program} {w : World} {K : PySem.W.Frag} {mg : Str → Option Value} {base : Heap} {CX : CXT} {k : Nat} {f : Addr} {fd : FuncData} {ps : List Str} {sp sp' : Sp} (F : FnOk P w K mg base CX k f fd ps sp) (G : FnOk P w K mg base CX k f fd ps sp') :
    FnOk P w K mg base CX k f fd ps fun vs H Q E => sp vs H Q E ∨ sp' vs H Q E :=
  ⟨fun vs H Q E h => h.elim (F.len vs H Q E) (G.len vs H Q E), fun A outer s H args us vs Q E hr he hb hv hs => hs.elim (F.run A outer s H args us vs Q E hr he hb hv) (G.run A outer s H args us vs Q E hr he hb hv)⟩
end
def top (i : Nat) : Stmt := PySem.Challenge.pw_endnever_k06_no_machine_at_every_door.main.body.getD i (.Pass ⟨0, 0, 0, 0⟩)
abbrev s_L_mixed : Stmt := top 67
abbrev N_L_mixed : List Str := ["_law_cell", "_law_k", "_law_rest", "_law_number"]
theorem sc_L_mixed : FnScope ["_law_cell", "_law_k", "_law_rest", "_law_number"] ["_law_cell", "_law_k"] (defScope s_L_mixed) := ⟨rfl, rfl, rfl, by decide +kernel, rfl, by decide +kernel, by decide +kernel⟩
abbrev s_L_purse : Stmt := top 68
abbrev N_L_purse : List Str := ["_law_script", "_law_cells", "_law_number", "_law_k"]
theorem sc_L_purse : FnScope ["_law_script", "_law_cells", "_law_number", "_law_k"] ["_law_script"] (defScope s_L_purse) := ⟨rfl, rfl, rfl, by decide +kernel, rfl, by decide +kernel, by decide +kernel⟩
abbrev s_L_draw : Stmt := top 69
abbrev N_L_draw : List Str := ["_law_purse_here", "_law_out_of", "_law_drawn"]
theorem sc_L_draw : FnScope ["_law_purse_here", "_law_out_of", "_law_drawn"] ["_law_purse_here", "_law_out_of"] (defScope s_L_draw) := ⟨rfl, rfl, rfl, by decide +kernel, rfl, by decide +kernel, by decide +kernel⟩
abbrev s_L_machine : Stmt := top 70
abbrev N_L_machine : List Str := ["_law_purse_here", "_law_rows", "_law_signs", "_law_kind", "_law_found", "_law_k", "_law_row", "_law_j", "_law_entry"]
theorem sc_L_machine : FnScope ["_law_purse_here", "_law_rows", "_law_signs", "_law_kind", "_law_found", "_law_k", "_law_row", "_law_j", "_law_entry"] ["_law_purse_here"] (defScope s_L_machine) := ⟨rfl, rfl, rfl, by decide +kernel, rfl, by decide +kernel, by decide +kernel⟩
abbrev s_L_odd : Stmt := top 74
abbrev N_L_odd : List Str := ["_law_purse_here", "_law_machine_here", "_law_signs", "_law_rows", "_law_some", "_law_bad", "_law_k", "_law_rows_of", "_law_row"]
theorem sc_L_odd : FnScope ["_law_purse_here", "_law_machine_here", "_law_signs", "_law_rows", "_law_some", "_law_bad", "_law_k", "_law_rows_of", "_law_row"] ["_law_purse_here", "_law_machine_here"] (defScope s_L_odd) := ⟨rfl, rfl, rfl, by decide +kernel, rfl, by decide +kernel, by decide +kernel⟩
abbrev s_is_entry : Stmt := top 14
abbrev N_is_entry : List Str := ["entry", "rows", "signs"]
theorem sc_is_entry : FnScope ["entry", "rows", "signs"] ["entry", "rows", "signs"] (defScope s_is_entry) := ⟨rfl, rfl, rfl, by decide +kernel, rfl, by decide +kernel, by decide +kernel⟩
abbrev s_is_machine : Stmt := top 15
abbrev N_is_machine : List Str := ["machine", "rows", "signs", "row", "entry"]
theorem sc_is_machine : FnScope ["machine", "rows", "signs", "row", "entry"] ["machine"] (defScope s_is_machine) := ⟨rfl, rfl, rfl, by decide +kernel, rfl, by decide +kernel, by decide +kernel⟩
abbrev s_must_machine : Stmt := top 16
abbrev N_must_machine : List Str := ["machine"]
theorem sc_must_machine : FnScope ["machine"] ["machine"] (defScope s_must_machine) := ⟨rfl, rfl, rfl, by decide +kernel, rfl, by decide +kernel, by decide +kernel⟩
abbrev s_Goer_init : Stmt := inClass (top 18) 0
abbrev N_Goer_init : List Str := ["self", "machine", "setup"]
theorem sc_Goer_init : FnScope ["self", "machine", "setup"] ["self", "machine", "setup"] (defScope s_Goer_init) := ⟨rfl, rfl, rfl, by decide +kernel, rfl, by decide +kernel, by decide +kernel⟩
abbrev s_Goer_entry : Stmt := inClass (top 18) 1
abbrev N_Goer_entry : List Str := ["self"]
theorem sc_Goer_entry : FnScope ["self"] ["self"] (defScope s_Goer_entry) := ⟨rfl, rfl, rfl, by decide +kernel, rfl, by decide +kernel, by decide +kernel⟩
abbrev s_Goer_step : Stmt := inClass (top 18) 2
abbrev N_Goer_step : List Str := ["self", "entry"]
theorem sc_Goer_step : FnScope ["self", "entry"] ["self"] (defScope s_Goer_step) := ⟨rfl, rfl, rfl, by decide +kernel, rfl, by decide +kernel, by decide +kernel⟩
abbrev s_told_strip : Stmt := top 17
abbrev N_told_strip : List Str := ["signs", "place", "sign"]
theorem sc_told_strip : FnScope ["signs", "place", "sign"] ["signs"] (defScope s_told_strip) := ⟨rfl, rfl, rfl, by decide +kernel, rfl, by decide +kernel, by decide +kernel⟩
abbrev s_Goer_setup : Stmt := inClass (top 18) 3
abbrev N_Goer_setup : List Str := ["self"]
theorem sc_Goer_setup : FnScope ["self"] ["self"] (defScope s_Goer_setup) := ⟨rfl, rfl, rfl, by decide +kernel, rfl, by decide +kernel, by decide +kernel⟩
abbrev s_parts_from : Stmt := top 61
abbrev N_parts_from : List Str := ["one", "other", "most", "here", "there", "goes"]
theorem sc_parts_from : FnScope ["one", "other", "most", "here", "there", "goes"] ["one", "other", "most"] (defScope s_parts_from) := ⟨rfl, rfl, rfl, by decide +kernel, rfl, by decide +kernel, by decide +kernel⟩
abbrev s_met_entries : Stmt := top 58
abbrev N_met_entries : List Str := ["machine", "most", "goer", "found", "one"]
theorem sc_met_entries : FnScope ["machine", "most", "goer", "found", "one"] ["machine", "most"] (defScope s_met_entries) := ⟨rfl, rfl, rfl, by decide +kernel, rfl, by decide +kernel, by decide +kernel⟩
abbrev s_visits : Stmt := top 59
abbrev N_visits : List Str := ["machine", "most", "goer", "found"]
theorem sc_visits : FnScope ["machine", "most", "goer", "found"] ["machine", "most"] (defScope s_visits) := ⟨rfl, rfl, rfl, by decide +kernel, rfl, by decide +kernel, by decide +kernel⟩
abbrev s_records : Stmt := top 60
abbrev N_records : List Str := ["machine", "most", "goer", "least", "greatest", "found"]
theorem sc_records : FnScope ["machine", "most", "goer", "least", "greatest", "found"] ["machine", "most"] (defScope s_records) := ⟨rfl, rfl, rfl, by decide +kernel, rfl, by decide +kernel, by decide +kernel⟩
abbrev s_L_met : Stmt := top 71
abbrev N_L_met : List Str := ["_law_way", "_law_machine_here", "_law_good"]
theorem sc_L_met : FnScope ["_law_way", "_law_machine_here", "_law_good"] ["_law_way", "_law_machine_here"] (defScope s_L_met) := ⟨rfl, rfl, rfl, by decide +kernel, rfl, by decide +kernel, by decide +kernel⟩
abbrev s_stepped : Stmt := top 19
abbrev N_stepped : List Str := ["machine", "setup", "walk"]
theorem sc_stepped : FnScope ["machine", "setup", "walk"] ["machine", "setup"] (defScope s_stepped) := ⟨rfl, rfl, rfl, by decide +kernel, rfl, by decide +kernel, by decide +kernel⟩
abbrev s_gone : Stmt := top 21
abbrev N_gone : List Str := ["machine", "most", "walk", "going"]
theorem sc_gone : FnScope ["machine", "most", "walk", "going"] ["machine", "most"] (defScope s_gone) := ⟨rfl, rfl, rfl, by decide +kernel, rfl, by decide +kernel, by decide +kernel⟩
abbrev s_run : Stmt := top 22
abbrev N_run : List Str := ["machine", "most", "walk", "ended"]
theorem sc_run : FnScope ["machine", "most", "walk", "ended"] ["machine", "most"] (defScope s_run) := ⟨rfl, rfl, rfl, by decide +kernel, rfl, by decide +kernel, by decide +kernel⟩
abbrev s_setups : Stmt := top 23
abbrev N_setups : List Str := ["machine", "most", "walk", "found"]
theorem sc_setups : FnScope ["machine", "most", "walk", "found"] ["machine", "most"] (defScope s_setups) := ⟨rfl, rfl, rfl, by decide +kernel, rfl, by decide +kernel, by decide +kernel⟩
abbrev s_touched : Stmt := top 24
abbrev N_touched : List Str := ["machine", "most", "walk", "least", "greatest"]
theorem sc_touched : FnScope ["machine", "most", "walk", "least", "greatest"] ["machine", "most"] (defScope s_touched) := ⟨rfl, rfl, rfl, by decide +kernel, rfl, by decide +kernel, by decide +kernel⟩
abbrev s_plain : Stmt := top 39
abbrev N_plain : List Str := ["signs", "found", "place"]
theorem sc_plain : FnScope ["signs", "found", "place"] ["signs"] (defScope s_plain) := ⟨rfl, rfl, rfl, by decide +kernel, rfl, by decide +kernel, by decide +kernel⟩
abbrev s_Log_init : Stmt := inClass (top 38) 0
abbrev N_Log_init : List Str := ["self", "machine", "most", "walk", "going"]
theorem sc_Log_init : FnScope ["self", "machine", "most", "walk", "going"] ["self", "machine", "most"] (defScope s_Log_init) := ⟨rfl, rfl, rfl, by decide +kernel, rfl, by decide +kernel, by decide +kernel⟩
abbrev s_Log_last : Stmt := inClass (top 38) 1
abbrev N_Log_last : List Str := ["self"]
theorem sc_Log_last : FnScope ["self"] ["self"] (defScope s_Log_last) := ⟨rfl, rfl, rfl, by decide +kernel, rfl, by decide +kernel, by decide +kernel⟩
abbrev s_Log_same : Stmt := inClass (top 38) 2
abbrev N_Log_same : List Str := ["self", "one", "other"]
theorem sc_Log_same : FnScope ["self", "one", "other"] ["self", "one", "other"] (defScope s_Log_same) := ⟨rfl, rfl, rfl, by decide +kernel, rfl, by decide +kernel, by decide +kernel⟩
abbrev s_ring : Stmt := top 42
abbrev N_ring : List Str := ["machine", "most", "log", "last", "first"]
theorem sc_ring : FnScope ["machine", "most", "log", "last", "first"] ["machine", "most"] (defScope s_ring) := ⟨rfl, rfl, rfl, by decide +kernel, rfl, by decide +kernel, by decide +kernel⟩
abbrev s_Log_drifts : Stmt := inClass (top 38) 3
abbrev N_Log_drifts : List Str := ["self", "one", "other", "low", "high", "by", "ahead", "behind", "place", "within"]
theorem sc_Log_drifts : FnScope ["self", "one", "other", "low", "high", "by", "ahead", "behind", "place", "within"] ["self", "one", "other", "low", "high"] (defScope s_Log_drifts) := ⟨rfl, rfl, rfl, by decide +kernel, rfl, by decide +kernel, by decide +kernel⟩
abbrev s_drift : Stmt := top 43
abbrev N_drift : List Str := ["machine", "most", "log", "last", "low", "high", "best", "first"]
theorem sc_drift : FnScope ["machine", "most", "log", "last", "low", "high", "best", "first"] ["machine", "most"] (defScope s_drift) := ⟨rfl, rfl, rfl, by decide +kernel, rfl, by decide +kernel, by decide +kernel⟩
abbrev s_told_parts : Stmt := top 32
abbrev N_told_parts : List Str := ["parts", "row", "signs"]
theorem sc_told_parts : FnScope ["parts", "row", "signs"] ["parts"] (defScope s_told_parts) := ⟨rfl, rfl, rfl, by decide +kernel, rfl, by decide +kernel, by decide +kernel⟩
abbrev s_ends_of : Stmt := top 29
abbrev N_ends_of : List Str := ["machine", "found", "row", "sign"]
theorem sc_ends_of : FnScope ["machine", "found", "row", "sign"] ["machine"] (defScope s_ends_of) := ⟨rfl, rfl, rfl, by decide +kernel, rfl, by decide +kernel, by decide +kernel⟩
abbrev s_ahead_of : Stmt := top 30
abbrev N_ahead_of : List Str := ["machine", "part", "signs", "found", "row", "sign", "entry", "known", "place", "one"]
theorem sc_ahead_of : FnScope ["machine", "part", "signs", "found", "row", "sign", "entry", "known", "place", "one"] ["machine", "part"] (defScope s_ahead_of) := ⟨rfl, rfl, rfl, by decide +kernel, rfl, by decide +kernel, by decide +kernel⟩
abbrev s_gone_back : Stmt := top 31
abbrev N_gone_back : List Str := ["machine", "parts", "found", "part", "one"]
theorem sc_gone_back : FnScope ["machine", "parts", "found", "part", "one"] ["machine", "parts"] (defScope s_gone_back) := ⟨rfl, rfl, rfl, by decide +kernel, rfl, by decide +kernel, by decide +kernel⟩
abbrev s_parts_at : Stmt := top 33
abbrev N_parts_at : List Str := ["machine", "depth", "parts", "k"]
theorem sc_parts_at : FnScope ["machine", "depth", "parts", "k"] ["machine", "depth"] (defScope s_parts_at) := ⟨rfl, rfl, rfl, by decide +kernel, rfl, by decide +kernel, by decide +kernel⟩
abbrev s_first_empty : Stmt := top 34
abbrev N_first_empty : List Str := ["machine", "most", "parts", "depth"]
theorem sc_first_empty : FnScope ["machine", "most", "parts", "depth"] ["machine", "most"] (defScope s_first_empty) := ⟨rfl, rfl, rfl, by decide +kernel, rfl, by decide +kernel, by decide +kernel⟩
abbrev s_ends_behind : Stmt := top 25
abbrev N_ends_behind : List Str := ["machine", "most", "walk", "ended"]
theorem sc_ends_behind : FnScope ["machine", "most", "walk", "ended"] ["machine", "most"] (defScope s_ends_behind) := ⟨rfl, rfl, rfl, by decide +kernel, rfl, by decide +kernel, by decide +kernel⟩
abbrev s_is_back : Stmt := top 35
abbrev N_is_back : List Str := ["machine", "depth", "empty"]
theorem sc_is_back : FnScope ["machine", "depth", "empty"] ["machine", "depth"] (defScope s_is_back) := ⟨rfl, rfl, rfl, by decide +kernel, rfl, by decide +kernel, by decide +kernel⟩
abbrev s_no_back : Stmt := top 36
abbrev N_no_back : List Str := ["machine", "most", "depth"]
theorem sc_no_back : FnScope ["machine", "most", "depth"] ["machine", "most"] (defScope s_no_back) := ⟨rfl, rfl, rfl, by decide +kernel, rfl, by decide +kernel, by decide +kernel⟩
abbrev s_is_ring : Stmt := top 40
abbrev N_is_ring : List Str := ["machine", "first", "last", "log"]
theorem sc_is_ring : FnScope ["machine", "first", "last", "log"] ["machine", "first", "last"] (defScope s_is_ring) := ⟨rfl, rfl, rfl, by decide +kernel, rfl, by decide +kernel, by decide +kernel⟩
abbrev s_is_drift : Stmt := top 41
abbrev N_is_drift : List Str := ["machine", "first", "last", "log", "places"]
theorem sc_is_drift : FnScope ["machine", "first", "last", "log", "places"] ["machine", "first", "last"] (defScope s_is_drift) := ⟨rfl, rfl, rfl, by decide +kernel, rfl, by decide +kernel, by decide +kernel⟩
abbrev s_shows : Stmt := top 56
abbrev N_shows : List Str := ["machine", "paper"]
theorem sc_shows : FnScope ["machine", "paper"] ["machine", "paper"] (defScope s_shows) := ⟨rfl, rfl, rfl, by decide +kernel, rfl, by decide +kernel, by decide +kernel⟩
abbrev s_show_entry : Stmt := top 64
abbrev N_show_entry : List Str := ["entry"]
theorem sc_show_entry : FnScope ["entry"] ["entry"] (defScope s_show_entry) := ⟨rfl, rfl, rfl, by decide +kernel, rfl, by decide +kernel, by decide +kernel⟩
abbrev s_show_machine : Stmt := top 65
abbrev N_show_machine : List Str := ["machine", "entry", "row"]
theorem sc_show_machine : FnScope ["machine", "entry", "row"] ["machine"] (defScope s_show_machine) := ⟨rfl, rfl, rfl, by decide +kernel, rfl, by decide +kernel, by decide +kernel⟩
abbrev s_L_asked : Stmt := top 72
abbrev N_L_asked : List Str := ["_law_way", "_law_machine_here"]
theorem sc_L_asked : FnScope ["_law_way", "_law_machine_here"] ["_law_way", "_law_machine_here"] (defScope s_L_asked) := ⟨rfl, rfl, rfl, by decide +kernel, rfl, by decide +kernel, by decide +kernel⟩
abbrev s_L_caught : Stmt := top 73
abbrev N_L_caught : List Str := ["_law_way", "_law_machine_here", "_law_caught_here", "e"]
theorem sc_L_caught : FnScope ["_law_way", "_law_machine_here", "_law_caught_here", "e"] ["_law_way", "_law_machine_here"] (defScope s_L_caught) := ⟨rfl, rfl, rfl, by decide +kernel, rfl, by decide +kernel, by decide +kernel⟩
abbrev s_law : Stmt := top 75
abbrev N_law : List Str := ["_law_script", "_law_purse_here", "_law_machine_here", "_law_way", "_law_odd_here"]
theorem sc_law : FnScope ["_law_script", "_law_purse_here", "_law_machine_here", "_law_way", "_law_odd_here"] ["_law_script"] (defScope s_law) := ⟨rfl, rfl, rfl, by decide +kernel, rfl, by decide +kernel, by decide +kernel⟩
/-- what the top has written: where each def stands, what the names hold -/
structure Tx (K : PySem.W.Frag) (mg : Str → Option Value) where
  a_L_mixed : Addr
  fd_L_mixed : FuncData
  F_L_mixed : Fun K "_law_mixed" "_law_mixed" s_L_mixed a_L_mixed fd_L_mixed
  b_L_mixed : Binds K fd_L_mixed ["_law_cell", "_law_k"] []
  m_L_mixed : mg "_law_mixed" = some (.ref a_L_mixed)
  a_L_purse : Addr
  fd_L_purse : FuncData
  F_L_purse : Fun K "_law_purse" "_law_purse" s_L_purse a_L_purse fd_L_purse
  b_L_purse : Binds K fd_L_purse ["_law_script"] []
  m_L_purse : mg "_law_purse" = some (.ref a_L_purse)
  a_L_draw : Addr
  fd_L_draw : FuncData
  F_L_draw : Fun K "_law_draw" "_law_draw" s_L_draw a_L_draw fd_L_draw
  b_L_draw : Binds K fd_L_draw ["_law_purse_here", "_law_out_of"] []
  m_L_draw : mg "_law_draw" = some (.ref a_L_draw)
  a_L_machine : Addr
  fd_L_machine : FuncData
  F_L_machine : Fun K "_law_machine" "_law_machine" s_L_machine a_L_machine fd_L_machine
  b_L_machine : Binds K fd_L_machine ["_law_purse_here"] []
  m_L_machine : mg "_law_machine" = some (.ref a_L_machine)
  a_L_odd : Addr
  fd_L_odd : FuncData
  F_L_odd : Fun K "_law_odd" "_law_odd" s_L_odd a_L_odd fd_L_odd
  b_L_odd : Binds K fd_L_odd ["_law_purse_here", "_law_machine_here"] []
  m_L_odd : mg "_law_odd" = some (.ref a_L_odd)
  a_is_entry : Addr
  fd_is_entry : FuncData
  F_is_entry : Fun K "is_entry" "is_entry" s_is_entry a_is_entry fd_is_entry
  b_is_entry : Binds K fd_is_entry ["entry", "rows", "signs"] []
  m_is_entry : mg "is_entry" = some (.ref a_is_entry)
  a_is_machine : Addr
  fd_is_machine : FuncData
  F_is_machine : Fun K "is_machine" "is_machine" s_is_machine a_is_machine fd_is_machine
  b_is_machine : Binds K fd_is_machine ["machine"] []
  m_is_machine : mg "is_machine" = some (.ref a_is_machine)
  a_must_machine : Addr
  fd_must_machine : FuncData
  F_must_machine : Fun K "must_machine" "must_machine" s_must_machine a_must_machine fd_must_machine
  b_must_machine : Binds K fd_must_machine ["machine"] []
  m_must_machine : mg "must_machine" = some (.ref a_must_machine)
  a_Goer_init : Addr
  fd_Goer_init : FuncData
  F_Goer_init : Fun K "__init__" "Goer.__init__" s_Goer_init a_Goer_init fd_Goer_init
  b_Goer_init : Binds K fd_Goer_init ["self", "machine", "setup"] []
  a_Goer_entry : Addr
  fd_Goer_entry : FuncData
  F_Goer_entry : Fun K "entry" "Goer.entry" s_Goer_entry a_Goer_entry fd_Goer_entry
  b_Goer_entry : Binds K fd_Goer_entry ["self"] []
  a_Goer_step : Addr
  fd_Goer_step : FuncData
  F_Goer_step : Fun K "step" "Goer.step" s_Goer_step a_Goer_step fd_Goer_step
  b_Goer_step : Binds K fd_Goer_step ["self"] []
  a_told_strip : Addr
  fd_told_strip : FuncData
  F_told_strip : Fun K "told_strip" "told_strip" s_told_strip a_told_strip fd_told_strip
  b_told_strip : Binds K fd_told_strip ["signs"] []
  m_told_strip : mg "told_strip" = some (.ref a_told_strip)
  a_Goer_setup : Addr
  fd_Goer_setup : FuncData
  F_Goer_setup : Fun K "setup" "Goer.setup" s_Goer_setup a_Goer_setup fd_Goer_setup
  b_Goer_setup : Binds K fd_Goer_setup ["self"] []
  a_parts_from : Addr
  fd_parts_from : FuncData
  F_parts_from : Fun K "parts_from" "parts_from" s_parts_from a_parts_from fd_parts_from
  b_parts_from : Binds K fd_parts_from ["one", "other", "most"] []
  m_parts_from : mg "parts_from" = some (.ref a_parts_from)
  a_met_entries : Addr
  fd_met_entries : FuncData
  F_met_entries : Fun K "met_entries" "met_entries" s_met_entries a_met_entries fd_met_entries
  b_met_entries : Binds K fd_met_entries ["machine", "most"] []
  m_met_entries : mg "met_entries" = some (.ref a_met_entries)
  a_visits : Addr
  fd_visits : FuncData
  F_visits : Fun K "visits" "visits" s_visits a_visits fd_visits
  b_visits : Binds K fd_visits ["machine", "most"] []
  m_visits : mg "visits" = some (.ref a_visits)
  a_records : Addr
  fd_records : FuncData
  F_records : Fun K "records" "records" s_records a_records fd_records
  b_records : Binds K fd_records ["machine", "most"] []
  m_records : mg "records" = some (.ref a_records)
  a_L_met : Addr
  fd_L_met : FuncData
  F_L_met : Fun K "_law_met" "_law_met" s_L_met a_L_met fd_L_met
  b_L_met : Binds K fd_L_met ["_law_way", "_law_machine_here"] []
  m_L_met : mg "_law_met" = some (.ref a_L_met)
  a_stepped : Addr
  fd_stepped : FuncData
  F_stepped : Fun K "stepped" "stepped" s_stepped a_stepped fd_stepped
  b_stepped : Binds K fd_stepped ["machine", "setup"] []
  m_stepped : mg "stepped" = some (.ref a_stepped)
  a_gone : Addr
  fd_gone : FuncData
  F_gone : Fun K "gone" "gone" s_gone a_gone fd_gone
  b_gone : Binds K fd_gone ["machine", "most"] []
  m_gone : mg "gone" = some (.ref a_gone)
  a_run : Addr
  fd_run : FuncData
  F_run : Fun K "run" "run" s_run a_run fd_run
  b_run : Binds K fd_run ["machine", "most"] []
  m_run : mg "run" = some (.ref a_run)
  a_setups : Addr
  fd_setups : FuncData
  F_setups : Fun K "setups" "setups" s_setups a_setups fd_setups
  b_setups : Binds K fd_setups ["machine", "most"] []
  m_setups : mg "setups" = some (.ref a_setups)
  a_touched : Addr
  fd_touched : FuncData
  F_touched : Fun K "touched" "touched" s_touched a_touched fd_touched
  b_touched : Binds K fd_touched ["machine", "most"] []
  m_touched : mg "touched" = some (.ref a_touched)
  a_plain : Addr
  fd_plain : FuncData
  F_plain : Fun K "plain" "plain" s_plain a_plain fd_plain
  b_plain : Binds K fd_plain ["signs"] []
  m_plain : mg "plain" = some (.ref a_plain)
  a_Log_init : Addr
  fd_Log_init : FuncData
  F_Log_init : Fun K "__init__" "Log.__init__" s_Log_init a_Log_init fd_Log_init
  b_Log_init : Binds K fd_Log_init ["self", "machine", "most"] []
  a_Log_last : Addr
  fd_Log_last : FuncData
  F_Log_last : Fun K "last" "Log.last" s_Log_last a_Log_last fd_Log_last
  b_Log_last : Binds K fd_Log_last ["self"] []
  a_Log_same : Addr
  fd_Log_same : FuncData
  F_Log_same : Fun K "same" "Log.same" s_Log_same a_Log_same fd_Log_same
  b_Log_same : Binds K fd_Log_same ["self", "one", "other"] []
  a_ring : Addr
  fd_ring : FuncData
  F_ring : Fun K "ring" "ring" s_ring a_ring fd_ring
  b_ring : Binds K fd_ring ["machine", "most"] []
  m_ring : mg "ring" = some (.ref a_ring)
  a_Log_drifts : Addr
  fd_Log_drifts : FuncData
  F_Log_drifts : Fun K "drifts" "Log.drifts" s_Log_drifts a_Log_drifts fd_Log_drifts
  b_Log_drifts : Binds K fd_Log_drifts ["self", "one", "other", "low", "high"] []
  a_drift : Addr
  fd_drift : FuncData
  F_drift : Fun K "drift" "drift" s_drift a_drift fd_drift
  b_drift : Binds K fd_drift ["machine", "most"] []
  m_drift : mg "drift" = some (.ref a_drift)
  a_told_parts : Addr
  fd_told_parts : FuncData
  F_told_parts : Fun K "told_parts" "told_parts" s_told_parts a_told_parts fd_told_parts
  b_told_parts : Binds K fd_told_parts ["parts"] []
  m_told_parts : mg "told_parts" = some (.ref a_told_parts)
  a_ends_of : Addr
  fd_ends_of : FuncData
  F_ends_of : Fun K "ends_of" "ends_of" s_ends_of a_ends_of fd_ends_of
  b_ends_of : Binds K fd_ends_of ["machine"] []
  m_ends_of : mg "ends_of" = some (.ref a_ends_of)
  a_ahead_of : Addr
  fd_ahead_of : FuncData
  F_ahead_of : Fun K "ahead_of" "ahead_of" s_ahead_of a_ahead_of fd_ahead_of
  b_ahead_of : Binds K fd_ahead_of ["machine", "part"] []
  m_ahead_of : mg "ahead_of" = some (.ref a_ahead_of)
  a_gone_back : Addr
  fd_gone_back : FuncData
  F_gone_back : Fun K "gone_back" "gone_back" s_gone_back a_gone_back fd_gone_back
  b_gone_back : Binds K fd_gone_back ["machine", "parts"] []
  m_gone_back : mg "gone_back" = some (.ref a_gone_back)
  a_parts_at : Addr
  fd_parts_at : FuncData
  F_parts_at : Fun K "parts_at" "parts_at" s_parts_at a_parts_at fd_parts_at
  b_parts_at : Binds K fd_parts_at ["machine", "depth"] []
  m_parts_at : mg "parts_at" = some (.ref a_parts_at)
  a_first_empty : Addr
  fd_first_empty : FuncData
  F_first_empty : Fun K "first_empty" "first_empty" s_first_empty a_first_empty fd_first_empty
  b_first_empty : Binds K fd_first_empty ["machine", "most"] []
  m_first_empty : mg "first_empty" = some (.ref a_first_empty)
  a_ends_behind : Addr
  fd_ends_behind : FuncData
  F_ends_behind : Fun K "ends_behind" "ends_behind" s_ends_behind a_ends_behind fd_ends_behind
  b_ends_behind : Binds K fd_ends_behind ["machine", "most"] []
  m_ends_behind : mg "ends_behind" = some (.ref a_ends_behind)
  a_is_back : Addr
  fd_is_back : FuncData
  F_is_back : Fun K "is_back" "is_back" s_is_back a_is_back fd_is_back
  b_is_back : Binds K fd_is_back ["machine", "depth"] []
  m_is_back : mg "is_back" = some (.ref a_is_back)
  a_no_back : Addr
  fd_no_back : FuncData
  F_no_back : Fun K "no_back" "no_back" s_no_back a_no_back fd_no_back
  b_no_back : Binds K fd_no_back ["machine", "most"] []
  m_no_back : mg "no_back" = some (.ref a_no_back)
  a_is_ring : Addr
  fd_is_ring : FuncData
  F_is_ring : Fun K "is_ring" "is_ring" s_is_ring a_is_ring fd_is_ring
  b_is_ring : Binds K fd_is_ring ["machine", "first", "last"] []
  m_is_ring : mg "is_ring" = some (.ref a_is_ring)
  a_is_drift : Addr
  fd_is_drift : FuncData
  F_is_drift : Fun K "is_drift" "is_drift" s_is_drift a_is_drift fd_is_drift
  b_is_drift : Binds K fd_is_drift ["machine", "first", "last"] []
  m_is_drift : mg "is_drift" = some (.ref a_is_drift)
  a_shows : Addr
  fd_shows : FuncData
  F_shows : Fun K "shows" "shows" s_shows a_shows fd_shows
  b_shows : Binds K fd_shows ["machine", "paper"] []
  m_shows : mg "shows" = some (.ref a_shows)
  a_show_entry : Addr
  fd_show_entry : FuncData
  F_show_entry : Fun K "show_entry" "show_entry" s_show_entry a_show_entry fd_show_entry
  b_show_entry : Binds K fd_show_entry ["entry"] []
  m_show_entry : mg "show_entry" = some (.ref a_show_entry)
  a_show_machine : Addr
  fd_show_machine : FuncData
  F_show_machine : Fun K "show_machine" "show_machine" s_show_machine a_show_machine fd_show_machine
  b_show_machine : Binds K fd_show_machine ["machine"] []
  m_show_machine : mg "show_machine" = some (.ref a_show_machine)
  a_L_asked : Addr
  fd_L_asked : FuncData
  F_L_asked : Fun K "_law_asked" "_law_asked" s_L_asked a_L_asked fd_L_asked
  b_L_asked : Binds K fd_L_asked ["_law_way", "_law_machine_here"] []
  m_L_asked : mg "_law_asked" = some (.ref a_L_asked)
  a_L_caught : Addr
  fd_L_caught : FuncData
  F_L_caught : Fun K "_law_caught" "_law_caught" s_L_caught a_L_caught fd_L_caught
  b_L_caught : Binds K fd_L_caught ["_law_way", "_law_machine_here"] []
  m_L_caught : mg "_law_caught" = some (.ref a_L_caught)
  a_law : Addr
  fd_law : FuncData
  F_law : Fun K "law" "law" s_law a_law fd_law
  b_law : Binds K fd_law ["_law_script"] []
  m_law : mg "law" = some (.ref a_law)
  C_NoMachine : Addr
  m_NoMachine : mg "NoMachine" = some (.ref C_NoMachine)
  C_Goer : Addr
  m_Goer : mg "Goer" = some (.ref C_Goer)
  cl_Goer : Cls K C_Goer
  M_Goer : Mk K C_Goer a_Goer_init
  M_Goer_entry : Meth K C_Goer "entry" a_Goer_entry
  M_Goer_step : Meth K C_Goer "step" a_Goer_step
  M_Goer_setup : Meth K C_Goer "setup" a_Goer_setup
  nA_Goer_table : NoAttr K C_Goer "table"
  nA_Goer_row : NoAttr K C_Goer "row"
  nA_Goer_spot : NoAttr K C_Goer "spot"
  nA_Goer_signs : NoAttr K C_Goer "signs"
  nA_Goer_steps : NoAttr K C_Goer "steps"
  C_Log : Addr
  m_Log : mg "Log" = some (.ref C_Log)
  cl_Log : Cls K C_Log
  M_Log : Mk K C_Log a_Log_init
  M_Log_last : Meth K C_Log "last" a_Log_last
  M_Log_same : Meth K C_Log "same" a_Log_same
  M_Log_drifts : Meth K C_Log "drifts" a_Log_drifts
  nA_Log_rows : NoAttr K C_Log "rows"
  nA_Log_places : NoAttr K C_Log "places"
  nA_Log_strips : NoAttr K C_Log "strips"
  nA_Log_has_ended : NoAttr K C_Log "has_ended"
  C_MillError : Addr
  m_MillError : mg "MillError" = some (.ref C_MillError)
  C_Full : Addr
  m_Full : mg "Full" = some (.ref C_Full)
  C_NoDeed : Addr
  m_NoDeed : mg "NoDeed" = some (.ref C_NoDeed)
  C_NoName : Addr
  m_NoName : mg "NoName" = some (.ref C_NoName)
  C_NoPaper : Addr
  m_NoPaper : mg "NoPaper" = some (.ref C_NoPaper)
  C_NoSize : Addr
  m_NoSize : mg "NoSize" = some (.ref C_NoSize)
  C_NoSuch : Addr
  m_NoSuch : mg "NoSuch" = some (.ref C_NoSuch)
  C_NoText : Addr
  m_NoText : mg "NoText" = some (.ref C_NoText)
  C_Twice : Addr
  m_Twice : mg "Twice" = some (.ref C_Twice)
  tk_MOST_ROWS : Tok
  m_MOST_ROWS : mg "MOST_ROWS" = some (.int 4 tk_MOST_ROWS)
  tk_MOST_SIGNS : Tok
  m_MOST_SIGNS : mg "MOST_SIGNS" = some (.int 4 tk_MOST_SIGNS)
  tk_MOST_PARTS : Tok
  m_MOST_PARTS : mg "MOST_PARTS" = some (.int 300 tk_MOST_PARTS)
  tk_MOST_DEPTH : Tok
  m_MOST_DEPTH : mg "MOST_DEPTH" = some (.int 8 tk_MOST_DEPTH)
  tk_ROWS : Tok
  m_ROWS : mg "ROWS" = some (.str "ABCD" tk_ROWS)
  n_range : mg "range" = none
  n_len : mg "len" = none
  n_abs : mg "abs" = none
  n_list : mg "list" = none
  n_all : mg "all" = none
  n_dict : mg "dict" = none
  n_sorted : mg "sorted" = none
  n_max : mg "max" = none
  n_min : mg "min" = none
  n_int : mg "int" = none
  n_tuple : mg "tuple" = none
  n_str : mg "str" = none
  n_isinstance : mg "isinstance" = none
  x_NoMachine : PySem.W.excIn K C_NoMachine [.type "ValueError", .type "Exception", .type "BaseException", .type "object"] "ValueError.__new__" = true
  k_NoMachine : PySem.W.keepIn K (.ref C_NoMachine) = true
  b_NoMachine : PySem.W.subIn K (.ref C_NoMachine) (.type "BaseException") = some true
  t_NoMachine : PySem.W.typeIn K (.ref C_NoMachine) = some (.type "type")
  h_NoMachine : PySem.W.hasDictIn K C_NoMachine = true
  k_MillError : PySem.W.keepIn K (.ref C_MillError) = true
  b_MillError : PySem.W.subIn K (.ref C_MillError) (.type "BaseException") = some true
  t_MillError : PySem.W.typeIn K (.ref C_MillError) = some (.type "type")
  h_MillError : PySem.W.hasDictIn K C_MillError = true
  hg_NoMachine : PySem.W.findIn K (.ref C_NoMachine) "__getattribute__" = some (some (.builtin "BaseException.__getattribute__"))
  hk_NoMachine : PySem.W.findIn K (.ref C_NoMachine) "__getattr__" = some none
  ha_NoMachine : PySem.W.findIn K (.ref C_NoMachine) "__class__" = some (some (.builtin "object.__class__"))
  hm_NoMachine : PySem.W.mroIn K C_NoMachine (.type "object") = some true
  s_NoMachine_MillError : PySem.W.subIn K (.ref C_NoMachine) (.ref C_MillError) = some true
  hn_ : PySem.W.specialIn K (.builtin "object.__class__") "__get__" = some (some (.builtin "getset_descriptor.__get__"))
  ht_ : PySem.W.takesIn K (.builtin "object.__class__") = some true
  i_Full : PySem.W.isClsIn K C_Full = true
  se_Full : PySem.W.subIn K (.ref C_Full) (.ref C_Full) = some true
  t_Full : PySem.W.typeIn K (.ref C_Full) = some (.type "type")
  s_NoMachine_Full : PySem.W.subIn K (.ref C_NoMachine) (.ref C_Full) = some false
  sn_Full : PySem.W.subIn K (.type "NoneType") (.ref C_Full) = some false
  i_NoDeed : PySem.W.isClsIn K C_NoDeed = true
  se_NoDeed : PySem.W.subIn K (.ref C_NoDeed) (.ref C_NoDeed) = some true
  t_NoDeed : PySem.W.typeIn K (.ref C_NoDeed) = some (.type "type")
  s_NoMachine_NoDeed : PySem.W.subIn K (.ref C_NoMachine) (.ref C_NoDeed) = some false
  sn_NoDeed : PySem.W.subIn K (.type "NoneType") (.ref C_NoDeed) = some false
  i_NoName : PySem.W.isClsIn K C_NoName = true
  se_NoName : PySem.W.subIn K (.ref C_NoName) (.ref C_NoName) = some true
  t_NoName : PySem.W.typeIn K (.ref C_NoName) = some (.type "type")
  s_NoMachine_NoName : PySem.W.subIn K (.ref C_NoMachine) (.ref C_NoName) = some false
  sn_NoName : PySem.W.subIn K (.type "NoneType") (.ref C_NoName) = some false
  i_NoPaper : PySem.W.isClsIn K C_NoPaper = true
  se_NoPaper : PySem.W.subIn K (.ref C_NoPaper) (.ref C_NoPaper) = some true
  t_NoPaper : PySem.W.typeIn K (.ref C_NoPaper) = some (.type "type")
  s_NoMachine_NoPaper : PySem.W.subIn K (.ref C_NoMachine) (.ref C_NoPaper) = some false
  sn_NoPaper : PySem.W.subIn K (.type "NoneType") (.ref C_NoPaper) = some false
  i_NoSize : PySem.W.isClsIn K C_NoSize = true
  se_NoSize : PySem.W.subIn K (.ref C_NoSize) (.ref C_NoSize) = some true
  t_NoSize : PySem.W.typeIn K (.ref C_NoSize) = some (.type "type")
  s_NoMachine_NoSize : PySem.W.subIn K (.ref C_NoMachine) (.ref C_NoSize) = some false
  sn_NoSize : PySem.W.subIn K (.type "NoneType") (.ref C_NoSize) = some false
  i_NoSuch : PySem.W.isClsIn K C_NoSuch = true
  se_NoSuch : PySem.W.subIn K (.ref C_NoSuch) (.ref C_NoSuch) = some true
  t_NoSuch : PySem.W.typeIn K (.ref C_NoSuch) = some (.type "type")
  s_NoMachine_NoSuch : PySem.W.subIn K (.ref C_NoMachine) (.ref C_NoSuch) = some false
  sn_NoSuch : PySem.W.subIn K (.type "NoneType") (.ref C_NoSuch) = some false
  i_NoText : PySem.W.isClsIn K C_NoText = true
  se_NoText : PySem.W.subIn K (.ref C_NoText) (.ref C_NoText) = some true
  t_NoText : PySem.W.typeIn K (.ref C_NoText) = some (.type "type")
  s_NoMachine_NoText : PySem.W.subIn K (.ref C_NoMachine) (.ref C_NoText) = some false
  sn_NoText : PySem.W.subIn K (.type "NoneType") (.ref C_NoText) = some false
  i_Twice : PySem.W.isClsIn K C_Twice = true
  se_Twice : PySem.W.subIn K (.ref C_Twice) (.ref C_Twice) = some true
  t_Twice : PySem.W.typeIn K (.ref C_Twice) = some (.type "type")
  s_NoMachine_Twice : PySem.W.subIn K (.ref C_NoMachine) (.ref C_Twice) = some false
  sn_Twice : PySem.W.subIn K (.type "NoneType") (.ref C_Twice) = some false
  i_NoMachine : PySem.W.isClsIn K C_NoMachine = true
  se_NoMachine : PySem.W.subIn K (.ref C_NoMachine) (.ref C_NoMachine) = some true
  s_NoMachine_NoMachine : PySem.W.subIn K (.ref C_NoMachine) (.ref C_NoMachine) = some true
  sn_NoMachine : PySem.W.subIn K (.type "NoneType") (.ref C_NoMachine) = some false
  s_NoMachine_ValueError : PySem.W.subIn K (.ref C_NoMachine) (.type "ValueError") = some true
theorem ec_NoMachine {K : PySem.W.Frag} {mg : Str → Option Value} (t : Tx K mg) : ExcC K t.C_NoMachine := ⟨t.hg_NoMachine, t.hk_NoMachine, t.b_NoMachine, t.h_NoMachine, t.ha_NoMachine, t.hn_, t.ht_, t.hm_NoMachine⟩
theorem em_NoMachine_MillError {K : PySem.W.Frag} {mg : Str → Option Value} (t : Tx K mg) : PySem.W.exmOne K (.ref t.C_NoMachine) (.ref t.C_MillError) = some true := PySem.W.exm_ref t.b_MillError t.h_MillError t.t_MillError t.s_NoMachine_MillError
theorem ka_exc {K : PySem.W.Frag} {mg : Str → Option Value} (t : Tx K mg) : PySem.W.kitAny K (.ref t.C_NoMachine) [.ref t.C_Full, .ref t.C_NoDeed, .ref t.C_NoName, .ref t.C_NoPaper, .ref t.C_NoSize, .ref t.C_NoSuch, .ref t.C_NoText, .ref t.C_Twice] = some false := kitAny_cons (kit_own t.i_Full t.t_Full t.s_NoMachine_Full t.se_Full) (fun _ => kitAny_cons (kit_own t.i_NoDeed t.t_NoDeed t.s_NoMachine_NoDeed t.se_NoDeed) (fun _ => kitAny_cons (kit_own t.i_NoName t.t_NoName t.s_NoMachine_NoName t.se_NoName) (fun _ => kitAny_cons (kit_own t.i_NoPaper t.t_NoPaper t.s_NoMachine_NoPaper t.se_NoPaper) (fun _ => kitAny_cons (kit_own t.i_NoSize t.t_NoSize t.s_NoMachine_NoSize t.se_NoSize) (fun _ => kitAny_cons (kit_own t.i_NoSuch t.t_NoSuch t.s_NoMachine_NoSuch t.se_NoSuch) (fun _ => kitAny_cons (kit_own t.i_NoText t.t_NoText t.s_NoMachine_NoText t.se_NoText) (fun _ => kitAny_cons (kit_own t.i_Twice t.t_Twice t.s_NoMachine_Twice t.se_Twice) (fun _ => kitAny_nil) (fun z => nomatch z)) (fun z => nomatch z)) (fun z => nomatch z)) (fun z => nomatch z)) (fun z => nomatch z)) (fun z => nomatch z)) (fun z => nomatch z)) (fun z => nomatch z)
theorem ka_non {K : PySem.W.Frag} {mg : Str → Option Value} (t : Tx K mg) : PySem.W.kitAny K (.type "NoneType") [.ref t.C_Full, .ref t.C_NoDeed, .ref t.C_NoName, .ref t.C_NoPaper, .ref t.C_NoSize, .ref t.C_NoSuch, .ref t.C_NoText, .ref t.C_Twice] = some false := kitAny_cons (kit_own t.i_Full t.t_Full t.sn_Full t.se_Full) (fun _ => kitAny_cons (kit_own t.i_NoDeed t.t_NoDeed t.sn_NoDeed t.se_NoDeed) (fun _ => kitAny_cons (kit_own t.i_NoName t.t_NoName t.sn_NoName t.se_NoName) (fun _ => kitAny_cons (kit_own t.i_NoPaper t.t_NoPaper t.sn_NoPaper t.se_NoPaper) (fun _ => kitAny_cons (kit_own t.i_NoSize t.t_NoSize t.sn_NoSize t.se_NoSize) (fun _ => kitAny_cons (kit_own t.i_NoSuch t.t_NoSuch t.sn_NoSuch t.se_NoSuch) (fun _ => kitAny_cons (kit_own t.i_NoText t.t_NoText t.sn_NoText t.se_NoText) (fun _ => kitAny_cons (kit_own t.i_Twice t.t_Twice t.sn_Twice t.se_Twice) (fun _ => kitAny_nil) (fun z => nomatch z)) (fun z => nomatch z)) (fun z => nomatch z)) (fun z => nomatch z)) (fun z => nomatch z)) (fun z => nomatch z)) (fun z => nomatch z)) (fun z => nomatch z)
/-! ### the fields of a Goer -/
theorem ne_Goer_table_row : ¬ (("table" : Str) = "row") := by decide +kernel
theorem ne_Goer_table_spot : ¬ (("table" : Str) = "spot") := by decide +kernel
theorem ne_Goer_table_signs : ¬ (("table" : Str) = "signs") := by decide +kernel
theorem ne_Goer_table_steps : ¬ (("table" : Str) = "steps") := by decide +kernel
theorem ne_Goer_row_table : ¬ (("row" : Str) = "table") := by decide +kernel
theorem ne_Goer_row_spot : ¬ (("row" : Str) = "spot") := by decide +kernel
theorem ne_Goer_row_signs : ¬ (("row" : Str) = "signs") := by decide +kernel
theorem ne_Goer_row_steps : ¬ (("row" : Str) = "steps") := by decide +kernel
theorem ne_Goer_spot_table : ¬ (("spot" : Str) = "table") := by decide +kernel
theorem ne_Goer_spot_row : ¬ (("spot" : Str) = "row") := by decide +kernel
theorem ne_Goer_spot_signs : ¬ (("spot" : Str) = "signs") := by decide +kernel
theorem ne_Goer_spot_steps : ¬ (("spot" : Str) = "steps") := by decide +kernel
theorem ne_Goer_signs_table : ¬ (("signs" : Str) = "table") := by decide +kernel
theorem ne_Goer_signs_row : ¬ (("signs" : Str) = "row") := by decide +kernel
theorem ne_Goer_signs_spot : ¬ (("signs" : Str) = "spot") := by decide +kernel
theorem ne_Goer_signs_steps : ¬ (("signs" : Str) = "steps") := by decide +kernel
theorem ne_Goer_steps_table : ¬ (("steps" : Str) = "table") := by decide +kernel
theorem ne_Goer_steps_row : ¬ (("steps" : Str) = "row") := by decide +kernel
theorem ne_Goer_steps_spot : ¬ (("steps" : Str) = "spot") := by decide +kernel
theorem ne_Goer_steps_signs : ¬ (("steps" : Str) = "signs") := by decide +kernel
def Goer_F (v0 v1 v2 v3 v4 : V) : List (Str × V) := [("table", v0), ("row", v1), ("spot", v2), ("signs", v3), ("steps", v4)]
theorem Goer_mk0 (v0 : V) : putF "table" v0 ([] : List (Str × V)) = ([("table", v0)] : List (Str × V)) := by
  simp only [putF]
theorem Goer_mk1 (v0 v1 : V) : putF "row" v1 ([("table", v0)] : List (Str × V)) = ([("table", v0), ("row", v1)] : List (Str × V)) := by
  simp only [putF, if_neg ne_Goer_table_row]
theorem Goer_mk2 (v0 v1 v2 : V) : putF "spot" v2 ([("table", v0), ("row", v1)] : List (Str × V)) = ([("table", v0), ("row", v1), ("spot", v2)] : List (Str × V)) := by
  simp only [putF, if_neg ne_Goer_table_spot, if_neg ne_Goer_row_spot]
theorem Goer_mk3 (v0 v1 v2 v3 : V) : putF "signs" v3 ([("table", v0), ("row", v1), ("spot", v2)] : List (Str × V)) = ([("table", v0), ("row", v1), ("spot", v2), ("signs", v3)] : List (Str × V)) := by
  simp only [putF, if_neg ne_Goer_table_signs, if_neg ne_Goer_row_signs, if_neg ne_Goer_spot_signs]
theorem Goer_mk4 (v0 v1 v2 v3 v4 : V) : putF "steps" v4 ([("table", v0), ("row", v1), ("spot", v2), ("signs", v3)] : List (Str × V)) = ([("table", v0), ("row", v1), ("spot", v2), ("signs", v3), ("steps", v4)] : List (Str × V)) := by
  simp only [putF, if_neg ne_Goer_table_steps, if_neg ne_Goer_row_steps, if_neg ne_Goer_spot_steps, if_neg ne_Goer_signs_steps]
theorem Goer_get_table {v0 v1 v2 v3 v4 : V} : (Goer_F v0 v1 v2 v3 v4).lookup ("table" : Str) = some v0 := by
  have e : Goer_F v0 v1 v2 v3 v4 = putF "table" v0 (Goer_F v0 v1 v2 v3 v4) := by
    unfold Goer_F
    simp only [putF, if_true]
  rw [e, lookup_putF, if_pos rfl]
theorem Goer_put_table {v0 v1 v2 v3 v4 y : V} : putF "table" y (Goer_F v0 v1 v2 v3 v4) = Goer_F y v1 v2 v3 v4 := by
  unfold Goer_F
  simp only [putF, if_true]
theorem Goer_get_row {v0 v1 v2 v3 v4 : V} : (Goer_F v0 v1 v2 v3 v4).lookup ("row" : Str) = some v1 := by
  have e : Goer_F v0 v1 v2 v3 v4 = putF "row" v1 (Goer_F v0 v1 v2 v3 v4) := by
    unfold Goer_F
    simp only [putF, if_neg ne_Goer_table_row, if_true]
  rw [e, lookup_putF, if_pos rfl]
theorem Goer_put_row {v0 v1 v2 v3 v4 y : V} : putF "row" y (Goer_F v0 v1 v2 v3 v4) = Goer_F v0 y v2 v3 v4 := by
  unfold Goer_F
  simp only [putF, if_neg ne_Goer_table_row, if_true]
theorem Goer_get_spot {v0 v1 v2 v3 v4 : V} : (Goer_F v0 v1 v2 v3 v4).lookup ("spot" : Str) = some v2 := by
  have e : Goer_F v0 v1 v2 v3 v4 = putF "spot" v2 (Goer_F v0 v1 v2 v3 v4) := by
    unfold Goer_F
    simp only [putF, if_neg ne_Goer_table_spot, if_neg ne_Goer_row_spot, if_true]
  rw [e, lookup_putF, if_pos rfl]
theorem Goer_put_spot {v0 v1 v2 v3 v4 y : V} : putF "spot" y (Goer_F v0 v1 v2 v3 v4) = Goer_F v0 v1 y v3 v4 := by
  unfold Goer_F
  simp only [putF, if_neg ne_Goer_table_spot, if_neg ne_Goer_row_spot, if_true]
theorem Goer_get_signs {v0 v1 v2 v3 v4 : V} : (Goer_F v0 v1 v2 v3 v4).lookup ("signs" : Str) = some v3 := by
  have e : Goer_F v0 v1 v2 v3 v4 = putF "signs" v3 (Goer_F v0 v1 v2 v3 v4) := by
    unfold Goer_F
    simp only [putF, if_neg ne_Goer_table_signs, if_neg ne_Goer_row_signs, if_neg ne_Goer_spot_signs, if_true]
  rw [e, lookup_putF, if_pos rfl]
theorem Goer_put_signs {v0 v1 v2 v3 v4 y : V} : putF "signs" y (Goer_F v0 v1 v2 v3 v4) = Goer_F v0 v1 v2 y v4 := by
  unfold Goer_F
  simp only [putF, if_neg ne_Goer_table_signs, if_neg ne_Goer_row_signs, if_neg ne_Goer_spot_signs, if_true]
theorem Goer_get_steps {v0 v1 v2 v3 v4 : V} : (Goer_F v0 v1 v2 v3 v4).lookup ("steps" : Str) = some v4 := by
  have e : Goer_F v0 v1 v2 v3 v4 = putF "steps" v4 (Goer_F v0 v1 v2 v3 v4) := by
    unfold Goer_F
    simp only [putF, if_neg ne_Goer_table_steps, if_neg ne_Goer_row_steps, if_neg ne_Goer_spot_steps, if_neg ne_Goer_signs_steps, if_true]
  rw [e, lookup_putF, if_pos rfl]
theorem Goer_put_steps {v0 v1 v2 v3 v4 y : V} : putF "steps" y (Goer_F v0 v1 v2 v3 v4) = Goer_F v0 v1 v2 v3 y := by
  unfold Goer_F
  simp only [putF, if_neg ne_Goer_table_steps, if_neg ne_Goer_row_steps, if_neg ne_Goer_spot_steps, if_neg ne_Goer_signs_steps, if_true]
theorem Goer_no {v0 v1 v2 v3 v4 : V} {m : Str} (h0 : ¬ m = "table") (h1 : ¬ m = "row") (h2 : ¬ m = "spot") (h3 : ¬ m = "signs") (h4 : ¬ m = "steps") : (Goer_F v0 v1 v2 v3 v4).lookup m = none := by
  have h : ∀ (f : Str) (v : V) (r : List (Str × V)), ¬ m = f → r.lookup m = none → ((f, v) :: r).lookup m = none := fun f v r n q => by
    rw [List.lookup_cons, beq_eq_false_iff_ne.mpr n]; exact q
  unfold Goer_F
  exact h _ _ _ h0 (h _ _ _ h1 (h _ _ _ h2 (h _ _ _ h3 (h _ _ _ h4 rfl))))
theorem Goer_few {v0 v1 v2 v3 v4 : V} : (Goer_F v0 v1 v2 v3 v4).length < 1000 := by show 5 < 1000; decide
/-! ### the fields of a Log -/
theorem ne_Log_rows_places : ¬ (("rows" : Str) = "places") := by decide +kernel
theorem ne_Log_rows_strips : ¬ (("rows" : Str) = "strips") := by decide +kernel
theorem ne_Log_rows_has_ended : ¬ (("rows" : Str) = "has_ended") := by decide +kernel
theorem ne_Log_places_rows : ¬ (("places" : Str) = "rows") := by decide +kernel
theorem ne_Log_places_strips : ¬ (("places" : Str) = "strips") := by decide +kernel
theorem ne_Log_places_has_ended : ¬ (("places" : Str) = "has_ended") := by decide +kernel
theorem ne_Log_strips_rows : ¬ (("strips" : Str) = "rows") := by decide +kernel
theorem ne_Log_strips_places : ¬ (("strips" : Str) = "places") := by decide +kernel
theorem ne_Log_strips_has_ended : ¬ (("strips" : Str) = "has_ended") := by decide +kernel
theorem ne_Log_has_ended_rows : ¬ (("has_ended" : Str) = "rows") := by decide +kernel
theorem ne_Log_has_ended_places : ¬ (("has_ended" : Str) = "places") := by decide +kernel
theorem ne_Log_has_ended_strips : ¬ (("has_ended" : Str) = "strips") := by decide +kernel
def Log_F (v0 v1 v2 v3 : V) : List (Str × V) := [("rows", v0), ("places", v1), ("strips", v2), ("has_ended", v3)]
theorem Log_mk0 (v0 : V) : putF "rows" v0 ([] : List (Str × V)) = ([("rows", v0)] : List (Str × V)) := by
  simp only [putF]
theorem Log_mk1 (v0 v1 : V) : putF "places" v1 ([("rows", v0)] : List (Str × V)) = ([("rows", v0), ("places", v1)] : List (Str × V)) := by
  simp only [putF, if_neg ne_Log_rows_places]
theorem Log_mk2 (v0 v1 v2 : V) : putF "strips" v2 ([("rows", v0), ("places", v1)] : List (Str × V)) = ([("rows", v0), ("places", v1), ("strips", v2)] : List (Str × V)) := by
  simp only [putF, if_neg ne_Log_rows_strips, if_neg ne_Log_places_strips]
theorem Log_mk3 (v0 v1 v2 v3 : V) : putF "has_ended" v3 ([("rows", v0), ("places", v1), ("strips", v2)] : List (Str × V)) = ([("rows", v0), ("places", v1), ("strips", v2), ("has_ended", v3)] : List (Str × V)) := by
  simp only [putF, if_neg ne_Log_rows_has_ended, if_neg ne_Log_places_has_ended, if_neg ne_Log_strips_has_ended]
theorem Log_get_rows {v0 v1 v2 v3 : V} : (Log_F v0 v1 v2 v3).lookup ("rows" : Str) = some v0 := by
  have e : Log_F v0 v1 v2 v3 = putF "rows" v0 (Log_F v0 v1 v2 v3) := by
    unfold Log_F
    simp only [putF, if_true]
  rw [e, lookup_putF, if_pos rfl]
theorem Log_put_rows {v0 v1 v2 v3 y : V} : putF "rows" y (Log_F v0 v1 v2 v3) = Log_F y v1 v2 v3 := by
  unfold Log_F
  simp only [putF, if_true]
theorem Log_get_places {v0 v1 v2 v3 : V} : (Log_F v0 v1 v2 v3).lookup ("places" : Str) = some v1 := by
  have e : Log_F v0 v1 v2 v3 = putF "places" v1 (Log_F v0 v1 v2 v3) := by
    unfold Log_F
    simp only [putF, if_neg ne_Log_rows_places, if_true]
  rw [e, lookup_putF, if_pos rfl]
theorem Log_put_places {v0 v1 v2 v3 y : V} : putF "places" y (Log_F v0 v1 v2 v3) = Log_F v0 y v2 v3 := by
  unfold Log_F
  simp only [putF, if_neg ne_Log_rows_places, if_true]
theorem Log_get_strips {v0 v1 v2 v3 : V} : (Log_F v0 v1 v2 v3).lookup ("strips" : Str) = some v2 := by
  have e : Log_F v0 v1 v2 v3 = putF "strips" v2 (Log_F v0 v1 v2 v3) := by
    unfold Log_F
    simp only [putF, if_neg ne_Log_rows_strips, if_neg ne_Log_places_strips, if_true]
  rw [e, lookup_putF, if_pos rfl]
theorem Log_put_strips {v0 v1 v2 v3 y : V} : putF "strips" y (Log_F v0 v1 v2 v3) = Log_F v0 v1 y v3 := by
  unfold Log_F
  simp only [putF, if_neg ne_Log_rows_strips, if_neg ne_Log_places_strips, if_true]
theorem Log_get_has_ended {v0 v1 v2 v3 : V} : (Log_F v0 v1 v2 v3).lookup ("has_ended" : Str) = some v3 := by
  have e : Log_F v0 v1 v2 v3 = putF "has_ended" v3 (Log_F v0 v1 v2 v3) := by
    unfold Log_F
    simp only [putF, if_neg ne_Log_rows_has_ended, if_neg ne_Log_places_has_ended, if_neg ne_Log_strips_has_ended, if_true]
  rw [e, lookup_putF, if_pos rfl]
theorem Log_put_has_ended {v0 v1 v2 v3 y : V} : putF "has_ended" y (Log_F v0 v1 v2 v3) = Log_F v0 v1 v2 y := by
  unfold Log_F
  simp only [putF, if_neg ne_Log_rows_has_ended, if_neg ne_Log_places_has_ended, if_neg ne_Log_strips_has_ended, if_true]
theorem Log_no {v0 v1 v2 v3 : V} {m : Str} (h0 : ¬ m = "rows") (h1 : ¬ m = "places") (h2 : ¬ m = "strips") (h3 : ¬ m = "has_ended") : (Log_F v0 v1 v2 v3).lookup m = none := by
  have h : ∀ (f : Str) (v : V) (r : List (Str × V)), ¬ m = f → r.lookup m = none → ((f, v) :: r).lookup m = none := fun f v r n q => by
    rw [List.lookup_cons, beq_eq_false_iff_ne.mpr n]; exact q
  unfold Log_F
  exact h _ _ _ h0 (h _ _ _ h1 (h _ _ _ h2 (h _ _ _ h3 rfl)))
theorem Log_few {v0 v1 v2 v3 : V} : (Log_F v0 v1 v2 v3).length < 1000 := by show 4 < 1000; decide
section
variable {P : Program} {w : World} {K : PySem.W.Frag} {mg : Str → Option Value} {base : Heap}
/-! ### draws -/
def sp_L_mixed : Sp := fun vs H Q _ => ∃ c k : Int, vs = [.int c, .int k] ∧ 0 ≤ k ∧ k < 1000 ∧ ∀ n : Int, 0 ≤ n → n < 2147483587 → Q (.int n) H
theorem ok_L_mixed (t : Tx K mg) : FnOk P w K mg base CX0 1 t.a_L_mixed t.fd_L_mixed ["_law_cell", "_law_k"] sp_L_mixed := by
  refine t.F_L_mixed.ok sc_L_mixed (fun vs H Q E h => ?_) (fun cdv A outer s H vs Q E hr h => ?_)
  · obtain ⟨c, k, rfl, _⟩ := h
    rfl
  · obtain ⟨c, k, rfl, k0, k1, q⟩ := h
    refine ⟨_, (pss_cons (ps_set (i := 2) sc_L_mixed.nd rfl (by first | exact Or.inl rfl | exact Or.inr rfl) (pe_op op_mod (pv 0) (pe_op op_pow pe_int pe_int)))
      (pss_cons (ps_set (i := 3) sc_L_mixed.nd rfl (by first | exact Or.inl rfl | exact Or.inr rfl) (pe_op op_mod (pe_op op_mul (pe_op op_add (pe_op op_add (pe_op op_add (pe_op op_mul (pv 2) (pv 2)) (pe_op op_mul pe_int (pv 2))) (pe_op op_mul pe_int (pv 1))) pe_int) pe_int) pe_int))
      (pss_one (ps_ret (pe_op op_mod (pe_op op_add (pe_op op_mul (pv 3) (pv 3)) pe_int) pe_int))))), ?_⟩
    have e15 : (10 : Int) ^ (15 : Int).toNat = 1000000000000000 := by decide
    refine ⟨_, rfl, _, _, rfl, rfl, ⟨by decide, by decide, by decide⟩, _, _, rfl, rfl, (by show (0 : Int) < 10 ^ (15 : Int).toNat; decide), ?_⟩
    rw [e15]
    have h0 : (0 : Int) ≤ c % 1000000000000000 := Int.emod_nonneg _ (by decide)
    have h1 : c % 1000000000000000 < 1000000000000000 := Int.emod_lt_of_pos _ (by decide)
    generalize c % 1000000000000000 = r at h0 h1
    refine ⟨_, rfl, _, rfl, _, _, rfl, rfl, .inl ⟨by omega, by omega⟩, _, rfl, _, _, rfl, rfl, .inl ⟨by decide, by decide⟩, _, _, rfl, rfl, _, rfl, _, _, rfl, rfl, .inl ⟨by decide, by decide⟩, _, _, rfl, rfl, _, _, rfl, rfl,
      _, _, rfl, rfl, .inr ⟨by decide, by decide⟩, _, _, rfl, rfl, (by show (0 : Int) < 2147483629; decide), ?_⟩
    have g0 := Int.emod_nonneg ((r * r + 3 * r + 7919 * k + 1) * 48271) (show (2147483629 : Int) ≠ 0 by decide)
    have g1 := Int.emod_lt_of_pos ((r * r + 3 * r + 7919 * k + 1) * 48271) (show (0 : Int) < 2147483629 by decide)
    generalize (r * r + 3 * r + 7919 * k + 1) * 48271 % 2147483629 = n at g0 g1
    refine ⟨_, rfl, _, rfl, _, _, rfl, rfl, .inl ⟨by omega, by omega⟩, _, _, rfl, rfl, _, _, rfl, rfl, (by show (0 : Int) < 2147483587; decide), ?_⟩
    exact q _ (Int.emod_nonneg _ (by decide)) (Int.emod_lt_of_pos _ (by decide))
/-- the purse: two numbers that aren't below 0 -/
def PurseO (a b : Int) : HO := .lst [.int a, .int b]
def sp_L_purse (K : PySem.W.Frag) : Sp := fun vs H Q _ => ∃ (l : Addr) (ns : List Int), vs = [.ref l] ∧ SqL K H l (ns.map V.int) ∧ ns.length ≤ 63 ∧
  ∀ (a b : Int) (p : Addr) (H' : Hp), 0 ≤ a → 0 ≤ b → Same H H' → H p = none → H' p = some (PurseO a b) → Q (.ref p) H'
theorem ok_L_purse (t : Tx K mg) : FnOk P w K mg base CX0 2 t.a_L_purse t.fd_L_purse ["_law_script"] (sp_L_purse K) := by
  refine t.F_L_purse.ok sc_L_purse (fun vs H Q E h => ?_) (fun cdv A outer s H vs Q E hr h => ?_)
  · obtain ⟨l, ns, rfl, _⟩ := h
    rfl
  · obtain ⟨l, ns, rfl, hS, hn, q⟩ := h
    refine ⟨_, (pss_cons (ps_set (i := 1) sc_L_purse.nd rfl (by first | exact Or.inl rfl | exact Or.inr rfl) (pe_op op_cat (pe_slice sl_list (pv 0) po_none (po_some pe_int)) (pe_lst (pa_cons pe_int pa_nil))))
      (pss_cons (ps_set (i := 2) sc_L_purse.nd rfl (by first | exact Or.inl rfl | exact Or.inr rfl) pe_int)
      (pss_cons (ps_for PassesOwn.never rfl (pi_range1 (by rfl) t.n_range (pa_cons pe_int pa_nil)) (pg_name (i := 3) sc_L_purse.nd rfl (by first | exact Or.inl rfl | exact Or.inr rfl)) (pss_one (ps_set (i := 2) sc_L_purse.nd rfl (by first | exact Or.inl rfl | exact Or.inr rfl) (pe_op op_add (pe_op op_mul (pv 2) pe_int) (pe_call (ok_L_mixed t) (hr.mono (by decide)) (by rfl) t.m_L_mixed t.F_L_mixed.kp t.b_L_mixed .nil pass0 (pa_cons (pe_ix ix_list (pv 1) (pe_op op_mod (pv 3) (pe_callB (id := "len") call_lenQ (by rfl) t.n_len (by decide +kernel) (pa_cons (pv 1) pa_nil))) (fun _ _ => rfl)) (pa_cons (pv 3) pa_nil)))))))
      (pss_cons (ps_if (pt_cmpR op_ge (pe_callB (id := "abs") call_abs (by rfl) t.n_abs (by decide +kernel) (pa_cons (pe_ix ix_list (pv 1) pe_int (fun _ _ => rfl)) pa_nil)) (pe_op op_pow pe_int pe_int) (nomark _)) (pss_one (ps_ret (pe_lst (pa_cons (pe_callB (id := "abs") call_abs (by rfl) t.n_abs (by decide +kernel) (pa_cons (pe_ix ix_list (pv 1) pe_int (fun _ _ => rfl)) pa_nil)) (pa_cons (pv 2) pa_nil))))) pss_nil)
      (pss_one (ps_ret (pe_lst (pa_cons (pv 2) (pa_cons (pv 2) pa_nil))))))))), ?_⟩
    refine ⟨_, rfl, _, rfl, l, _, rfl, hS, fun p np => ?_⟩
    rw [cut_63 hn]
    have e0 : ([V.int 0] : List V) = [(0 : Int)].map V.int := rfl
    refine ⟨by show 1 ≤ sizeLine; decide, fun p2 np2 => ⟨p, p2, _, _, rfl, rfl, (by rw [upd_ne (ne_of_none upd_same np2)]; exact upd_same), upd_same, (by show _ + 1 ≤ _; rw [List.length_map]; exact Nat.le_trans (Nat.add_le_add_right hn 1) (by decide)), fun p3 np3 => ?_⟩⟩
    rw [e0, ← List.map_append]
    have s3 : Same H (upd (upd (upd H p (.lst (ns.map V.int))) p2 (.lst ([(0 : Int)].map V.int))) p3 (.lst ((ns ++ [0]).map V.int))) := sm_new (sm_new (sm_new (Same.refl H) np) np2) np3
    have hl : 0 < (ns ++ [0]).length := by simp
    generalize ec : ns ++ [0] = cs at s3 hl
    have h3 : (upd (upd (upd H p (.lst (ns.map V.int))) p2 (.lst ([(0 : Int)].map V.int))) p3 (.lst (cs.map V.int))) p3 = some (.lst (cs.map V.int)) := upd_same
    generalize upd (upd (upd H p (.lst (ns.map V.int))) p2 (.lst ([(0 : Int)].map V.int))) p3 (.lst (cs.map V.int)) = H3 at s3 h3
    refine ⟨64, rfl, by decide, by decide, for_range (lo := 0) (n := 64) (fun i σ H2 => ∃ (n : Int) (v : Option V), σ = [some (.ref l), some (.ref p3), some (.int n), v] ∧ H2 = H3 ∧ 0 ≤ n) ⟨1, none, rfl, rfl, by decide⟩ ?_ ?_⟩
    · rintro i σ H2 hi ⟨n, v, rfl, rfl, hn0⟩
      refine ⟨_, rfl, _, _, rfl, rfl, .inr ⟨by decide, by decide⟩, ?_⟩
      have hm := Int.emod_nonneg (0 + (i : Int)) (show ((cs.map V.int).length : Int) ≠ 0 by rw [List.length_map]; omega)
      have hm1 := Int.emod_lt_of_pos (0 + (i : Int)) (show (0 : Int) < ((cs.map V.int).length : Int) by rw [List.length_map]; omega)
      have hj : (((0 + (i : Int)) % ((cs.map V.int).length : Int)).toNat : Int) = (0 + (i : Int)) % ((cs.map V.int).length : Int) := Int.toNat_of_nonneg hm
      have hj1 : ((0 + (i : Int)) % ((cs.map V.int).length : Int)).toNat < cs.length := by rw [List.length_map] at hm1 ⊢; omega
      refine ⟨_, rfl, _, rfl, _, rfl, p3, _, rfl, .inl (SqL.of h3), _, _, rfl, rfl, (by rw [List.length_map]; omega), p3, _, _, _, rfl, rfl, SqL.of h3, at_of hj.symm (by rw [List.getElem?_map, List.getElem?_eq_getElem hj1]; rfl), ?_⟩
      refine ⟨_, rfl, _, _, rfl, by omega, by omega, fun m m0 m1 => ⟨_, _, rfl, rfl, ?_⟩⟩
      exact ⟨_, _, rfl, rfl, by omega⟩
    · rintro σ H2 ⟨n, v, rfl, rfl, hn0⟩
      have h0 : (cs.map V.int)[0]? = some (.int (cs[0])) := by rw [List.getElem?_map, List.getElem?_eq_getElem hl]; rfl
      refine ⟨_, rfl, p3, _, _, _, rfl, rfl, SqL.of h3, atI_nat (j := 0) h0, _, rfl, _, _, rfl, rfl, ⟨by decide, by decide, by decide⟩, _, _, rfl, rfl, _, rfl, ?_⟩
      refine ite2 (fun c => ?_) (fun c => ?_)
      · refine ⟨_, rfl, p3, _, _, _, rfl, rfl, SqL.of h3, atI_nat (j := 0) h0, _, rfl, _, rfl, by show 2 ≤ sizeLine; decide, fun q0 nq => ?_⟩
        exact q _ _ q0 _ (by split <;> omega) hn0 (sm_new s3 nq) (s3.free nq) upd_same
      · refine ⟨_, rfl, _, rfl, by show 2 ≤ sizeLine; decide, fun q0 nq => ?_⟩
        exact q _ _ q0 _ hn0 hn0 (sm_new s3 nq) (s3.free nq) upd_same
def sp_L_draw : Sp := fun vs H Q _ => ∃ (p : Addr) (a b n : Int), vs = [.ref p, .int n] ∧ H p = some (PurseO a b) ∧ 0 ≤ a ∧ 0 ≤ b ∧ 0 < n ∧ n < 1267650600228229401496703205376 ∧
  ∀ d a' b' : Int, 0 ≤ d → d < n → 0 ≤ a' → 0 ≤ b' → Q (.int d) (upd H p (PurseO a' b'))
theorem ok_L_draw (t : Tx K mg) : FnOk P w K mg base CX0 1 t.a_L_draw t.fd_L_draw ["_law_purse_here", "_law_out_of"] sp_L_draw := by
  refine t.F_L_draw.ok sc_L_draw (fun vs H Q E h => ?_) (fun cdv A outer s H vs Q E hr h => ?_)
  · obtain ⟨p, a, b, n, rfl, _⟩ := h
    rfl
  · obtain ⟨p, a, b, n, rfl, hp, ha, hb, n0, n1, q⟩ := h
    refine ⟨_, (pss_cons (ps_if (pt_cmpR op_eq (pe_ix ix_list (pv 0) pe_int (fun _ _ => rfl)) pe_int (nomark _)) (pss_one (ps_asg (pe_ix ix_list (pv 0) pe_int (fun _ _ => rfl)) (pg_sub (pv 0) pe_int set_list))) pss_nil)
      (pss_cons (ps_set (i := 2) sc_L_draw.nd rfl (by first | exact Or.inl rfl | exact Or.inr rfl) (pe_op op_mod (pe_ix ix_list (pv 0) pe_int (fun _ _ => rfl)) (pv 1)))
      (pss_cons (ps_asg (pe_op op_fdivW (pe_ix ix_list (pv 0) pe_int (fun _ _ => rfl)) (pv 1)) (pg_sub (pv 0) pe_int set_list))
      (pss_one (ps_ret (pv 2)))))), ?_⟩
    refine ⟨_, rfl, p, _, _, _, rfl, rfl, SqL.of hp, atI_nat (j := 0) rfl, rfl, _, rfl, ?_⟩
    refine ite2 (fun c => ?_) (fun c => ?_)
    · refine ⟨_, rfl, p, _, _, _, rfl, rfl, SqL.of hp, atI_nat (j := 1) rfl, _, rfl, p, _, _, 0, rfl, rfl, hp, rfl, ?_⟩
      refine ⟨_, rfl, p, _, _, _, rfl, rfl, SqL.of upd_same, atI_nat (j := 0) rfl, _, rfl, _, _, rfl, rfl, n0, ?_⟩
      refine ⟨_, rfl, p, _, _, _, rfl, rfl, SqL.of upd_same, atI_nat (j := 0) rfl, _, rfl, _, _, rfl, rfl, wide_div n0 (b := 100) (by have e : (2 : Nat) ^ 100 = 1267650600228229401496703205376 := rfl; rw [e]; omega) (by decide) (by decide), _, rfl, p, _, _, 0, rfl, rfl, upd_same, rfl, _, rfl, ?_⟩
      rw [upd_upd]
      exact q _ _ _ (Int.emod_nonneg _ (by omega)) (Int.emod_lt_of_pos _ n0) (Int.ediv_nonneg hb (by omega)) hb
    · refine ⟨_, rfl, p, _, _, _, rfl, rfl, SqL.of hp, atI_nat (j := 0) rfl, _, rfl, _, _, rfl, rfl, n0, ?_⟩
      refine ⟨_, rfl, p, _, _, _, rfl, rfl, SqL.of hp, atI_nat (j := 0) rfl, _, rfl, _, _, rfl, rfl, wide_div n0 (b := 100) (by have e : (2 : Nat) ^ 100 = 1267650600228229401496703205376 := rfl; rw [e]; omega) (by decide) (by decide), _, rfl, p, _, _, 0, rfl, rfl, hp, rfl, _, rfl, ?_⟩
      exact q _ _ _ (Int.emod_nonneg _ (by omega)) (Int.emod_lt_of_pos _ n0) (Int.ediv_nonneg ha (by omega)) hb
/-! ### what is a machine, of lists of lists of tuples of whole numbers -/
abbrev GE := Tup Int
abbrev GM := List (List GE)
def isE (R S : Nat) : List Int → Bool
  | [] => true
  | [p, w, r] => decide (0 ≤ p) && decide (p < (S : Int)) && (decide (w = -1) || decide (w = 1)) && decide (0 ≤ r) && decide (r < (R : Int))
  | _ => false
def isM (M : GM) : Bool := decide (1 ≤ M.length) && decide (M.length ≤ 4) && decide (2 ≤ (M.headD []).length) && decide ((M.headD []).length ≤ 4) && M.all (fun r => decide (r.length = (M.headD []).length)) && M.all (fun r => r.all fun e => isE M.length (M.headD []).length e.l)
theorem ints_of {F : Hp} {xs : List V} : ∀ {l : List Int}, IsAll F xs l → xs = l.map V.int := fun {l} h => by
  refine List.ext_getElem? fun i => ?_
  rw [List.getElem?_map]
  cases e : xs[i]? with
  | none =>
    have := List.getElem?_eq_none_iff.mp e
    rw [List.getElem?_eq_none (by rw [← h.1]; exact this)]; rfl
  | some x =>
    obtain ⟨z, hz, ez⟩ := h.get' e
    rw [hz]
    show some x = some (V.int z)
    rw [show x = V.int z from ez]
theorem all_intsT {F : Hp} (l : List Int) : IsAll F (l.map V.int) l := ⟨by rw [List.length_map], fun i x y h1 h2 => by
  rw [List.getElem?_map, h2] at h1
  exact (Option.some.inj h1).symm⟩
theorem inW (w : Int) : inV (V.int w) [V.int (-1), V.int 1] = (decide (w = -1) || decide (w = 1)) := by
  have h : ∀ a b : Int, (a == b) = decide (b = a) := fun a b => by rw [Bool.eq_iff_iff, beq_iff_eq, decide_eq_true_iff, eq_comm]
  simp [inV, eqV, h]
def sp_is_entry : Sp := fun vs H Q _ => ∃ (F : Hp) (v : V) (e : GE) (R S : Nat), vs = [v, .int R, .int S] ∧ Same F H ∧ Is F v e ∧ ∀ H', Gr mu0 F H F H' → Q (.bl (isE R S e.l)) H'
theorem ok_is_entry (t : Tx K mg) : FnOk P w K mg base CX0 1 t.a_is_entry t.fd_is_entry ["entry", "rows", "signs"] sp_is_entry := by
  refine t.F_is_entry.ok sc_is_entry (fun vs H Q E h => ?_) (fun cdv A outer s H vs Q E hr h => ?_)
  · obtain ⟨F, v, e, R, S, rfl, _⟩ := h
    rfl
  · obtain ⟨F, v, e, R, S, rfl, sF, hv, q⟩ := h
    refine ⟨_, (pss_cons (ps_if (pt_cmpR (op_eqD hr.units) (pv 0) (pe_tup pa_nil) (nomark _)) (pss_one (ps_ret pe_bl)) pss_nil)
      (pss_one (ps_ret (pe_and (pe_cmpR op_eq (pe_callB (id := "len") call_lenQ (by rfl) t.n_len (by decide +kernel) (pa_cons (pv 0) pa_nil)) pe_int (nomark _)) (pe_and (pe_chain op_le op_lt pe_int (pe_ix ix_tup (pv 0) pe_int (fun _ _ => rfl)) (pv 2)) (pe_and (pe_cmpR op_in_seq (pe_ix ix_tup (pv 0) pe_int (fun _ _ => rfl)) (pe_lst (pa_cons (pe_un un_neg pe_int) (pa_cons pe_int pa_nil))) (by rfl)) (pe_one (pe_chain op_le op_lt pe_int (pe_ix ix_tup (pv 0) pe_int (fun _ _ => rfl)) (pv 1))))))))), ?_⟩
    have g0 : Gr mu0 F H F H := Gr.refl sF
    refine ⟨_, rfl, nil_le, fun p np => ?_⟩
    have g1 : Gr mu0 F H F (upd H p (.tup [])) := g0.own np
    refine eq_dat (a := e) (b := (⟨[]⟩ : GE)) (hv.up g1.fh) ⟨p, _, rfl, upd_same, All2.nil⟩ ?_
    refine ⟨_, rfl, ?_⟩
    obtain ⟨l⟩ := e
    obtain ⟨a, xs, rfl, ha, hx⟩ := hv
    have hx : IsAll F xs l := hx
    obtain rfl := ints_of hx
    generalize upd H p (.tup []) = H1 at g1 ⊢
    have h1 := SqT.of (K := K) (g1.fh _ _ ha)
    match l, h1, q with
    | [], _, q => exact ifT (decide_eq_true rfl) (q _ g1)
    | [p], h1, q =>
      refine ifF (decide_eq_false (fun z => by cases z)) ?_
      exact ⟨_, rfl, a, _, rfl, .inr h1, rfl, _, rfl, ifF rfl (q _ g1)⟩
    | [p, w], h1, q =>
      refine ifF (decide_eq_false (fun z => by cases z)) ?_
      exact ⟨_, rfl, a, _, rfl, .inr h1, rfl, _, rfl, ifF rfl (q _ g1)⟩
    | p :: w :: r :: u :: l, h1, q =>
      refine ifF (decide_eq_false (fun z => by cases z)) ?_
      refine ⟨_, rfl, a, _, rfl, .inr h1, rfl, _, rfl, ifF ?_ (q _ g1)⟩
      refine decide_eq_false fun z => ?_
      have := V.int.inj z
      simp only [List.length_map, List.length_cons] at this
      omega
    | [p, w, r], h1, q =>
      refine ifF (decide_eq_false (fun z => by cases z)) ?_
      refine ⟨_, rfl, a, _, rfl, .inr h1, rfl, _, rfl, ifT rfl ?_⟩
      have q : ∀ H', Gr mu0 F H F H' → Q (.bl (decide (0 ≤ p) && decide (p < (S : Int)) && (decide (w = -1) || decide (w = 1)) && decide (0 ≤ r) && decide (r < (R : Int)))) H' := q
      refine ⟨_, rfl, a, _, _, _, rfl, rfl, h1, atI_nat (j := 0) rfl, _, _, rfl, rfl, _, rfl, ?_⟩
      by_cases o1 : 0 ≤ p
      · refine ifT (decide_eq_true o1) ⟨_, rfl, _, _, rfl, rfl, _, rfl, ?_⟩
        by_cases o2 : p < (S : Int)
        · refine ifT (decide_eq_true o2) ?_
          refine ⟨_, rfl, a, _, _, _, rfl, rfl, h1, atI_nat (j := 1) rfl, _, rfl, two_le, fun l nl => ?_⟩
          have g2 := g1.own (o := .lst [.int (-1), .int 1]) nl
          have h2 := SqT.of (K := K) (g2.fh _ _ ha)
          refine ⟨l, _, rfl, .inl (SqL.of upd_same), rfl, rfl, _, rfl, ?_⟩
          generalize upd H1 l (.lst [.int (-1), .int 1]) = H2 at g2 h2 ⊢
          rw [inW]
          cases o3 : (decide (w = -1) || decide (w = 1)) with
          | false => exact ifF rfl (by have z := q _ g2; rw [o3, Bool.and_false, Bool.false_and, Bool.false_and] at z; exact z)
          | true =>
            refine ifT rfl ?_
            rw [decide_eq_true o1, decide_eq_true o2, o3] at q
            refine ⟨_, rfl, a, _, _, _, rfl, rfl, h2, atI_nat (j := 2) rfl, _, _, rfl, rfl, _, rfl, ?_⟩
            by_cases o4 : 0 ≤ r
            · refine ifT (decide_eq_true o4) ⟨_, rfl, _, _, rfl, rfl, ?_⟩
              have z := q _ g2
              rw [decide_eq_true o4] at z
              exact z
            · refine ifF (decide_eq_false o4) ?_
              have z := q _ g2
              rw [decide_eq_false o4] at z
              exact z
        · refine ifF (decide_eq_false o2) ?_
          have z := q _ g1
          rw [decide_eq_false o2, Bool.and_false] at z
          exact z
      · refine ifF (decide_eq_false o1) ⟨_, rfl, ifF rfl ?_⟩
        have z := q _ g1
        rw [decide_eq_false o1] at z
        exact z
theorem mt1 {α β : Type} {f : α → β} {l : List α} {i : Nat} {x : α} (h : l[i]? = some x) : (l.take (i + 1)).map f = (l.take i).map f ++ [f x] := by
  rw [List.take_add_one, h, List.map_append]; rfl
theorem mt2 {α : Type} {f : α → Bool} {l : List α} {i : Nat} {x : α} (h : l[i]? = some x) : ((l.take i).map f).map V.bl ++ [V.bl (f x)] = ((l.take (i + 1)).map f).map V.bl := by
  rw [mt1 h, List.map_append]; rfl
theorem all_id {α : Type} (f : α → Bool) (l : List α) : (l.map f).all id = l.all f := by rw [List.all_map]; rfl
def sp_is_machine : Sp := fun vs H Q _ => ∃ (F : Hp) (v : V) (M : GM), vs = [v] ∧ Same F H ∧ Is F v M ∧ ∀ H', Gr mu0 F H F H' → Q (.bl (isM M)) H'
theorem ok_is_machine (t : Tx K mg) : FnOk P w K mg base CX0 2 t.a_is_machine t.fd_is_machine ["machine"] sp_is_machine := by
  refine t.F_is_machine.ok sc_is_machine (fun vs H Q E h => ?_) (fun cdv A outer s H vs Q E hr h => ?_)
  · obtain ⟨F, v, M, rfl, _⟩ := h
    rfl
  · obtain ⟨F, v, M, rfl, sF, hv, q⟩ := h
    refine ⟨_, (pss_cons (ps_set (i := 1) sc_is_machine.nd rfl (by first | exact Or.inl rfl | exact Or.inr rfl) (pe_callB (id := "len") call_lenQ (by rfl) t.n_len (by decide +kernel) (pa_cons (pv 0) pa_nil)))
      (pss_cons (ps_if (pt_not (pt_chain op_le op_le pe_int (pv 1) (pe_glob (v := .int 4) (by rfl) t.m_MOST_ROWS ⟨_, rfl⟩))) (pss_one (ps_ret pe_bl)) pss_nil)
      (pss_cons (ps_set (i := 2) sc_is_machine.nd rfl (by first | exact Or.inl rfl | exact Or.inr rfl) (pe_callB (id := "len") call_lenQ (by rfl) t.n_len (by decide +kernel) (pa_cons (pe_ix ix_list (pv 0) pe_int (fun _ _ => rfl)) pa_nil)))
      (pss_cons (ps_if (PW.pt (pw_or (pt_not (pt_chain op_le op_le pe_int (pv 2) (pe_glob (v := .int 4) (by rfl) t.m_MOST_SIGNS ⟨_, rfl⟩))) (pw_or1 (pt_not (pt_val (pe_callB (id := "all") (cr_all rfl) (by rfl) t.n_all (by decide +kernel) (pa_cons (pe_lc (own := [("row", 3)]) (g := gName 3) (tt := tYes) rfl sc_is_machine.nd (pi_list (pv 0)) (blkOk_by (N := N_is_machine) (sc := defScope s_is_machine) (by decide +kernel)) (fun _ _ _ _ _ => (pg_name (i := 3) sc_is_machine.nd rfl (by first | exact Or.inl rfl | exact Or.inr rfl))) (fun _ _ _ _ _ => pts_nil) (fun _ _ _ _ _ => (pe_cmpR op_eq (pe_callB (id := "len") (crK (K := K) (r := rLenQ) rfl call_lenQ) (by rfl) t.n_len (by decide +kernel) (pa_cons (pv 3) pa_nil)) (pv 2) (nomark _)))) pa_nil))))))) (pss_one (ps_ret pe_bl)) pss_nil)
      (pss_one (ps_ret (pe_callB (id := "all") (cr_all rfl) (by rfl) t.n_all (by decide +kernel) (pa_cons (pe_lc (own := [("row", 3)]) (g := gName 3) (tt := tYes) rfl sc_is_machine.nd (pi_list (pv 0)) (blkOk_by (N := N_is_machine) (sc := defScope s_is_machine) (by decide +kernel)) (fun _ _ _ _ _ => (pg_name (i := 3) sc_is_machine.nd rfl (by first | exact Or.inl rfl | exact Or.inr rfl))) (fun _ _ _ _ _ => pts_nil) (fun _ _ _ _ _ => (pe_callB (id := "all") (crK (K := K) (r := rAll) rfl (cr_all rfl)) (by rfl) t.n_all (by decide +kernel) (pa_cons (pe_lc (own := [("entry", 4)]) (g := gName 4) (tt := tYes) rfl sc_is_machine.nd (pi_listK (K := K) rfl (pv 3)) (blkOk_by (N := N_is_machine) (sc := { kind := PySem.ScopeKind.function, names := [(PySem.Str.ofString ".0", PySem.NameKind.local), (PySem.Str.ofString "row", PySem.NameKind.local), (PySem.Str.ofString "all", PySem.NameKind.globalImplicit), (PySem.Str.ofString "rows", PySem.NameKind.cell), (PySem.Str.ofString "signs", PySem.NameKind.cell)], isGenerator := false, isCoroutine := false }) (by decide +kernel)) (fun _ _ _ _ _ => (pg_name (i := 4) sc_is_machine.nd rfl (by first | exact Or.inl rfl | exact Or.inr rfl))) (fun _ _ _ _ _ => pts_nil) (fun _ _ _ _ _ => (pe_call (ok_is_entry t) (hr.mono (by decide)) (by rfl) t.m_is_entry t.F_is_entry.kp t.b_is_entry .nil pass0 (pa_cons (pv 4) (pa_cons (pv 1) (pa_cons (pv 2) pa_nil)))))) pa_nil)))) pa_nil)))))))), ?_⟩
    have g0 : Gr mu0 F H F H := Gr.refl sF
    obtain ⟨a, rs, rfl, ha, hrs⟩ := hv
    have h0 := sF _ _ ha
    have lr := hrs.1
    refine ⟨_, rfl, a, rs, rfl, .inl (SqL.of h0), _, rfl, _, _, rfl, rfl, _, rfl, ?_⟩
    by_cases c1 : 1 ≤ M.length
    case neg =>
      refine ifF (decide_eq_false (by omega)) ⟨_, rfl, ifT rfl ?_⟩
      have z := q _ g0
      unfold isM at z
      rw [decide_eq_false c1] at z
      exact z
    refine ifT (decide_eq_true (by omega)) ⟨_, _, rfl, rfl, _, rfl, ?_⟩
    by_cases c2 : M.length ≤ 4
    case neg =>
      refine ifT (by rw [decide_eq_false (show ¬ (rs.length : Int) ≤ 4 by omega)]; rfl) ?_
      have z := q _ g0
      unfold isM at z
      rw [decide_eq_true c1, decide_eq_false c2] at z
      exact z
    refine ifF (by rw [decide_eq_true (show (rs.length : Int) ≤ 4 by omega)]; rfl) ?_
    have l0 : 0 < rs.length := by omega
    have hx0 : rs[0]? = some rs[0] := List.getElem?_eq_getElem l0
    obtain ⟨row0, hM0, a0, es0, e0, ha0, hes0⟩ := hrs.get' hx0
    have hb0 := sF _ _ ha0
    have ls0 : es0.length = row0.length := hes0.1
    have eh : M.headD [] = row0 := by
      cases M with
      | nil => simp at hM0
      | cons x M => exact Option.some.inj hM0
    refine ⟨_, rfl, a, rs, _, _, rfl, rfl, SqL.of h0, atI_nat (j := 0) hx0, ?_⟩
    rw [e0]
    refine ⟨a0, es0, rfl, .inl (SqL.of hb0), _, rfl, _, _, rfl, rfl, _, rfl, ?_⟩
    unfold isM at q
    rw [eh, decide_eq_true c1, decide_eq_true c2] at q
    by_cases c3 : 2 ≤ row0.length
    case neg =>
      refine ifF (decide_eq_false (by omega)) ⟨_, rfl, ifT rfl ?_⟩
      have z := q _ g0
      rw [decide_eq_false c3] at z
      exact z
    refine ifT (decide_eq_true (by omega)) ⟨_, _, rfl, rfl, _, rfl, ?_⟩
    by_cases c4 : row0.length ≤ 4
    case neg =>
      refine ifT (by rw [decide_eq_false (show ¬ (es0.length : Int) ≤ 4 by omega)]; rfl) ?_
      have z := q _ g0
      rw [decide_eq_true c3, decide_eq_false c4] at z
      exact z
    refine ifF (by rw [decide_eq_true (show (es0.length : Int) ≤ 4 by omega)]; rfl) ?_
    rw [decide_eq_true c3, decide_eq_true c4] at q
    have q : ∀ H', Gr mu0 F H F H' → Q (.bl (M.all (fun r => decide (r.length = row0.length)) && M.all (fun r => r.all fun e => isE M.length row0.length e.l))) H' := fun H' g => by
      have z := q H' g
      rw [Bool.and_self, Bool.and_self, Bool.and_self, Bool.true_and] at z
      exact z
    refine ⟨_, rfl, a, rfl, ⟨_, SqL.of h0⟩, fun D nD => lc_list (K := K) (a := a) (xs := rs) (fun i G => Gr mu0 F H F G ∧ H D = none ∧ G D = some (.lst (((M.take i).map fun r => decide (r.length = row0.length)).map V.bl))) ⟨g0.own nD, nD, upd_same⟩ (fun i G _ p => SqL.of (p.1.fh _ _ ha)) ?_ ?_⟩
    · rintro i x G hi ⟨gG, nH, hD⟩
      obtain ⟨row, hMi, b, es, rfl, hb, hes⟩ := hrs.get' hi
      have il : i < rs.length := (List.getElem?_eq_some_iff.mp hi).1
      refine ⟨rfl, yes ⟨_, rfl, b, es, rfl, .inl (SqL.of (gG.fh _ _ hb)), _, rfl, rfl, _, hD, by rw [List.length_map, List.length_map, List.length_take]; exact lt_size (by omega), ?_⟩⟩
      have e : (V.bl (decide (V.int (es.length : Int) = V.int (es0.length : Int)))) = V.bl (decide (row.length = row0.length)) := by
        rw [show es.length = row.length from hes.1, ls0]
        congr 1
        exact decide_eq_decide.mpr ⟨fun z => by have := V.int.inj z; omega, fun z => by rw [z]⟩
      rw [e, mt2 (f := fun r : List GE => decide (r.length = row0.length)) hMi]
      exact ⟨gG.set (ne_of_none' sF nH) (.inl nH), nH, upd_same⟩
    rintro G ⟨gG, nH, hD⟩
    rw [lr, List.take_length] at hD
    refine ⟨D, _, rfl, SqL.of hD, _, rfl, ?_⟩
    rw [all_id]
    cases c5 : M.all (fun r => decide (r.length = row0.length)) with
    | false =>
      refine ifT rfl ?_
      have z := q _ gG
      rw [c5] at z
      exact z
    | true =>
      refine ifF rfl ?_
      rw [c5] at q
      have rl : ∀ row ∈ M, row.length ≤ 4 := fun row m => by
        have := of_decide_eq_true (List.all_eq_true.mp c5 row m)
        omega
      refine ⟨_, rfl, a, rfl, ⟨_, SqL.of (gG.fh _ _ ha)⟩, fun D1 nD1 => lc_list (K := K) (a := a) (xs := rs) (fun i G1 => Gr mu0 F H F G1 ∧ H D1 = none ∧ G1 D1 = some (.lst (((M.take i).map fun r => r.all fun e => isE M.length row0.length e.l).map V.bl))) ⟨gG.own nD1, gG.th _ nD1, upd_same⟩ (fun i G1 _ p => SqL.of (p.1.fh _ _ ha)) ?_ ?_⟩
      · rintro i x G1 hi ⟨gG1, nH1, hD1⟩
        obtain ⟨row, hMi, b, es, rfl, hb, hes⟩ := hrs.get' hi
        have l4 := rl row (List.mem_of_getElem? hMi)
        have il : i < rs.length := (List.getElem?_eq_some_iff.mp hi).1
        refine ⟨rfl, yes ⟨_, rfl, b, rfl, ⟨_, SqL.of (gG1.fh _ _ hb)⟩, fun D2 nD2 => lc_list (K := K) (a := b) (xs := es) (fun j G2 => Gr mu0 F H F G2 ∧ H D2 = none ∧ D1 ≠ D2 ∧ G2 D1 = some (.lst (((M.take i).map fun r => r.all fun e => isE M.length row0.length e.l).map V.bl)) ∧ G2 D2 = some (.lst (((row.take j).map fun e => isE M.length row0.length e.l).map V.bl)))
          ⟨gG1.own nD2, gG1.th _ nD2, ne_of_none hD1 nD2, by rw [upd_ne (ne_of_none hD1 nD2)]; exact hD1, upd_same⟩ (fun j G2 _ p => SqL.of (p.1.fh _ _ hb)) ?_ ?_⟩⟩
        · rintro j y G2 hj ⟨gG2, nH2, d12, h1, h2⟩
          obtain ⟨e, hej, hye⟩ := hes.get' hj
          have jl : j < es.length := (List.getElem?_eq_some_iff.mp hj).1
          have le : es.length = row.length := hes.1
          refine ⟨rfl, yes ⟨_, rfl, _, rfl, _, rfl, F, y, e, M.length, row0.length, ?_, gG2.fh, hye, fun G3 g3 => ?_⟩⟩
          · rw [lr, ls0]; rfl
          · have gH3 := gG2.trans g3
            refine ⟨_, g3.fr _ _ h2 (fun z => z), by rw [List.length_map, List.length_map, List.length_take]; exact lt_size (by omega), ?_⟩
            rw [mt2 (f := fun e : GE => isE M.length row0.length e.l) hej]
            exact ⟨gH3.set (sF.free nH2) (.inl nH2), nH2, d12, by rw [upd_ne d12]; exact g3.fr _ _ h1 (fun z => z), upd_same⟩
        · rintro G2 ⟨gG2, nH2, d12, h1, h2⟩
          rw [hes.1, List.take_length] at h2
          refine ⟨D2, _, rfl, SqL.of h2, ?_⟩
          refine ⟨_, h1, by rw [List.length_map, List.length_map, List.length_take]; exact lt_size (by omega), ?_⟩
          rw [all_id, mt2 (f := fun r : List GE => r.all fun e => isE M.length row0.length e.l) hMi]
          exact ⟨gG2.set (sF.free nH1) (.inl nH1), nH1, upd_same⟩
      · rintro G1 ⟨gG1, nH1, hD1⟩
        rw [lr, List.take_length] at hD1
        refine ⟨D1, _, rfl, SqL.of hD1, ?_⟩
        rw [all_id]
        exact q _ gG1
/-- must_machine: what is none is refused with NoMachine -/
def sp_mustX (C : Addr) : Sp := fun vs H Q E => ∃ (F : Hp) (v : V) (M : GM), vs = [v] ∧ Same F H ∧ Is F v M ∧ (isM M = true → ∀ H', Gr mu0 F H F H' → Q .non H') ∧ (isM M = false → ∀ H', Gr mu0 F H F H' → E (.ref C) none H')
theorem okx_must_machine (t : Tx K mg) : FnOk P w K mg base (L2.CX P w) 3 t.a_must_machine t.fd_must_machine ["machine"] (sp_mustX t.C_NoMachine) := by
  refine t.F_must_machine.okX sc_must_machine (fun vs H Q E h => ?_) (fun cdv A outer s H vs Q E hr h => ?_)
  · obtain ⟨F, v, M, rfl, _⟩ := h
    rfl
  · obtain ⟨F, v, M, rfl, sF, hv, q1, q2⟩ := h
    refine ⟨_, (pss_one (ps_if (pt_not (pt_val (pe_call (ok_is_machine t) (hr.mono (by decide)) (by rfl) t.m_is_machine t.F_is_machine.kp t.b_is_machine .nil pass0 (pa_cons (pv 0) pa_nil)))) (pss_one (ps_raise rfl (takes_of rfl rfl rfl rfl) (pmk_own PySem.F.excBase_ValueError t.x_NoMachine t.m_NoMachine t.k_NoMachine (raises_own t.b_NoMachine t.t_NoMachine) (by rfl)))) pss_nil)), ?_⟩
    refine ⟨_, rfl, F, v, M, rfl, sF, hv, fun H' g => ⟨_, rfl, ?_⟩⟩
    cases e : isM M with
    | true => exact ifF rfl (q1 e H' g)
    | false => exact ifT rfl (q2 e H' g)
/-! ### machines as lists of lists of tuples -/
def entL : Ent → GE
  | .emp => ⟨[]⟩
  | .go p w r => ⟨[p, w, r]⟩
def gm (M : Mach) : GM := M.map fun r => r.map entL
theorem entL_is {F : Hp} {v : V} {e : Ent} (h : Is F v e) : Is F v (entL e) := by
  obtain ⟨a, rfl, h⟩ := h
  cases e with
  | emp => exact ⟨a, [], rfl, h, All2.nil⟩
  | go p w r => exact ⟨a, _, rfl, h, all_intsT [p, w, r]⟩
theorem all2_map {α β γ : Type} {r : α → β → Prop} {s : α → γ → Prop} {f : β → γ} (h : ∀ x y, r x y → s x (f y)) {xs : List α} {ys : List β} (a : All2 r xs ys) : All2 s xs (ys.map f) :=
  ⟨by rw [List.length_map]; exact a.1, fun i x y h1 h2 => by
    rw [List.getElem?_map] at h2
    obtain ⟨z, hz, rfl⟩ := Option.map_eq_some_iff.mp h2
    exact h x z (a.2 i x z h1 hz)⟩
theorem gm_is {F : Hp} {v : V} {M : Mach} (h : Is F v M) : Is F v (gm M) := by
  obtain ⟨a, xs, rfl, h1, h2⟩ := h
  refine ⟨a, xs, rfl, h1, all2_map (fun x y z => ?_) h2⟩
  obtain ⟨b, ys, rfl, h3, h4⟩ := z
  exact ⟨b, ys, rfl, h3, all2_map (fun _ _ z => entL_is z) h4⟩
/-! ### machines that are machines -/
structure EOk (R S : Nat) (e : Ent) : Prop where
  ok : ∀ p w r, e = .go p w r → (0 ≤ p ∧ p < S) ∧ (w = -1 ∨ w = 1) ∧ 0 ≤ r ∧ r < R
structure MOk (M : Mach) (R S : Nat) : Prop where
  r1 : 1 ≤ R
  r4 : R ≤ 4
  s2 : 2 ≤ S
  s4 : S ≤ 4
  len : M.length = R
  row : ∀ r ∈ M, r.length = S
  ent : ∀ r ∈ M, ∀ e ∈ r, EOk R S e
/-! ### must_machine lets machines by (of the general is_machine) -/
theorem isM_gm {M : Mach} {R S : Nat} (h : MOk M R S) : isM (gm M) = true := by
  have lM : (gm M).length = R := by unfold gm; rw [List.length_map]; exact h.len
  have hd : ((gm M).headD []).length = S := by
    cases M with
    | nil =>
      have h1 := h.len
      have h2 := h.r1
      have h1 : 0 = R := h1
      omega
    | cons r0 rest =>
      show (r0.map entL).length = S
      rw [List.length_map]
      exact h.row r0 List.mem_cons_self
  unfold isM
  rw [lM, hd, decide_eq_true h.r1, decide_eq_true h.r4, decide_eq_true h.s2, decide_eq_true h.s4]
  have a1 : ((gm M).all fun r => decide (r.length = S)) = true := List.all_eq_true.mpr fun r m => by
    obtain ⟨r0, m0, rfl⟩ := List.mem_map.mp m
    rw [List.length_map]
    exact decide_eq_true (h.row r0 m0)
  have a2 : ((gm M).all fun r => r.all fun e => isE R S e.l) = true := List.all_eq_true.mpr fun r m => List.all_eq_true.mpr fun e k => by
    obtain ⟨r0, m0, rfl⟩ := List.mem_map.mp m
    obtain ⟨e0, k0, rfl⟩ := List.mem_map.mp k
    have eo := h.ent r0 m0 e0 k0
    cases e0 with
    | emp => rfl
    | go p w r =>
      obtain ⟨⟨o1, o2⟩, o3, o4, o5⟩ := eo.ok _ _ _ rfl
      show (decide (0 ≤ p) && decide (p < (S : Int)) && (decide (w = -1) || decide (w = 1)) && decide (0 ≤ r) && decide (r < (R : Int))) = true
      rw [decide_eq_true o1, decide_eq_true o2, decide_eq_true o4, decide_eq_true o5]
      rcases o3 with o3 | o3 <;> (rw [o3]; rfl)
  rw [a1, a2]; rfl
def sp_must_machine : Sp := fun vs H Q _ => ∃ (F : Hp) (v : V) (M : Mach) (R S : Nat), vs = [v] ∧ Same F H ∧ Is F v M ∧ MOk M R S ∧ ∀ H', Gr mu0 F H F H' → Q .non H'
theorem ok_must_machine (t : Tx K mg) : FnOk P w K mg base CX0 3 t.a_must_machine t.fd_must_machine ["machine"] sp_must_machine := by
  refine t.F_must_machine.ok sc_must_machine (fun vs H Q E h => ?_) (fun cdv A outer s H vs Q E hr h => ?_)
  · obtain ⟨F, v, M, R, S, rfl, _⟩ := h
    rfl
  · obtain ⟨F, v, M, R, S, rfl, sF, hv, hM, q⟩ := h
    refine ⟨_, (pss_one (ps_if (pt_not (pt_val (pe_call (ok_is_machine t) (hr.mono (by decide)) (by rfl) t.m_is_machine t.F_is_machine.kp t.b_is_machine .nil pass0 (pa_cons (pv 0) pa_nil)))) (pss_one ps_never) pss_nil)), ?_⟩
    refine ⟨_, rfl, F, v, gm M, rfl, sF, gm_is hv, fun H' g => ⟨_, rfl, ?_⟩⟩
    rw [isM_gm hM]
    exact ifF rfl (q _ g)
/-! ### join within a comprehension -/
def tJoinK (K : PySem.W.Frag) (to te : TE) : TE := tM1 (fun x xs H Q => ∃ a p, ∃ ys : List Str, x = .str a ∧ xs = [.ref p] ∧ (SqL K H p (ys.map V.str) ∨ SqT K H p (ys.map V.str)) ∧ (ys.map (·.length)).sum + ys.length * a.length ≤ 16777216 ∧ Q (.str (Txt.join a ys)) H) to te
theorem pe_joinK {X : Cx} {K : PySem.W.Frag} {o e : Expr} {to te : TE} {apos pos : Pos} (ek : X.K = K) (ho : PE X o to) (he : PE X e te) (hs : starEach [e] X.env = [(false, eval e X.env)] := by rfl) (hbase : attributeBase o "join" X.env (eval o X.env) = eval o X.env := by rfl) (hline : (apos.endLine == pos.line) = true := by rfl) :
    PE X (.Call (.Attribute o "join" apos) [e] [] pos) (tJoinK K to te) := by
  subst ek
  exact pe_join ho he hs hbase hline
/-! ### texts of entries and of machines -/
def rowT (r : Int) : Str := if r = 0 then "A" else if r = 1 then "B" else if r = 2 then "C" else "D"
def wayT (w : Int) : Str := if w = 1 then "R" else "L"
def textE : List Int → Str
  | [] => "---"
  | [p, w, r] => toString p ++ wayT w ++ rowT r
  | _ => ""
theorem rowT_at {r : Int} (h0 : 0 ≤ r) (h1 : r < 4) : ∃ c, atI ("ABCD" : Str).cps.toList r = some c ∧ (⟨#[c]⟩ : Str) = rowT r := by
  have h : r = 0 ∨ r = 1 ∨ r = 2 ∨ r = 3 := by omega
  rcases h with rfl | rfl | rfl | rfl
  · exact ⟨65, by decide +kernel, by decide +kernel⟩
  · exact ⟨66, by decide +kernel, by decide +kernel⟩
  · exact ⟨67, by decide +kernel, by decide +kernel⟩
  · exact ⟨68, by decide +kernel, by decide +kernel⟩
theorem wayT_at (w : Int) : ∃ c, atI ("LR" : Str).cps.toList (if decide (V.int w = V.int 1) = true then 1 else 0) = some c ∧ (⟨#[c]⟩ : Str) = wayT w := by
  by_cases e : w = 1
  · subst e
    exact ⟨82, by decide +kernel, by decide +kernel⟩
  · rw [if_neg (by rw [decide_eq_true_iff]; exact fun z => e (V.int.inj z))]
    unfold wayT
    rw [if_neg e]
    exact ⟨76, by decide +kernel, by decide +kernel⟩
theorem rowT_len (r : Int) : (rowT r).length = 1 := by
  unfold rowT
  split
  · decide +kernel
  split
  · decide +kernel
  split
  · decide +kernel
  · decide +kernel
theorem wayT_len (w : Int) : (wayT w).length = 1 := by
  unfold wayT
  split
  · decide +kernel
  · decide +kernel
theorem figT_len {p : Int} (h0 : 0 ≤ p) (h1 : p < 4) : (toString p : Str).length = 1 := by
  have h : p = 0 ∨ p = 1 ∨ p = 2 ∨ p = 3 := by omega
  rcases h with rfl | rfl | rfl | rfl <;> decide +kernel
theorem str_len_app (a b : Str) : (a ++ b).length = a.length + b.length := by
  show (a.cps ++ b.cps).size = _
  rw [Array.size_append]; rfl
theorem isE_cases {R S : Nat} {l : List Int} (h : isE R S l = true) : l = [] ∨ ∃ p w r, l = [p, w, r] ∧ 0 ≤ p ∧ p < (S : Int) ∧ (w = -1 ∨ w = 1) ∧ 0 ≤ r ∧ r < (R : Int) := by
  match l, h with
  | [], _ => exact .inl rfl
  | [p], h => cases h
  | [p, w], h => cases h
  | p :: w :: r :: u :: l, h => cases h
  | [p, w, r], h =>
    have h : (decide (0 ≤ p) && decide (p < (S : Int)) && (decide (w = -1) || decide (w = 1)) && decide (0 ≤ r) && decide (r < (R : Int))) = true := h
    simp only [Bool.and_eq_true, Bool.or_eq_true, decide_eq_true_iff] at h
    exact .inr ⟨p, w, r, rfl, h.1.1.1.1, h.1.1.1.2, h.1.1.2, h.1.2, h.2⟩
theorem textE_len {R S : Nat} {l : List Int} (h : isE R S l = true) (hS : S ≤ 4) : (textE l).length = 3 := by
  rcases isE_cases h with rfl | ⟨p, w, r, rfl, p0, p1, _, _, _⟩
  · decide +kernel
  · show (toString p ++ wayT w ++ rowT r).length = 3
    rw [str_len_app, str_len_app, figT_len p0 (by omega), wayT_len, rowT_len]
def textR (r : List GE) : Str := Txt.join "," (r.map fun e => textE e.l)
def textM (M : GM) : Str := Txt.join " " (M.map textR)
structure IsM (M : GM) (R S : Nat) : Prop where
  r1 : 1 ≤ R
  r4 : R ≤ 4
  s2 : 2 ≤ S
  s4 : S ≤ 4
  len : M.length = R
  row : ∀ r ∈ M, r.length = S
  ent : ∀ r ∈ M, ∀ e ∈ r, isE R S e.l = true
theorem isM_of {M : GM} (h : isM M = true) : ∃ R S, IsM M R S := by
  unfold isM at h
  simp only [Bool.and_eq_true, decide_eq_true_iff, List.all_eq_true] at h
  obtain ⟨⟨⟨⟨⟨h1, h2⟩, h3⟩, h4⟩, h5⟩, h6⟩ := h
  exact ⟨M.length, (M.headD []).length, h1, h2, h3, h4, rfl, h5, h6⟩
theorem sum_le_all {l : List Nat} {k : Nat} (h : ∀ x ∈ l, x ≤ k) : l.sum ≤ l.length * k := by
  induction l with
  | nil => exact Nat.zero_le _
  | cons x l ih =>
    have h1 := ih fun y m => h y (List.mem_cons_of_mem _ m)
    have h2 := h x List.mem_cons_self
    rw [List.sum_cons, List.length_cons, Nat.add_mul]
    omega
theorem join_le (sep : Str) (ws : List Str) {k : Nat} (h : ∀ x ∈ ws, x.length ≤ k) : (ws.map (·.length)).sum + ws.length * sep.length ≤ ws.length * (k + sep.length) := by
  have z := sum_le_all (l := ws.map (·.length)) (k := k) fun x m => by
    obtain ⟨y, hy, rfl⟩ := List.mem_map.mp m
    exact h y hy
  rw [List.length_map] at z
  rw [Nat.mul_add]
  omega
theorem join_len_le (sep : Str) (ws : List Str) {k : Nat} (h : ∀ x ∈ ws, x.length ≤ k) : (Txt.join sep ws).length ≤ ws.length * (k + sep.length) := by
  refine Nat.le_trans ?_ (join_le sep ws h)
  rw [TL.join_eq]
  exact StrLaws.join_length_le sep ws
theorem comma_len : ("," : Str).length = 1 := by decide +kernel
theorem blank_len : (" " : Str).length = 1 := by decide +kernel
theorem textR_len {R S : Nat} {r : List GE} (h : ∀ e ∈ r, isE R S e.l = true) (hS : S ≤ 4) : ∀ x ∈ r.map fun e => textE e.l, x.length ≤ 3 := fun x m => by
  obtain ⟨e, he, rfl⟩ := List.mem_map.mp m
  exact Nat.le_of_eq (textE_len (h e he) hS)
theorem textR_le {R S : Nat} {r : List GE} (h : ∀ e ∈ r, isE R S e.l = true) (hS : S ≤ 4) (hr : r.length ≤ 4) : (textR r).length ≤ 16 := by
  have z := join_len_le "," _ (textR_len h hS)
  rw [List.length_map, comma_len] at z
  show (Txt.join "," _).length ≤ 16
  have : r.length * (3 + 1) ≤ 4 * 4 := Nat.mul_le_mul hr (Nat.le_refl 4)
  omega
def sp_show_entry : Sp := fun vs H Q _ => ∃ (F : Hp) (v : V) (e : GE) (R S : Nat), vs = [v] ∧ Same F H ∧ Is F v e ∧ isE R S e.l = true ∧ R ≤ 4 ∧ S ≤ 4 ∧ ∀ H', Gr mu0 F H F H' → Q (.str (textE e.l)) H'
theorem log_le {p : Int} (h0 : 0 ≤ p) (h1 : p < 4) : p.natAbs.log2 < 1920 := by
  have h : p = 0 ∨ p = 1 ∨ p = 2 ∨ p = 3 := by omega
  rcases h with rfl | rfl | rfl | rfl <;> decide +kernel
theorem ok_show_entry (t : Tx K mg) : FnOk P w K mg base CX0 1 t.a_show_entry t.fd_show_entry ["entry"] sp_show_entry := by
  refine t.F_show_entry.ok sc_show_entry (fun vs H Q E h => ?_) (fun cdv A outer s H vs Q E hr h => ?_)
  · obtain ⟨F, v, e, R, S, rfl, _⟩ := h
    rfl
  · obtain ⟨F, v, e, R, S, rfl, sF, hv, he, hR, hS, q⟩ := h
    refine ⟨_, (pss_cons (ps_if (pt_cmpR (op_eqD hr.units) (pv 0) (pe_tup pa_nil) (nomark _)) (pss_one (ps_ret pe_str)) pss_nil)
      (pss_one (ps_ret (pe_op op_add_str (pe_op op_add_str (pe_callTy (T := "str") call_str_int (by rfl) t.n_str (by decide +kernel) (pa_cons (pe_ix ix_tup (pv 0) pe_int (fun _ _ => rfl)) pa_nil)) (pe_ix ix_str pe_str (pe_callTy (T := "int") call_int1 (by rfl) t.n_int (by decide +kernel) (pa_cons (pe_cmpR op_eq (pe_ix ix_tup (pv 0) pe_int (fun _ _ => rfl)) pe_int (nomark _)) pa_nil)) (fun _ _ => rfl))) (pe_ix ix_str (pe_glob (v := .str "ABCD") (by rfl) t.m_ROWS ⟨_, rfl⟩) (pe_ix ix_tup (pv 0) pe_int (fun _ _ => rfl)) (fun _ _ => rfl)))))), ?_⟩
    have g0 : Gr mu0 F H F H := Gr.refl sF
    refine ⟨_, rfl, nil_le, fun p np => ?_⟩
    have g1 : Gr mu0 F H F (upd H p (.tup [])) := g0.own np
    refine eq_dat (a := e) (b := (⟨[]⟩ : GE)) (hv.up g1.fh) ⟨p, _, rfl, upd_same, All2.nil⟩ ?_
    refine ⟨_, rfl, ?_⟩
    obtain ⟨l⟩ := e
    obtain ⟨a, xs, rfl, ha, hx⟩ := hv
    have hx : IsAll F xs l := hx
    obtain rfl := ints_of hx
    generalize upd H p (.tup []) = H1 at g1 ⊢
    have h1 := SqT.of (K := K) (g1.fh _ _ ha)
    rcases isE_cases he with e | ⟨p0, w, r, e, o1, o2, o3, o4, o5⟩
    · have e : l = [] := e
      subst e
      exact ifT (decide_eq_true rfl) (q _ g1)
    · have e : l = [p0, w, r] := e
      subst e
      refine ifF (decide_eq_false (fun z => by cases z)) ?_
      obtain ⟨c1, hc1, ec1⟩ := wayT_at w
      obtain ⟨c2, hc2, ec2⟩ := rowT_at o4 (show r < 4 by omega)
      refine ⟨_, rfl, a, _, _, _, rfl, rfl, h1, atI_nat (j := 0) rfl, p0, rfl, log_le o1 (by omega), ?_⟩
      refine ⟨_, rfl, a, _, _, _, rfl, rfl, h1, atI_nat (j := 1) rfl, rfl, .inr ⟨_, rfl, _, _, c1, rfl, rfl, by decide +kernel, hc1, ?_⟩⟩
      rw [ec1]
      refine ⟨_, _, rfl, rfl, ?_, ?_⟩
      · rw [figT_len o1 (by omega), wayT_len]; exact two_le
      refine ⟨_, rfl, a, _, _, _, rfl, rfl, h1, atI_nat (j := 2) rfl, _, _, c2, rfl, rfl, by decide +kernel, hc2, ?_⟩
      rw [ec2]
      refine ⟨_, _, rfl, rfl, ?_, q _ g1⟩
      rw [str_len_app, figT_len o1 (by omega), wayT_len, rowT_len]; exact three_le
theorem mt3 {α : Type} {f : α → Str} {l : List α} {i : Nat} {x : α} (h : l[i]? = some x) : ((l.take i).map f).map V.str ++ [V.str (f x)] = ((l.take (i + 1)).map f).map V.str := by
  rw [mt1 h, List.map_append]; rfl
/-- a machine's text; what is none is refused -/
def sp_showX (C : Addr) : Sp := fun vs H Q E => ∃ (F : Hp) (v : V) (M : GM), vs = [v] ∧ Same F H ∧ Is F v M ∧ (isM M = true → ∀ H', Gr mu0 F H F H' → Q (.str (textM M)) H') ∧ (isM M = false → ∀ H', Gr mu0 F H F H' → E (.ref C) none H')
theorem okx_show_machine (t : Tx K mg) : FnOk P w K mg base (L2.CX P w) 4 t.a_show_machine t.fd_show_machine ["machine"] (sp_showX t.C_NoMachine) := by
  refine t.F_show_machine.okX sc_show_machine (fun vs H Q E h => ?_) (fun cdv A outer s H vs Q E hr h => ?_)
  · obtain ⟨F, v, M, rfl, _⟩ := h
    rfl
  · obtain ⟨F, v, M, rfl, sF, hv, q1, q2⟩ := h
    refine ⟨_, (pss_cons (ps_expr (pe_callS (okx_must_machine t) (hr.mono (by decide)) (by rfl) t.m_must_machine t.F_must_machine.kp t.b_must_machine (fun σ => passAt (takes_of rfl rfl rfl rfl) σ) (pa_cons (pv 0) pa_nil)))
      (pss_one (ps_ret (pe_join pe_str (pe_lc (own := [("row", 2)]) (g := gName 2) (tt := tYes) rfl sc_show_machine.nd (pi_list (pv 0)) (blkOk_by (N := N_show_machine) (sc := defScope s_show_machine) (by decide +kernel)) (fun _ _ _ _ _ => (pg_name (i := 2) sc_show_machine.nd rfl (by first | exact Or.inl rfl | exact Or.inr rfl))) (fun _ _ _ _ _ => pts_nil) (fun _ _ _ _ _ => (pe_joinK (K := K) rfl pe_str (pe_lc (own := [("entry", 1)]) (g := gName 1) (tt := tYes) rfl sc_show_machine.nd (pi_listK (K := K) rfl (pv 2)) (blkOk_by (N := N_show_machine) (sc := { kind := PySem.ScopeKind.function, names := [(PySem.Str.ofString ".0", PySem.NameKind.local), (PySem.Str.ofString "row", PySem.NameKind.local)], isGenerator := false, isCoroutine := false }) (by decide +kernel)) (fun _ _ _ _ _ => (pg_name (i := 1) sc_show_machine.nd rfl (by first | exact Or.inl rfl | exact Or.inr rfl))) (fun _ _ _ _ _ => pts_nil) (fun _ _ _ _ _ => (pe_call (ok_show_entry t) (hr.mono (by decide)) (by rfl) t.m_show_entry t.F_show_entry.kp t.b_show_entry .nil pass0 (pa_cons (pv 1) pa_nil))))))))))), ?_⟩
    refine ⟨_, rfl, F, v, M, rfl, sF, hv, fun eM H0 g0 => ?_, fun e H' g => q2 e H' g⟩
    have q := q1 eM
    obtain ⟨R, S, hM⟩ := isM_of eM
    obtain ⟨a, rs, rfl, ha, hrs⟩ := hv
    have lr := hrs.1
    have lM := hM.len
    have r4 := hM.r4
    have s4 := hM.s4
    refine ⟨⟨_, rfl⟩, _, rfl, a, rfl, ⟨_, SqL.of (g0.fh _ _ ha)⟩, fun D1 nD1 => lc_list (K := K) (a := a) (xs := rs) (fun i G1 => Gr mu0 F H F G1 ∧ H D1 = none ∧ G1 D1 = some (.lst (((M.take i).map textR).map V.str))) ⟨g0.own nD1, g0.th _ nD1, upd_same⟩ (fun i G1 _ p => SqL.of (p.1.fh _ _ ha)) ?_ ?_⟩
    · rintro i x G1 hi ⟨gG1, nH1, hD1⟩
      obtain ⟨row, hMi, b, es, rfl, hb, hes⟩ := hrs.get' hi
      have il : i < rs.length := (List.getElem?_eq_some_iff.mp hi).1
      have mr := List.mem_of_getElem? hMi
      have hrow := hM.row row mr
      have hent := hM.ent row mr
      refine ⟨rfl, yes ⟨⟨_, rfl⟩, _, rfl, b, rfl, ⟨_, SqL.of (gG1.fh _ _ hb)⟩, fun D2 nD2 => lc_list (K := K) (a := b) (xs := es) (fun j G2 => Gr mu0 F H F G2 ∧ H D2 = none ∧ D1 ≠ D2 ∧ G2 D1 = some (.lst (((M.take i).map textR).map V.str)) ∧ G2 D2 = some (.lst (((row.take j).map fun e => textE e.l).map V.str)))
        ⟨gG1.own nD2, gG1.th _ nD2, ne_of_none hD1 nD2, by rw [upd_ne (ne_of_none hD1 nD2)]; exact hD1, upd_same⟩ (fun j G2 _ p => SqL.of (p.1.fh _ _ hb)) ?_ ?_⟩⟩
      · rintro j y G2 hj ⟨gG2, nH2, d12, h1, h2⟩
        obtain ⟨e, hej, hye⟩ := hes.get' hj
        have jl : j < es.length := (List.getElem?_eq_some_iff.mp hj).1
        have le : es.length = row.length := hes.1
        refine ⟨rfl, yes ⟨_, rfl, F, y, e, R, S, rfl, gG2.fh, hye, hent e (List.mem_of_getElem? hej), r4, s4, fun G3 g3 => ?_⟩⟩
        have gH3 := gG2.trans g3
        refine ⟨_, g3.fr _ _ h2 (fun z => z), by rw [List.length_map, List.length_map, List.length_take]; exact lt_size (by omega), ?_⟩
        rw [mt3 (f := fun e : GE => textE e.l) hej]
        exact ⟨gH3.set (sF.free nH2) (.inl nH2), nH2, d12, by rw [upd_ne d12]; exact g3.fr _ _ h1 (fun z => z), upd_same⟩
      · rintro G2 ⟨gG2, nH2, d12, h1, h2⟩
        rw [hes.1, List.take_length] at h2
        refine ⟨_, D2, _, rfl, rfl, .inl (SqL.of h2), ?_, ?_⟩
        · have z := join_le "," _ (textR_len hent s4)
          have : row.length * (3 + 1) ≤ 4 * 4 := Nat.mul_le_mul (by omega) (Nat.le_refl 4)
          rw [List.length_map, comma_len] at z
          rw [List.length_map, comma_len]
          omega
        · refine ⟨_, h1, by rw [List.length_map, List.length_map, List.length_take]; exact lt_size (by omega), ?_⟩
          rw [show Txt.join "," (row.map fun e => textE e.l) = textR row from rfl, mt3 (f := textR) hMi]
          exact ⟨gG2.set (sF.free nH1) (.inl nH1), nH1, upd_same⟩
    · rintro G1 ⟨gG1, nH1, hD1⟩
      rw [lr, List.take_length] at hD1
      refine ⟨_, D1, _, rfl, rfl, .inl (SqL.of hD1), ?_, q _ gG1⟩
      have z := join_le " " (M.map textR) (k := 16) fun x m => by
        obtain ⟨r, hr, rfl⟩ := List.mem_map.mp m
        exact textR_le (hM.ent r hr) s4 (by rw [hM.row r hr]; exact s4)
      have : M.length * (16 + 1) ≤ 4 * 17 := Nat.mul_le_mul (by omega) (Nat.le_refl 17)
      rw [List.length_map, blank_len] at z
      rw [List.length_map, blank_len]
      omega
/-! ### words -/
/-- a text that may stand in a datum -/
structure TStr where
  x : Str
  ok : PyData.strOk x = true
  deriving DecidableEq
instance : Dat TStr where
  rep := fun _ v d => v = .str d.x
  mono := fun _ h => h
  py := fun d => .str d.x
  dp := fun h => h ▸ .str _
  can := fun d => d.ok
  dep := 0
  depth := fun _ => Nat.le_refl _
  eqv := fun a b => by
    obtain ⟨a, _⟩ := a; obtain ⟨b, _⟩ := b
    simp [PyData.eqv]
/-! ### an entry -/
def entAt (M : Mach) (r s : Int) : Ent := (((M[r.toNat]?).getD [])[s.toNat]?).getD .emp
theorem ent_of {M : Mach} {R S : Nat} (h : MOk M R S) {r s : Int} (r0 : 0 ≤ r) (r1 : r < R) (s0 : 0 ≤ s) (s1 : s < S) : ∃ row, M[r.toNat]? = some row ∧ row[s.toNat]? = some (entAt M r s) ∧ EOk R S (entAt M r s) := by
  have hr : r.toNat < M.length := by rw [h.len]; omega
  have e1 : M[r.toNat]? = some M[r.toNat] := List.getElem?_eq_getElem hr
  have hs : s.toNat < (M[r.toNat]).length := by rw [h.row _ (List.getElem_mem hr)]; omega
  have e2 : (M[r.toNat])[s.toNat]? = some (M[r.toNat])[s.toNat] := List.getElem?_eq_getElem hs
  have e3 : entAt M r s = (M[r.toNat])[s.toNat] := by
    unfold entAt
    rw [e1]
    show ((M[r.toNat])[s.toNat]?).getD Ent.emp = _
    rw [e2]; rfl
  exact ⟨_, e1, by rw [e3]; exact e2, by rw [e3]; exact h.ent _ (List.getElem_mem hr) _ (List.getElem_mem hs)⟩
def tEnd : TStr := ⟨"end", by decide +kernel⟩
/-! ### parts, gone back (plain) -/
abbrev Part := T2 Int (PTup PI)
structure POk (R : Nat) (n : Nat) (p : Part) : Prop where
  r0 : 0 ≤ p.a
  r1 : p.a < R
  nd : Nd p.b.l
  len : p.b.l.length ≤ n
def endF (M : Mach) (r j : Nat) : Option Part := if entAt M r j = .emp then some ⟨(r : Int), ⟨[⟨0, (j : Int)⟩]⟩⟩ else none
def endsR (M : Mach) (r s : Nat) : List Part := (List.range s).filterMap (endF M r)
def endsOf (M : Mach) (S r : Nat) : List Part := (List.range r).flatMap fun r => endsR M r S
theorem fm_succ {α : Type} (f : Nat → Option α) (n : Nat) : (List.range (n + 1)).filterMap f = (List.range n).filterMap f ++ (f n).toList := by
  rw [List.range_succ, List.filterMap_append]
  cases e : f n <;> simp [e]
theorem fl_succ {α : Type} (f : Nat → List α) (n : Nat) : (List.range (n + 1)).flatMap f = (List.range n).flatMap f ++ f n := by
  rw [List.range_succ, List.flatMap_append]
  simp
theorem fm_len {α : Type} (f : Nat → Option α) (n : Nat) : ((List.range n).filterMap f).length ≤ n := by
  have := List.length_filterMap_le f (List.range n)
  rw [List.length_range] at this; exact this
theorem fl_len {α : Type} (f : Nat → List α) (b : Nat) (h : ∀ r, (f r).length ≤ b) : ∀ n, ((List.range n).flatMap f).length ≤ n * b
  | 0 => by simp
  | n + 1 => by
    have := fl_len f b h n
    have := h n
    rw [fl_succ, List.length_append, Nat.succ_mul]; omega
def sp_ends_of : Sp := fun vs H Q _ => ∃ (F : Hp) (m : V) (M : Mach) (R S : Nat), vs = [m] ∧ Same F H ∧ Is F m M ∧ MOk M R S ∧ ∀ (F' H' : Hp) (c : Addr) (xs : List V), Gr mu0 F H F' H' → F' c = some (.lst xs) → IsAll F' xs (endsOf M S R) → Q (.ref c) H'
theorem ok_ends_of (t : Tx K mg) : FnOk P w K mg base CX0 1 t.a_ends_of t.fd_ends_of ["machine"] sp_ends_of := by
  refine t.F_ends_of.ok sc_ends_of (fun vs H Q E h => ?_) (fun cdv A outer s H vs Q E hr h => ?_)
  · obtain ⟨F, m, M, R, S, rfl, _⟩ := h
    rfl
  · obtain ⟨F, m, M, R, S, rfl, sF, hm, hM, q⟩ := h
    refine ⟨_, (pss_cons (ps_set (i := 1) sc_ends_of.nd rfl (by first | exact Or.inl rfl | exact Or.inr rfl) (pe_lst pa_nil))
      (pss_cons (ps_for PassesOwn.never rfl (pi_range1 (by rfl) t.n_range (pa_cons (pe_callB (id := "len") call_lenQ (by rfl) t.n_len (by decide +kernel) (pa_cons (pv 0) pa_nil)) pa_nil)) (pg_name (i := 2) sc_ends_of.nd rfl (by first | exact Or.inl rfl | exact Or.inr rfl)) (pss_one (ps_for PassesOwn.never rfl (pi_range1 (by rfl) t.n_range (pa_cons (pe_callB (id := "len") call_lenQ (by rfl) t.n_len (by decide +kernel) (pa_cons (pe_ix ix_list (pv 0) (pv 2) (fun _ _ => rfl)) pa_nil)) pa_nil)) (pg_name (i := 3) sc_ends_of.nd rfl (by first | exact Or.inl rfl | exact Or.inr rfl)) (pss_one (ps_if (pt_cmpR (op_eqD hr.units) (pe_ix ix_list (pe_ix ix_list (pv 0) (pv 2) (fun _ _ => rfl)) (pv 3) (fun _ _ => rfl)) (pe_tup pa_nil) (nomark _)) (pss_one (ps_expr (pe_bm PySem.F.plainAttrs_list PySem.F.slot_list_append PySem.F.type_list_append mt_append (pv 1) (pa_cons (pe_tup (pa_cons (pv 2) (pa_cons (pe_tupF (pa_cons (pe_tup (pa_cons pe_int (pa_cons (pv 3) pa_nil))) pa_nil)) pa_nil))) pa_nil)))) pss_nil)))))
      (pss_one (ps_ret (pv 1))))), ?_⟩
    have g0 : Gr mu0 F H F H := Gr.refl sF
    have r4 := hM.r4
    have s4 := hM.s4
    obtain ⟨am, rws, rfl, ham, hrs⟩ := id hm
    have lrs : rws.length = R := hrs.1.trans hM.len
    refine ⟨nil_le, fun D nD => ?_⟩
    have g1 := g0.own (o := .lst []) nD
    have w1 : Ow H F (upd H D (.lst [])) D (.lst []) := Ow.mk1 g0 nD
    generalize upd H D (.lst []) = H1 at g1 w1 ⊢
    refine ⟨_, rfl, am, rws, rfl, .inl (SqL.of (g1.fh _ _ ham)), ?_⟩
    rw [lrs]
    refine ⟨R, rfl, by omega, by omega, for_range (lo := 0) (n := ((R : Int)).toNat) (fun r σ G => ∃ (F1 : Hp) (xs : List V) (v2 v3 : Option V), σ = [some (.ref am), some (.ref D), v2, v3] ∧ Gr mu0 F H F1 G ∧ Ow H F1 G D (.lst xs) ∧ IsAll F1 xs (endsOf M S r))
      ⟨F, [], none, none, rfl, g1, w1, All2.nil⟩ ?_ ?_⟩
    · rintro r σ G hr' ⟨F1, xs, v2, v3, rfl, g, w, al⟩
      have hr' : r < R := by rw [Int.toNat_natCast] at hr'; exact hr'
      have er : ((0 : Int) + (r : Int)) = (r : Int) := by omega
      rw [er]
      have il : r < rws.length := by omega
      obtain ⟨row0, hM0, a0, es0, er0, ha0, hes0⟩ := hrs.get' (List.getElem?_eq_getElem il)
      have ls0 : es0.length = S := hes0.1.trans (hM.row _ (List.mem_of_getElem? hM0))
      have hx0 : rws[r]? = some (.ref a0) := (List.getElem?_eq_getElem il).trans (congrArg some er0)
      refine ⟨_, rfl, _, rfl, am, rws, _, _, rfl, rfl, SqL.of (g.fh _ _ (g.ff _ _ ham)), atI_nat (j := r) hx0, a0, es0, rfl, .inl (SqL.of (g.fh _ _ (g.ff _ _ ha0))), ?_⟩
      rw [ls0]
      refine ⟨S, rfl, by omega, by omega, for_range (lo := 0) (n := ((S : Int)).toNat) (fun j σ G => ∃ (F1 : Hp) (xs : List V) (v3 : Option V), σ = [some (.ref am), some (.ref D), some (.int r), v3] ∧ Gr mu0 F H F1 G ∧ Ow H F1 G D (.lst xs) ∧ IsAll F1 xs (endsOf M S r ++ endsR M r j))
        ⟨F1, xs, v3, rfl, g, w, by rw [show endsR M r 0 = [] from rfl, List.append_nil]; exact al⟩ ?_ ?_⟩
      · rintro j σ U hj ⟨F2, ys, v3, rfl, g2, w2, al2⟩
        have hj : j < S := by rw [Int.toNat_natCast] at hj; exact hj
        have ej : ((0 : Int) + (j : Int)) = (j : Int) := by omega
        rw [ej]
        have jl : j < es0.length := by omega
        obtain ⟨d, hd, ie⟩ := hes0.get' (List.getElem?_eq_getElem jl)
        obtain ⟨row', eM, eR, eo⟩ := ent_of hM (r := (r : Int)) (s := (j : Int)) (by omega) (by omega) (by omega) (by omega)
        rw [Int.toNat_natCast] at eM eR
        cases hM0.symm.trans eM
        have ed : d = entAt M r j := Option.some.inj (hd.symm.trans eR)
        subst ed
        have sc : endsR M r (j + 1) = endsR M r j ++ (endF M r j).toList := fm_succ (endF M r) j
        unfold endF at sc
        have ly : ys.length ≤ 4 * 4 + 4 := by
          rw [al2.1, List.length_append]
          have h1 : (endsOf M S r).length ≤ r * S := fl_len (fun r => endsR M r S) S (fun r => fm_len (endF M r) S) r
          have h2 : (endsR M r j).length ≤ j := fm_len (endF M r) j
          have : r * S ≤ 4 * 4 := Nat.mul_le_mul (by omega) s4
          omega
        refine ⟨_, rfl, _, rfl, am, rws, _, _, rfl, rfl, SqL.of (g2.fh _ _ (g2.ff _ _ ham)), atI_nat (j := r) hx0, _, rfl, a0, es0, _, _, rfl, rfl, SqL.of (g2.fh _ _ (g2.ff _ _ ha0)), atI_nat (j := j) (List.getElem?_eq_getElem jl), nil_le, fun e0 ne0 => ?_⟩
        have g3 := g2.own (o := .tup []) ne0
        have w3 := w2.own (u := .tup []) ne0
        refine eq_dat (a := entAt M r j) (b := Ent.emp) ((Is.up ie g2.ff).up g3.fh) ⟨e0, rfl, upd_same⟩ ⟨_, rfl, ?_⟩
        generalize upd U e0 (.tup []) = U1 at g3 w3 ⊢
        by_cases ee : entAt M r j = .emp
        · refine ifT (decide_eq_true ee) ?_
          rw [if_pos ee] at sc
          refine ⟨_, rfl, .inl ⟨rfl, _, SqL.of w3.h⟩, _, rfl, _, rfl, two_le, fun t1 n1 => ⟨one_le, fun t2 o2 d2 n2 => ⟨two_le, fun t3 n3 => ?_⟩⟩⟩
          have g4 := g3.new (o := .tup [.int 0, .int j]) n1
          have w4 := w3.new (u := .tup [.int 0, .int j]) n1
          have s4' : Same F2 (upd F2 t1 (.tup [.int 0, .int j])) := sm_new (Same.refl F2) (g3.fh.free n1)
          have i1 : Is (upd F2 t1 (.tup [.int 0, .int j])) (.ref t1) (⟨0, (j : Int)⟩ : PI) := ⟨t1, _, _, rfl, upd_same, rfl, rfl⟩
          generalize upd F2 t1 (.tup [.int 0, .int j]) = F3 at g4 w4 s4' i1
          generalize upd U1 t1 (.tup [.int 0, .int j]) = U2 at g4 w4 n2 n3 ⊢
          have g5 := g4.new (o := .frz o2 (.tup [.ref t1])) n2
          have w5 := w4.new (u := .frz o2 (.tup [.ref t1])) n2
          have s5 : Same F3 (upd F3 t2 (.frz o2 (.tup [.ref t1]))) := sm_new (Same.refl F3) (g4.fh.free n2)
          have i2 : Is (upd F3 t2 (.frz o2 (.tup [.ref t1]))) (.ref t2) (⟨[⟨0, (j : Int)⟩]⟩ : PTup PI) := ⟨t2, _, rfl, ⟨o2, upd_same, d2⟩, All2.one (Is.up i1 s5)⟩
          generalize upd F3 t2 (.frz o2 (.tup [.ref t1])) = F4 at g5 w5 s5 i2
          generalize upd U2 t2 (.frz o2 (.tup [.ref t1])) = U3 at g5 w5 n3 ⊢
          have g6 := g5.new (o := .tup [.int r, .ref t2]) n3
          have w6 := w5.new (u := .tup [.int r, .ref t2]) n3
          have s6 : Same F4 (upd F4 t3 (.tup [.int r, .ref t2])) := sm_new (Same.refl F4) (g5.fh.free n3)
          refine ⟨D, _, _, rfl, rfl, w6.h, lt_size (by omega), _, ys ++ [.ref t3], _, rfl, g6.set w6.f (.inl w6.n), w6.set, ?_⟩
          rw [sc, Option.toList_some, ← List.append_assoc]
          exact (((al2.up s4').up s5).up s6).app (All2.one ⟨t3, _, _, rfl, upd_same, rfl, Is.up i2 s6⟩)
        · refine ifF (decide_eq_false ee) ?_
          rw [if_neg ee] at sc
          exact ⟨F2, ys, _, rfl, g3, w3, by rw [sc, Option.toList_none, List.append_nil]; exact al2⟩
      · rintro σ U ⟨F2, ys, v3, rfl, g2, w2, al2⟩
        rw [Int.toNat_natCast] at al2
        exact ⟨F2, ys, _, _, rfl, g2, w2, by rw [show endsOf M S (r + 1) = endsOf M S r ++ endsR M r S from fl_succ (fun r => endsR M r S) r]; exact al2⟩
    · rintro σ G ⟨F1, xs, v2, v3, rfl, g, w, al⟩
      rw [Int.toNat_natCast] at al
      have g2 := g.frz w.h w.n w.f
      exact ⟨_, rfl, q _ _ D xs g2 upd_same (IsAll.up al (sm_new (Same.refl F1) w.f))⟩
/-! ### what comes ahead of a part -/
def aheadF (M : Mach) (p : Part) (r j : Nat) : Option Part := match entAt M r j with
  | .emp => none
  | .go pu wa to => if to = p.a ∧ (look p.b.l (-wa)).getD pu = pu then some ⟨(r : Int), ⟨srt ((put p.b.l (-wa) j).map fun q => ⟨q.a + wa, q.b⟩)⟩⟩ else none
def aheadR (M : Mach) (p : Part) (r s : Nat) : List Part := (List.range s).filterMap (aheadF M p r)
def aheadOf (M : Mach) (S : Nat) (p : Part) (r : Nat) : List Part := (List.range r).flatMap fun r => aheadR M p r S
theorem gdI (o : Option Int) (x : Int) : (o.map V.int).getD (.int x) = .int (o.getD x) := by cases o <;> rfl
theorem dict_pairsT {K : PySem.W.Frag} {H : Hp} {a : Addr} {xs : List V} {l : List PI} {Q : VK} (hx : IsAll H xs l) (ha : FT H a xs) (q : ∀ p, H p = none → Q (.ref p) (upd H p (.dK (dI (merge [] l))))) : rDictT K [.ref a] H Q := by
  obtain ⟨ps, e, p⟩ := pairs_of (K := K) hx
  refine rDictT.mk (by rw [← e]; exact ha) p fun d nd => ?_
  have e2 : mergeK [] (dI l) = dI (merge [] l) := dI_merge l []
  rw [e2]
  exact q d nd
theorem mts {α β : Type} {f : α → β} {l : List α} {i : Nat} {x : α} (h : l[i]? = some x) : (l.take (i + 1)).map f = (l.take i).map f ++ [f x] := by
  rw [List.take_add_one, h, List.map_append]; rfl
theorem vi2 {a b : Int} : decide (V.int a = V.int b) = decide (a = b) := decide_eq_decide.mpr ⟨V.int.inj, fun e => by rw [e]⟩
def sp_ahead_of : Sp := fun vs H Q _ => ∃ (F : Hp) (m v : V) (M : Mach) (R S n : Nat) (p : Part), vs = [m, v] ∧ Same F H ∧ Is F m M ∧ MOk M R S ∧ Is F v p ∧ POk R n p ∧ n ≤ 1000 ∧ ∀ (F' H' : Hp) (c : Addr) (xs : List V), Gr mu0 F H F' H' → F' c = some (.lst xs) → IsAll F' xs (aheadOf M S p R) → Q (.ref c) H'
theorem ok_ahead_of (t : Tx K mg) : FnOk P w K mg base CX0 1 t.a_ahead_of t.fd_ahead_of ["machine", "part"] sp_ahead_of := by
  refine t.F_ahead_of.ok sc_ahead_of (fun vs H Q E h => ?_) (fun cdv A outer s H vs Q E hr h => ?_)
  · obtain ⟨F, m, v, M, R, S, n, p, rfl, _⟩ := h
    rfl
  · obtain ⟨F, m, v, M, R, S, n, p, rfl, sF, hm, hM, hv, okp, hn, q⟩ := h
    refine ⟨_, (pss_cons (ps_set (i := 2) sc_ahead_of.nd rfl (by first | exact Or.inl rfl | exact Or.inr rfl) (pe_callTy (T := "dict") (call_dictT rfl) (by rfl) t.n_dict (by decide +kernel) (pa_cons (pe_ix ix_tup (pv 1) pe_int (fun _ _ => rfl)) pa_nil)))
      (pss_cons (ps_set (i := 3) sc_ahead_of.nd rfl (by first | exact Or.inl rfl | exact Or.inr rfl) (pe_lst pa_nil))
      (pss_cons (ps_for PassesOwn.never rfl (pi_range1 (by rfl) t.n_range (pa_cons (pe_callB (id := "len") call_lenQ (by rfl) t.n_len (by decide +kernel) (pa_cons (pv 0) pa_nil)) pa_nil)) (pg_name (i := 4) sc_ahead_of.nd rfl (by first | exact Or.inl rfl | exact Or.inr rfl)) (pss_one (ps_for PassesOwn.never rfl (pi_range1 (by rfl) t.n_range (pa_cons (pe_callB (id := "len") call_lenQ (by rfl) t.n_len (by decide +kernel) (pa_cons (pe_ix ix_list (pv 0) (pv 4) (fun _ _ => rfl)) pa_nil)) pa_nil)) (pg_name (i := 5) sc_ahead_of.nd rfl (by first | exact Or.inl rfl | exact Or.inr rfl)) (pss_cons (ps_set (i := 6) sc_ahead_of.nd rfl (by first | exact Or.inl rfl | exact Or.inr rfl) (pe_ix ix_list (pe_ix ix_list (pv 0) (pv 4) (fun _ _ => rfl)) (pv 5) (fun _ _ => rfl)))
      (pss_one (ps_if (PW.pt (pw_and (pt_cmpR (op_neD hr.units) (pv 6) (pe_tup pa_nil) (nomark _)) (pw_and (pt_cmpR op_eq (pe_ix ix_tup (pv 6) pe_int (fun _ _ => rfl)) (pe_ix ix_tup (pv 1) pe_int (fun _ _ => rfl)) (nomark _)) (pw_and1 (pt_cmpR op_eq (pe_dget2 (hu_of hr) (pv 2) (pe_un un_neg (pe_ix ix_tup (pv 6) pe_int (fun _ _ => rfl))) (pe_ix ix_tup (pv 6) pe_int (fun _ _ => rfl)) ⟨by rfl, by rfl, by rfl, by rfl⟩) (pe_ix ix_tup (pv 6) pe_int (fun _ _ => rfl)) (nomark _)))))) (pss_cons (ps_set (i := 7) sc_ahead_of.nd rfl (by first | exact Or.inl rfl | exact Or.inr rfl) (pe_callTy (T := "dict") call_dictD (by rfl) t.n_dict (by decide +kernel) (pa_cons (pv 2) pa_nil)))
      (pss_cons (ps_dput (hu_of hr) (pv 7) (pe_un un_neg (pe_ix ix_tup (pv 6) pe_int (fun _ _ => rfl))) (pv 5) rfl)
      (pss_one (ps_expr (pe_bm PySem.F.plainAttrs_list PySem.F.slot_list_append PySem.F.type_list_append mt_append (pv 3) (pa_cons (pe_tup (pa_cons (pv 4) (pa_cons (pe_callTy (T := "tuple") call_tupF (by rfl) t.n_tuple (by decide +kernel) (pa_cons (pe_callB (id := "sorted") call_sortQ (by rfl) t.n_sorted (by decide +kernel) (pa_cons (pe_lock (pe_lc (own := [("place", 8), ("one", 9)]) (tt := tYes) rfl sc_ahead_of.nd (pi_items (pv 7)) (blkOk_by (N := N_ahead_of) (sc := defScope s_ahead_of) (by decide +kernel)) (fun _ _ _ _ _ => (pg_tupK (K := K) (n := 2) rfl rfl (pgs_cons (pg_name (i := 8) sc_ahead_of.nd rfl (by first | exact Or.inl rfl | exact Or.inr rfl)) (pgs_cons (pg_name (i := 9) sc_ahead_of.nd rfl (by first | exact Or.inl rfl | exact Or.inr rfl)) pgs_nil)))) (fun _ _ _ _ _ => pts_nil) (fun _ _ _ _ _ => (pe_tup (pa_cons (pe_op op_add (pv 8) (pe_ix (ixK (K := K) (r := rIxT) rfl ix_tup) (pv 6) pe_int (fun _ _ => rfl))) (pa_cons (pv 9) pa_nil)))))) pa_nil)) pa_nil)) pa_nil))) pa_nil)))))) pss_nil))))))
      (pss_one (ps_ret (pv 3)))))), ?_⟩
    have g0 : Gr mu0 F H F H := Gr.refl sF
    have r4 := hM.r4
    have s4 := hM.s4
    obtain ⟨am, rws, rfl, ham, hrs⟩ := id hm
    have lrs : rws.length = R := hrs.1.trans hM.len
    obtain ⟨p0, x1, x2, rfl, hp, e1, ⟨b0, ps, rfl, hb, hps⟩⟩ := hv
    have e1 : x1 = .int p.a := e1
    subst e1
    have hps : IsAll F ps p.b.l := hps
    refine ⟨_, rfl, p0, _, _, _, rfl, rfl, SqT.of (sF _ _ hp), atI_nat (j := 1) rfl, dict_pairsT (hps.up sF) (hb.up sF) fun d nd => ?_⟩
    rw [merge_nd (l := []) (m := p.b.l) okp.nd, List.nil_append]
    have ga := g0.new (o := .dK (dI p.b.l)) nd
    have fd : (upd F d (.dK (dI p.b.l))) d = some (.dK (dI p.b.l)) := upd_same
    have hp := ga.ff _ _ hp
    have ham := ga.ff _ _ ham
    have hrs := IsAll.up hrs ga.ff
    generalize upd F d (.dK (dI p.b.l)) = F0 at ga fd hp ham hrs
    generalize upd H d (.dK (dI p.b.l)) = H0 at ga ⊢
    refine ⟨nil_le, fun D nD => ?_⟩
    have g1 := ga.own (o := .lst []) nD
    have w1 : Ow H F0 (upd H0 D (.lst [])) D (.lst []) := Ow.mk1 ga nD
    generalize upd H0 D (.lst []) = H1 at g1 w1 ⊢
    refine ⟨_, rfl, am, rws, rfl, .inl (SqL.of (g1.fh _ _ ham)), ?_⟩
    rw [lrs]
    refine ⟨R, rfl, by omega, by omega, for_range (lo := 0) (n := ((R : Int)).toNat) (fun r σ G => ∃ (F1 : Hp) (xs : List V) (v4 v5 v6 v7 v8 v9 : Option V), σ = [some (.ref am), some (.ref p0), some (.ref d), some (.ref D), v4, v5, v6, v7, v8, v9] ∧ Gr mu0 F H F1 G ∧ Same F0 F1 ∧ Ow H F1 G D (.lst xs) ∧ IsAll F1 xs (aheadOf M S p r))
      ⟨F0, [], none, none, none, none, none, none, rfl, g1, Same.refl F0, w1, All2.nil⟩ ?_ ?_⟩
    · rintro r σ G hr' ⟨F1, xs, v4, v5, v6, v7, v8, v9, rfl, g, gb, w, al⟩
      have hr' : r < R := by rw [Int.toNat_natCast] at hr'; exact hr'
      have er : ((0 : Int) + (r : Int)) = (r : Int) := by omega
      rw [er]
      have il : r < rws.length := by omega
      obtain ⟨row0, hM0, a0, es0, er0, ha0, hes0⟩ := hrs.get' (List.getElem?_eq_getElem il)
      have ls0 : es0.length = S := hes0.1.trans (hM.row _ (List.mem_of_getElem? hM0))
      have hx0 : rws[r]? = some (.ref a0) := (List.getElem?_eq_getElem il).trans (congrArg some er0)
      refine ⟨_, rfl, _, rfl, am, rws, _, _, rfl, rfl, SqL.of (g.fh _ _ (gb _ _ ham)), atI_nat (j := r) hx0, a0, es0, rfl, .inl (SqL.of (g.fh _ _ (gb _ _ ha0))), ?_⟩
      rw [ls0]
      refine ⟨S, rfl, by omega, by omega, for_range (lo := 0) (n := ((S : Int)).toNat) (fun j σ G => ∃ (F1 : Hp) (xs : List V) (v5 v6 v7 v8 v9 : Option V), σ = [some (.ref am), some (.ref p0), some (.ref d), some (.ref D), some (.int r), v5, v6, v7, v8, v9] ∧ Gr mu0 F H F1 G ∧ Same F0 F1 ∧ Ow H F1 G D (.lst xs) ∧ IsAll F1 xs (aheadOf M S p r ++ aheadR M p r j))
        ⟨F1, xs, v5, v6, v7, v8, v9, rfl, g, gb, w, by rw [show aheadR M p r 0 = [] from rfl, List.append_nil]; exact al⟩ ?_ ?_⟩
      · rintro j σ U hj ⟨F2, ys, v5, v6, v7, v8, v9, rfl, g2, gb2, w2, al2⟩
        have hj : j < S := by rw [Int.toNat_natCast] at hj; exact hj
        have ej : ((0 : Int) + (j : Int)) = (j : Int) := by omega
        rw [ej]
        have jl : j < es0.length := by omega
        obtain ⟨de, hd, ie⟩ := hes0.get' (List.getElem?_eq_getElem jl)
        obtain ⟨row', eM, eR, eo⟩ := ent_of hM (r := (r : Int)) (s := (j : Int)) (by omega) (by omega) (by omega) (by omega)
        rw [Int.toNat_natCast] at eM eR
        cases hM0.symm.trans eM
        have ed : de = entAt M r j := Option.some.inj (hd.symm.trans eR)
        subst ed
        have sc : aheadR M p r (j + 1) = aheadR M p r j ++ (aheadF M p r j).toList := fm_succ (aheadF M p r) j
        unfold aheadF at sc
        have ly : ys.length ≤ 4 * 4 + 4 := by
          rw [al2.1, List.length_append]
          have h1 : (aheadOf M S p r).length ≤ r * S := fl_len (fun r => aheadR M p r S) S (fun r => fm_len (aheadF M p r) S) r
          have h2 : (aheadR M p r j).length ≤ j := fm_len (aheadF M p r) j
          have : r * S ≤ 4 * 4 := Nat.mul_le_mul (by omega) s4
          omega
        refine ⟨_, rfl, _, rfl, am, rws, _, _, rfl, rfl, SqL.of (g2.fh _ _ (gb2 _ _ ham)), atI_nat (j := r) hx0, _, rfl, a0, es0, _, _, rfl, rfl, SqL.of (g2.fh _ _ (gb2 _ _ ha0)), atI_nat (j := j) (List.getElem?_eq_getElem jl), ?_⟩
        have ie2 := Is.up ie gb2
        generalize es0[j] = ve at ie2
        refine ⟨_, rfl, nil_le, fun e0 ne0 => ?_⟩
        have g3 := g2.own (o := .tup []) ne0
        have gb3 : Same F0 F2 := gb2
        have w3 := w2.own (u := .tup []) ne0
        refine ne_dat (a := entAt M r j) (b := Ent.emp) (ie2.up g3.fh) ⟨e0, rfl, upd_same⟩ ⟨_, rfl, ?_⟩
        generalize upd U e0 (.tup []) = U1 at g3 w3 ⊢
        cases ee : entAt M r j with
        | emp =>
          rw [ee] at sc
          refine ifF (by rw [decide_eq_true rfl]; rfl) ?_
          exact ⟨F2, ys, _, _, _, _, _, rfl, g3, gb3, w3, by rw [sc, Option.toList_none, List.append_nil]; exact al2⟩
        | go pu wa to =>
          rw [ee] at sc ie2 eo
          obtain ⟨o1, o2, o3⟩ := eo.ok _ _ _ rfl
          obtain ⟨ae, rfl, hae⟩ := ie2
          have h6 := SqT.of (K := K) (g3.fh _ _ hae)
          have hp0 := SqT.of (K := K) (g3.fh _ _ (gb3 _ _ hp))
          refine ifT (by rw [decide_eq_false (fun z => nomatch z)]; rfl) ?_
          refine ⟨_, rfl, ae, _, _, _, rfl, rfl, h6, atI_nat (j := 2) rfl, _, rfl, p0, _, _, _, rfl, rfl, hp0, atI_nat (j := 0) rfl, rfl, _, rfl, ?_⟩
          rw [vi2]
          by_cases t1 : to = p.a
          · refine ifT (decide_eq_true t1) ?_
            refine ⟨_, rfl, d, rfl, .inl ⟨_, .inl (g3.fh _ _ (gb3 _ _ fd))⟩, _, rfl, ae, _, _, _, rfl, rfl, h6, atI_nat (j := 1) rfl, _, rfl, _, rfl, ae, _, _, _, rfl, rfl, h6, atI_nat (j := 0) rfl, _, DGet.k (k := Sum.inl (-wa)) (g3.fh _ _ (gb3 _ _ fd)), ?_⟩
            rw [dI_val, gdI]
            refine ⟨_, rfl, ae, _, _, _, rfl, rfl, h6, atI_nat (j := 0) rfl, rfl, _, rfl, ?_⟩
            rw [vi2]
            by_cases t2 : (look p.b.l (-wa)).getD pu = pu
            · refine ifT (decide_eq_true t2) ?_
              have sc : aheadR M p r (j + 1) = aheadR M p r j ++ [⟨(r : Int), ⟨srt ((put p.b.l (-wa) j).map fun q => ⟨q.a + wa, q.b⟩)⟩⟩] := by rw [sc]; dsimp only; rw [if_pos ⟨t1, t2⟩, Option.toList_some]
              refine ⟨_, rfl, d, _, rfl, .inl (g3.fh _ _ (gb3 _ _ fd)), fun d2 nd2 => ?_⟩
              have g4 := g3.own (o := .dK (dI p.b.l)) nd2
              have gb4 : Same F0 F2 := gb3
              have w4 := w3.own (u := .dK (dI p.b.l)) nd2
              have wk4 : Ow H F2 (upd U1 d2 (.dK (dI p.b.l))) d2 (.dK (dI p.b.l)) := Ow.mk1 g3 nd2
              have D2 := w3.ne nd2
              generalize upd U1 d2 (.dK (dI p.b.l)) = U2 at g4 w4 wk4 ⊢
              have h64 := SqT.of (K := K) (g4.fh _ _ hae)
              refine ⟨_, rfl, _, rfl, _, rfl, ae, _, _, _, rfl, rfl, h64, atI_nat (j := 1) rfl, _, rfl, d2, _, rfl, DPut.k (k := Sum.inl (-wa)) wk4.h (by unfold dI; rw [List.length_map]; exact lt_size (by have := okp.len; omega)), ?_⟩
              rw [dI_put]
              have g5 := g4.set (o := .dK (dI (put p.b.l (-wa) j))) wk4.f (.inl wk4.n)
              have gb5 : Same F0 F2 := gb4
              have w5 := w4.other (u := .dK (dI (put p.b.l (-wa) j))) D2
              have wk5 := wk4.set (u := .dK (dI (put p.b.l (-wa) j)))
              have ll : (put p.b.l (-wa) j).length ≤ 1001 := by have := put_len p.b.l (-wa) j; have := okp.len; omega
              generalize put p.b.l (-wa) j = L at g5 w5 wk5 sc ll ⊢
              generalize upd U2 d2 (.dK (dI L)) = U3 at g5 w5 wk5 ⊢
              refine ⟨_, rfl, .inl ⟨rfl, _, SqL.of w5.h⟩, _, rfl, d2, _, wk5.h, trivial, fun od => ?_⟩
              have sL := lock_in (d := d2) (o := .frz od (.dK (dI L))) g5.fh
              have gl : Gr mu0 _ (upd U3 d2 (.frz od (.dK (dI L)))) _ (upd U3 d2 (.frz od (.dK (dI L)))) := Gr.refl sL
              have dl : (dI L).length = L.length := by unfold dI; rw [List.length_map]
              have hael : (fun c => if c = d2 then none else F2 c) ae = some (.tup [.int pu, .int wa, .int to]) := by
                show (if ae = d2 then none else F2 ae) = _
                rw [if_neg (ne_of_none hae wk5.f)]
                exact hae
              generalize eHl : upd U3 d2 (.frz od (.dK (dI L))) = Hl at gl
              generalize eFl : (fun c => if c = d2 then none else F2 c) = Fl at gl hael
              have hdl : Hl d2 = some (.frz od (.dK (dI L))) := by rw [← eHl]; exact upd_same
              refine ⟨_, rfl, d2, od, dI L, rfl, hdl, fun D3 nD3 => lc_it walk_items (fun i G => ∃ F5 xs, Gr mu0 Fl Hl F5 G ∧ Ow Hl F5 G D3 (.lst xs) ∧ IsAll F5 xs ((L.take i).map fun q => (⟨q.a + wa, q.b⟩ : PI))) ⟨Fl, [], gl.own nD3, Ow.mk1 gl nD3, All2.nil⟩ (fun i G _ ⟨F5, xs, g, _⟩ => g.fr _ _ hdl (fun z => z)) ?_ ?_⟩
              · rintro i x G5 G6 hi ⟨F5, zs, g, w, al⟩ ⟨T, y1, y2, rfl, nT, rfl, f1, f2⟩
                rw [dl] at hi
                have f1 : (dI L)[i]?.map (fun kv => kV kv.1) = some y1 := f1
                have f2 : (dI L)[i]?.map Prod.snd = some y2 := f2
                rw [dI_get hi] at f1 f2
                cases f1
                cases f2
                have g1 := g.new (o := .tup [.int L[i].a, .int L[i].b]) nT
                have w1 := w.new (u := .tup [.int L[i].a, .int L[i].b]) nT
                have s1 : Same F5 (upd F5 T (.tup [.int L[i].a, .int L[i].b])) := sm_new (Same.refl F5) (g.fh.free nT)
                refine ⟨T, _, rfl, SqT.of upd_same, rfl, _, _, rfl, _, _, rfl, rfl, rfl, yes ⟨_, rfl, _, rfl, ae, _, _, _, rfl, rfl, SqT.of (g1.fh _ _ (g1.ff _ _ hael)), atI_nat (j := 1) rfl, _, _, rfl, rfl, _, rfl, two_le, fun T2 nT2 => ?_⟩⟩
                have g2 := g1.new (o := .tup [.int (L[i].a + wa), .int L[i].b]) nT2
                have w2 := w1.new (u := .tup [.int (L[i].a + wa), .int L[i].b]) nT2
                have s2 : Same (upd F5 T (.tup [.int L[i].a, .int L[i].b])) (upd (upd F5 T (.tup [.int L[i].a, .int L[i].b])) T2 (.tup [.int (L[i].a + wa), .int L[i].b])) := sm_new (Same.refl _) (g1.fh.free nT2)
                refine ⟨zs, w2.h, ?_, _, _, g2.set w2.f (.inl w2.n), w2.set, ?_⟩
                · rw [al.1, List.length_map, List.length_take]; exact lt_size (by omega)
                · rw [mts (List.getElem?_eq_getElem hi)]
                  exact ((IsAll.up al s1).up s2).app (All2.one ⟨T2, _, _, rfl, upd_same, rfl, rfl⟩)
              · rintro G5 ⟨F5, zs, g, w, al⟩
                rw [dl, List.take_length] at al
                subst eHl
                subst eFl
                obtain ⟨h1, h2, h3⟩ := lock_out g5.fh wk5.h g
                refine ⟨h1, ?_⟩
                have hDd : D3 ≠ d2 := by
                  rintro rfl
                  rw [w.h] at h1; cases h1
                have g6 := g5.trans h3
                have w6 := w5.call h3 (fun z => z)
                have s26 := h3.ff
                have gb6 := gb5.trans s26
                refine sort_pairs (K := K) (l := L.map fun q => (⟨q.a + wa, q.b⟩ : PI)) (xs := zs) h3.fh (al.up h2) (SqL.of (by rw [upd_ne hDd]; exact w.h)) fun us pq np hus => ?_
                generalize (fun c => if c = d2 then F2 d2 else F5 c) = F6 at g6 gb6 w6 s26 hus
                generalize upd G5 d2 (.dK (dI L)) = G6 at g6 w6 np ⊢
                have g7 := g6.own (o := .lst us) np
                have w7 := w6.own (u := .lst us) np
                refine rTupF.mk (SqL.of upd_same) fun t2 o2 do2 n2 => ⟨two_le, fun t3 n3 => ?_⟩
                generalize upd G6 pq (.lst us) = G7 at g7 w7 n2 n3 ⊢
                have g8 := g7.new (o := .frz o2 (.tup us)) n2
                have w8 := w7.new (u := .frz o2 (.tup us)) n2
                have s8 : Same F6 (upd F6 t2 (.frz o2 (.tup us))) := sm_new (Same.refl F6) (g7.fh.free n2)
                have i8 : Is (upd F6 t2 (.frz o2 (.tup us))) (.ref t2) (⟨srt (L.map fun q => (⟨q.a + wa, q.b⟩ : PI))⟩ : PTup PI) := ⟨t2, us, rfl, ⟨o2, upd_same, do2⟩, IsAll.up hus s8⟩
                generalize upd F6 t2 (.frz o2 (.tup us)) = F8 at g8 w8 s8 i8
                generalize upd G7 t2 (.frz o2 (.tup us)) = G8 at g8 w8 n3 ⊢
                have g9 := g8.new (o := .tup [.int r, .ref t2]) n3
                have w9 := w8.new (u := .tup [.int r, .ref t2]) n3
                have s9 : Same F8 (upd F8 t3 (.tup [.int r, .ref t2])) := sm_new (Same.refl F8) (g8.fh.free n3)
                refine ⟨D, _, _, rfl, rfl, w9.h, lt_size (by omega), _, ys ++ [.ref t3], _, _, _, _, _, rfl, g9.set w9.f (.inl w9.n), ?_, w9.set, ?_⟩
                · exact (gb6.trans s8).trans s9
                · rw [sc, ← List.append_assoc]
                  exact ((((al2.up s26).up s8).up s9)).app (All2.one ⟨t3, _, _, rfl, upd_same, rfl, Is.up i8 s9⟩)
            · refine ifF (decide_eq_false t2) ?_
              have sc : aheadR M p r (j + 1) = aheadR M p r j := by rw [sc]; dsimp only; rw [if_neg (fun z => t2 z.2), Option.toList_none, List.append_nil]
              exact ⟨F2, ys, _, _, _, _, _, rfl, g3, gb3, w3, by rw [sc]; exact al2⟩
          · refine ifF (decide_eq_false t1) ?_
            have sc : aheadR M p r (j + 1) = aheadR M p r j := by rw [sc]; dsimp only; rw [if_neg (fun z => t1 z.1), Option.toList_none, List.append_nil]
            exact ⟨F2, ys, _, _, _, _, _, rfl, g3, gb3, w3, by rw [sc]; exact al2⟩
      · rintro σ U ⟨F2, ys, v5, v6, v7, v8, v9, rfl, g2, gb2, w2, al2⟩
        rw [Int.toNat_natCast] at al2
        exact ⟨F2, ys, _, _, _, _, _, _, rfl, g2, gb2, w2, by rw [show aheadOf M S p (r + 1) = aheadOf M S p r ++ aheadR M p r S from fl_succ (fun r => aheadR M p r S) r]; exact al2⟩
    · rintro σ G ⟨F1, xs, v4, v5, v6, v7, v8, v9, rfl, g, gb, w, al⟩
      rw [Int.toNat_natCast] at al
      exact ⟨_, rfl, q _ _ D xs (g.frz w.h w.n w.f) upd_same (IsAll.up al (sm_new (Same.refl F1) w.f))⟩
/-! ### all that come ahead, each once, in order -/
theorem cx_prog {CX : CXT} {P : Program} {w : World} {K : PySem.W.Frag} {mg : Str → Option Value} {base : Heap} {N : List Str} {qual : Str} {scope : Scope} {f : Addr} {cd : Value} {A : Around} {outer : List Env} {s : Shared} {H : Hp} {E : XK} : (cxOf CX P w K mg base N qual scope f cd A outer s H E).nox.prog = P := rfl
theorem cx_w {CX : CXT} {P : Program} {w : World} {K : PySem.W.Frag} {mg : Str → Option Value} {base : Heap} {N : List Str} {qual : Str} {scope : Scope} {f : Addr} {cd : Value} {A : Around} {outer : List Env} {s : Shared} {H : Hp} {E : XK} : (cxOf CX P w K mg base N qual scope f cd A outer s H E).nox.w = w := rfl
def addK (ks : List Part) (x : Part) : List Part := if x ∈ ks then ks else ks ++ [x]
theorem hasD_mem (l : DL Part) (x : Part) : hasD l x = true ↔ x ∈ l.map fun t => t.2.1 := by
  unfold hasD
  rw [List.any_eq_true, List.mem_map]
  exact ⟨fun ⟨t, m, e⟩ => ⟨t, m, of_decide_eq_true e⟩, fun ⟨t, m, e⟩ => ⟨t, m, decide_eq_true e⟩⟩
theorem putD_keys (l : DL Part) (b : Addr) (x : Part) (v : V) : (putD l b x v).map (fun t => t.2.1) = addK (l.map fun t => t.2.1) x := by
  unfold putD addK
  by_cases h : hasD l x = true
  · rw [if_pos h, if_pos ((hasD_mem l x).mp h), List.map_map]
    refine List.map_congr_left fun t _ => ?_
    show (if t.2.1 = x then (t.1, t.2.1, v) else t).2.1 = t.2.1
    split <;> rfl
  · rw [if_neg h, if_neg (fun z => h ((hasD_mem l x).mpr z)), List.map_append]; rfl
def goB (M : Mach) (R S : Nat) (ps : List Part) : List Part := sortD ((ps.flatMap fun p => aheadOf M S p R).foldl addK [])
def sp_gone_back : Sp := fun vs H Q _ => ∃ (F : Hp) (m : V) (M : Mach) (R S n : Nat) (a : Addr) (xs : List V) (ps : List Part), vs = [m, .ref a] ∧ Same F H ∧ Is F m M ∧ MOk M R S ∧ F a = some (.lst xs) ∧ IsAll F xs ps ∧ (∀ p ∈ ps, POk R n p) ∧ n ≤ 1000 ∧ ps.length ≤ 10000 ∧
  ∀ (F' H' : Hp) (c : Addr) (ys : List V), Gr mu0 F H F' H' → F' c = some (.lst ys) → IsAll F' ys (goB M R S ps) → Q (.ref c) H'
theorem ok_gone_back (t : Tx K mg) : FnOk P w K mg base CX0 2 t.a_gone_back t.fd_gone_back ["machine", "parts"] sp_gone_back := by
  refine t.F_gone_back.ok sc_gone_back (fun vs H Q E h => ?_) (fun cdv A outer s H vs Q E hr h => ?_)
  · obtain ⟨F, m, M, R, S, n, a, xs, ps, rfl, _⟩ := h
    rfl
  · obtain ⟨F, m, M, R, S, n, a, xs, ps, rfl, sF, hm, hM, ha, hxs, okp, hn, lp, q⟩ := h
    refine ⟨_, (pss_cons (ps_set (i := 2) sc_gone_back.nd rfl (by first | exact Or.inl rfl | exact Or.inr rfl) pe_nnew)
      (pss_cons (ps_for PassesOwn.never rfl (pi_list (pv 1)) (pg_name (i := 3) sc_gone_back.nd rfl (by first | exact Or.inl rfl | exact Or.inr rfl)) (pss_one (ps_for PassesOwn.never rfl (pi_list (pe_call (ok_ahead_of t) (hr.mono (by decide)) (by rfl) t.m_ahead_of t.F_ahead_of.kp t.b_ahead_of .nil pass0 (pa_cons (pv 0) (pa_cons (pv 3) pa_nil)))) (pg_name (i := 4) sc_gone_back.nd rfl (by first | exact Or.inl rfl | exact Or.inr rfl)) (pss_one (ps_nput (units9 hr) (pv 2) (pv 4) pe_bl rfl)))))
      (pss_one (ps_ret (pe_callB (id := "sorted") (call_sortDN rfl (units66 hr)) (by rfl) t.n_sorted (by decide +kernel) (pa_cons (pv 2) pa_nil)))))), ?_⟩
    have g0 : Gr mu0 F H F H := Gr.refl sF
    have r4 := hM.r4
    have s4 := hM.s4
    have la : ∀ p, (aheadOf M S p R).length ≤ 16 := fun p => by
      have h1 : (aheadOf M S p R).length ≤ R * S := fl_len (fun r => aheadR M p r S) S (fun r => fm_len (aheadF M p r) S) R
      have : R * S ≤ 4 * 4 := Nat.mul_le_mul r4 s4
      omega
    rw [cx_prog, cx_w]
    refine fun d nd => ?_
    rw [show DictN P w d [] = DictD P w d ([] : DL Part) from rfl]
    have g1 := g0.own (o := DictD P w d ([] : DL Part)) nd
    have w1 : Ow H F (upd H d (DictD P w d ([] : DL Part))) d (DictD P w d ([] : DL Part)) := Ow.mk1 g0 nd
    generalize upd H d (DictD P w d ([] : DL Part)) = H1 at g1 w1 ⊢
    refine ⟨_, rfl, a, rfl, ⟨_, SqL.of (g1.fh _ _ ha)⟩, for_list (K := K) (a := a) (xs := xs) (fun i σ G => ∃ (F1 : Hp) (L : DL Part) (v3 v4 : Option V), σ = [some m, some (.ref a), some (.ref d), v3, v4] ∧ Gr mu0 F H F1 G ∧ Ow H F1 G d (DictD P w d L) ∧ KeysD F1 L ∧ L.map (fun t => t.2.1) = ((ps.take i).flatMap fun p => aheadOf M S p R).foldl addK [] ∧ L.length ≤ 16 * i)
      ⟨F, [], none, none, rfl, g1, w1, (fun t z => nomatch z), rfl, Nat.le_refl _⟩ (fun i σ G _ ⟨F1, _, _, _, _, g, _⟩ => SqL.of (g.fh _ _ (g.ff _ _ ha))) ?_ ?_⟩
    · rintro i y σ G hi ⟨F1, L, v3, v4, rfl, g, wo, kd, ek, lL⟩
      obtain ⟨p, hp, ip⟩ := hxs.get' hi
      have il : i < ps.length := (List.getElem?_eq_some_iff.mp hp).1
      refine ⟨_, rfl, _, rfl, F1, m, y, M, R, S, n, p, rfl, g.fh, hm.up g.ff, hM, Is.up ip g.ff, okp p (List.mem_of_getElem? hp), hn, fun F2 G2 c zs g2 hc al => ?_⟩
      have w2 := wo.call g2 (fun z => z)
      have kd2 := kd.up g2.ff
      have g3 := g.trans g2
      have lz : zs.length ≤ 16 := by rw [al.1]; exact la p
      refine ⟨c, rfl, ⟨_, SqL.of (g3.fh _ _ hc)⟩, for_list (K := K) (a := c) (xs := zs) (fun j σ U => ∃ (L2 : DL Part) (v4 : Option V), σ = [some m, some (.ref a), some (.ref d), some y, v4] ∧ Gr mu0 F H F2 U ∧ Ow H F2 U d (DictD P w d L2) ∧ KeysD F2 L2 ∧ L2.map (fun t => t.2.1) = ((aheadOf M S p R).take j).foldl addK (L.map fun t => t.2.1) ∧ L2.length ≤ 16 * i + j)
        ⟨L, v4, rfl, g3, w2, kd2, rfl, lL⟩ (fun j σ U _ ⟨_, _, _, gu, _⟩ => SqL.of (gu.fh _ _ hc)) ?_ ?_⟩
      · rintro j z σ U hj ⟨L2, v4, rfl, gu, wu, ku, eu, lu⟩
        obtain ⟨o, ho, io⟩ := al.get' hj
        have jl : j < zs.length := (List.getElem?_eq_some_iff.mp hj).1
        obtain ⟨b, x1, x2, rfl, hb, i1, i2⟩ := id io
        refine ⟨_, rfl, _, rfl, d, _, rfl, NPut.d (x := o) wu.h (ku.up gu.fh) (io.up gu.fh) (lt_size (by omega)), ?_⟩
        refine ⟨putD L2 b o (.bl true), _, rfl, gu.set wu.f (.inl wu.n), wu.set, ku.put io, ?_, by have := putD_len L2 b o (.bl true); omega⟩
        rw [putD_keys, eu, List.take_add_one, ho, List.foldl_append]
        rfl
      · rintro σ U ⟨L2, v4, rfl, gu, wu, ku, eu, lu⟩
        refine ⟨F2, L2, _, _, rfl, gu, wu, ku, ?_, by omega⟩
        rw [eu, al.1, List.take_length, ek, List.take_add_one, hp, List.flatMap_append, List.foldl_append]
        simp
    · rintro σ G ⟨F1, L, v3, v4, rfl, g, wo, kd, ek, lL⟩
      rw [hxs.1, List.take_length] at ek
      refine ⟨_, rfl, rSortDN.mk (P := P) (w := w) g.fh wo.h kd fun ys pq al np => ?_⟩
      rw [ek] at al
      have g2 := g.new (o := .lst ys) np
      exact q _ _ pq ys g2 upd_same (IsAll.up al (sm_new (Same.refl F1) (g.fh.free np)))
/-! ### the parts of a depth (plain) -/
def lvl (M : Mach) (R S : Nat) : Nat → List Part
  | 0 => sortD (endsOf M S R)
  | d + 1 => goB M R S (lvl M R S d)
theorem mem_addK : ∀ (xs ks : List Part) (x : Part), x ∈ xs.foldl addK ks → x ∈ ks ∨ x ∈ xs
  | [], ks, x, h => .inl h
  | y :: xs, ks, x, h => by
    rcases mem_addK xs (addK ks y) x h with h | h
    · unfold addK at h
      split at h
      · exact .inl h
      · rcases List.mem_append.mp h with h | h
        · exact .inl h
        · rw [List.mem_singleton.mp h]; exact .inr (List.mem_cons_self ..)
    · exact .inr (List.mem_cons_of_mem _ h)
theorem ends_ok {M : Mach} {R S : Nat} : ∀ p ∈ endsOf M S R, POk R 1 p := fun p h => by
  obtain ⟨r, hr, h⟩ := List.mem_flatMap.mp h
  obtain ⟨j, hj, h⟩ := List.mem_filterMap.mp h
  have hr := List.mem_range.mp hr
  unfold endF at h
  split at h
  · cases h
    exact ⟨by show (0 : Int) ≤ (r : Int); omega, by show (r : Int) < R; omega, by show (([⟨0, (j : Int)⟩] : List PI).map (·.a)).Nodup; simp, Nat.le_refl _⟩
  · cases h
theorem ahead_ok {M : Mach} {R S n : Nat} {p : Part} (hp : POk R n p) : ∀ o ∈ aheadOf M S p R, POk R (n + 1) o := fun o h => by
  obtain ⟨r, hr, h⟩ := List.mem_flatMap.mp h
  obtain ⟨j, hj, h⟩ := List.mem_filterMap.mp h
  have hr := List.mem_range.mp hr
  unfold aheadF at h
  split at h
  · cases h
  · split at h
    · cases h
      rename_i pu wa to _ _ _
      have pm := srt_perm ((put p.b.l (-wa) j).map fun q => (⟨q.a + wa, q.b⟩ : PI))
      refine ⟨by show (0 : Int) ≤ (r : Int); omega, by show (r : Int) < R; omega, ?_, ?_⟩
      · show ((srt ((put p.b.l (-wa) j).map fun q => (⟨q.a + wa, q.b⟩ : PI))).map (·.a)).Nodup
        rw [(pm.map _).nodup_iff, List.map_map]
        have nd := nd_put hp.nd (-wa) j
        have nd : ((put p.b.l (-wa) j).map (·.a)).Nodup := nd
        have e : (put p.b.l (-wa) j).map ((fun q : PI => q.a) ∘ fun q => (⟨q.a + wa, q.b⟩ : PI)) = ((put p.b.l (-wa) j).map (·.a)).map (· + wa) := by rw [List.map_map]; rfl
        rw [e, List.nodup_iff_pairwise_ne, List.pairwise_map]
        exact (List.nodup_iff_pairwise_ne.mp nd).imp fun h z => h (by omega)
      · show (srt ((put p.b.l (-wa) j).map fun q => (⟨q.a + wa, q.b⟩ : PI))).length ≤ n + 1
        rw [pm.length_eq, List.length_map]
        have := put_len p.b.l (-wa) j
        have := hp.len
        omega
    · cases h
theorem lvl_ok {M : Mach} {R S : Nat} : ∀ (d : Nat), ∀ p ∈ lvl M R S d, POk R (d + 1) p
  | 0, p, h => ends_ok p ((sortD_perm _).mem_iff.mp h)
  | d + 1, p, h => by
    have h := (sortD_perm _).mem_iff.mp h
    rcases mem_addK _ _ p h with h | h
    · cases h
    · obtain ⟨o, ho, h⟩ := List.mem_flatMap.mp h
      exact ahead_ok (lvl_ok d o ho) p h
/-! ### parts as they are told: lists of their own -/
/-- ts: the told pairs; ls: their lists, ours yet -/
structure TdAt (H F G : Hp) (ts ls : List Addr) (ps : List Part) : Prop where
  lt : ts.length = ps.length
  ll : ls.length = ps.length
  nd : ls.Nodup
  at_ : ∀ (i : Nat) (t l : Addr) (p : Part), ts[i]? = some t → ls[i]? = some l → ps[i]? = some p → F t = some (.tup [.int p.a, .ref l]) ∧ ∃ xs, Ow H F G l (.lst xs) ∧ IsAll F xs p.b.l
def sp_told_parts : Sp := fun vs H Q _ => ∃ (F : Hp) (a : Addr) (xs : List V) (ps : List Part), vs = [.ref a] ∧ Same F H ∧ F a = some (.lst xs) ∧ IsAll F xs ps ∧ ps.length ≤ 200000 ∧
  ∀ (F' H' : Hp) (c : Addr) (ts ls : List Addr), Gr mu0 F H F' H' → Ow H F' H' c (.lst (ts.map V.ref)) → c ∉ ls → TdAt H F' H' ts ls ps → Q (.ref c) H'
theorem ok_told_parts (t : Tx K mg) : FnOk P w K mg base CX0 1 t.a_told_parts t.fd_told_parts ["parts"] sp_told_parts := by
  refine t.F_told_parts.ok sc_told_parts (fun vs H Q E h => ?_) (fun cdv A outer s H vs Q E hr h => ?_)
  · obtain ⟨F, a, xs, ps, rfl, _⟩ := h
    rfl
  · obtain ⟨F, a, xs, ps, rfl, sF, ha, hxs, lp, q⟩ := h
    refine ⟨_, (pss_one (ps_ret (pe_lc (own := [("row", 1), ("signs", 2)]) (tt := tYes) rfl sc_told_parts.nd (pi_list (pv 0)) (blkOk_by (N := N_told_parts) (sc := defScope s_told_parts) (by decide +kernel)) (fun _ _ _ _ _ => (pg_tupK (K := K) (n := 2) rfl rfl (pgs_cons (pg_name (i := 1) sc_told_parts.nd rfl (by first | exact Or.inl rfl | exact Or.inr rfl)) (pgs_cons (pg_name (i := 2) sc_told_parts.nd rfl (by first | exact Or.inl rfl | exact Or.inr rfl)) pgs_nil)))) (fun _ _ _ _ _ => pts_nil) (fun _ _ _ _ _ => (pe_tup (pa_cons (pv 1) (pa_cons (pe_callTy (T := "list") (crK (K := K) (r := rListQ) rfl call_listQ) (by rfl) t.n_list (by decide +kernel) (pa_cons (pv 2) pa_nil)) pa_nil))))))), ?_⟩
    have g0 : Gr mu0 F H F H := Gr.refl sF
    refine ⟨_, rfl, a, rfl, ⟨_, SqL.of (sF _ _ ha)⟩, fun D nD => lc_list (K := K) (a := a) (xs := xs) (fun i G => ∃ (F1 : Hp) (ts ls : List Addr), Gr mu0 F H F1 G ∧ Ow H F1 G D (.lst (ts.map V.ref)) ∧ D ∉ ls ∧ TdAt H F1 G ts ls (ps.take i))
      ⟨F, [], [], g0.own nD, Ow.mk1 g0 nD, (fun z => nomatch z), ⟨rfl, rfl, List.nodup_nil, fun i t l p e => nomatch e⟩⟩ (fun i G _ ⟨F1, _, _, g, _⟩ => SqL.of (g.fh _ _ (g.ff _ _ ha))) ?_ ?_⟩
    · rintro i y G hi ⟨F1, ts, ls, g, w, dl, td⟩
      obtain ⟨p, hp, p0, x1, x2, rfl, hp0, e1, ⟨b0, zs, rfl, hb, hzs⟩⟩ := hxs.get' hi
      have il : i < ps.length := (List.getElem?_eq_some_iff.mp hp).1
      have e1 : x1 = .int p.a := e1
      subst e1
      have hzs : IsAll F zs p.b.l := hzs
      have lt : ts.length = i := by rw [td.lt, List.length_take]; omega
      have ll : ls.length = i := by rw [td.ll, List.length_take]; omega
      refine ⟨p0, _, rfl, SqT.of (g.fh _ _ (g.ff _ _ hp0)), rfl, _, _, rfl, _, _, rfl, rfl, rfl, yes ⟨_, rfl, _, rfl, b0, zs, rfl, .inr (((hb.up g.ff).up g.fh).sq), fun l1 n1 => ⟨two_le, fun t1 n2 => ?_⟩⟩⟩
      have g2 := g.own (o := .lst zs) n1
      have w2 := w.own (u := .lst zs) n1
      have wl : Ow H F1 (upd G l1 (.lst zs)) l1 (.lst zs) := Ow.mk1 g n1
      have Dl := w.ne n1
      have td2 : TdAt H F1 (upd G l1 (.lst zs)) ts ls (ps.take i) := ⟨td.lt, td.ll, td.nd, fun i t l p a b c => by
        obtain ⟨h1, xs, h2, h3⟩ := td.at_ i t l p a b c
        exact ⟨h1, xs, h2.own n1, h3⟩⟩
      have nin : l1 ∉ ls := fun m => by
        obtain ⟨j, hj⟩ := List.mem_iff_getElem?.mp m
        have jl : j < i := by rw [← ll]; exact (List.getElem?_eq_some_iff.mp hj).1
        obtain ⟨_, xs, h2, _⟩ := td.at_ j (ts[j]'(by omega)) l1 ((ps.take i)[j]'(by rw [List.length_take]; omega)) (List.getElem?_eq_getElem _) hj (List.getElem?_eq_getElem _)
        rw [h2.h] at n1
        cases n1
      generalize upd G l1 (.lst zs) = G1 at g2 w2 wl td2 n2 ⊢
      have g3 := g2.new (o := .tup [.int p.a, .ref l1]) n2
      have w3 := w2.new (u := .tup [.int p.a, .ref l1]) n2
      have wl3 := wl.new (u := .tup [.int p.a, .ref l1]) n2
      have s3 : Same F1 (upd F1 t1 (.tup [.int p.a, .ref l1])) := sm_new (Same.refl F1) (g2.fh.free n2)
      have s03 : Same F (upd F1 t1 (.tup [.int p.a, .ref l1])) := fun c o e => s3 c o (g.ff c o e)
      refine ⟨ts.map V.ref, w3.h, by rw [List.length_map]; exact lt_size (by omega), _, ts ++ [t1], ls ++ [l1], g3.set w3.f (.inl w3.n), by rw [List.map_append]; exact w3.set, ?_, ?_⟩
      · rw [List.mem_append, List.mem_singleton]; exact fun z => z.elim dl Dl
      · have tk : ps.take (i + 1) = ps.take i ++ [p] := by rw [List.take_add_one, hp]; rfl
        refine ⟨by rw [List.length_append, lt, List.length_take]; show i + 1 = _; omega, by rw [List.length_append, ll, List.length_take]; show i + 1 = _; omega, ?_, fun j t l o h1 h2 h3 => ?_⟩
        · rw [List.nodup_append]
          refine ⟨td.nd, List.nodup_cons.mpr ⟨(fun z => nomatch z), List.nodup_nil⟩, fun x mx y my e => ?_⟩
          rw [List.mem_singleton.mp my] at e
          exact nin (e ▸ mx)
        · rw [tk] at h3
          by_cases jl : j < i
          · rw [List.getElem?_append_left (by omega)] at h1 h2
            rw [List.getElem?_append_left (by rw [List.length_take]; omega)] at h3
            obtain ⟨k1, xs, k2, k3⟩ := td2.at_ j t l o h1 h2 h3
            exact ⟨s3 _ _ k1, xs, (k2.new n2).other (fun e => dl (e ▸ List.mem_of_getElem? h2)), IsAll.up k3 s3⟩
          · have je : j = i := by have := (List.getElem?_eq_some_iff.mp h1).1; rw [List.length_append] at this; have : j < ts.length + 1 := this; omega
            subst je
            rw [List.getElem?_append_right (by omega), lt, Nat.sub_self] at h1
            rw [List.getElem?_append_right (by omega), ll, Nat.sub_self] at h2
            rw [List.getElem?_append_right (by rw [List.length_take]; omega), List.length_take, Nat.min_eq_left (by omega), Nat.sub_self] at h3
            cases h1
            cases h2
            cases h3
            exact ⟨upd_same, zs, wl3.other (Ne.symm Dl), hzs.up s03⟩
    · rintro G ⟨F1, ts, ls, g, w, dl, td⟩
      rw [hxs.1, List.take_length] at td
      exact q _ _ D ts ls g w dl td
/-! ### small things -/
theorem ln {H : Hp} {p q : Addr} {o u : HO} (n : H q = none) (h : H p = some o) : upd H q u p = some o := (upd_ne (ne_of_none h n)).trans h
theorem kt_int_int {K : PySem.W.Frag} : PySem.W.kitOne K (.type "int") (.type "int") = some true := kit_ty (by decide +kernel)
theorem kt_int_bool {K : PySem.W.Frag} : PySem.W.kitOne K (.type "int") (.type "bool") = some false := kit_ty (by decide +kernel)
theorem kt_tup {K : PySem.W.Frag} : PySem.W.kitOne K (.type "tuple") (.type "tuple") = some true := kit_ty (by decide +kernel)
theorem kt_list {K : PySem.W.Frag} : PySem.W.kitOne K (.type "list") (.type "list") = some true := kit_ty (by decide +kernel)
theorem gr_purse {H H1 : Hp} (s : Same H H1) : Gr mu0 H H H H1 := ⟨fun _ _ h => h, s, fun _ _ h => .inl h, fun c o h _ => s c o h, fun c h => s.free h⟩
theorem at_end {xs : List V} {k : Nat} {v : V} (l : xs.length = k + 1) (h : xs[k]? = some v) : atI xs (-1) = some v := by
  have e : ixN xs.length (-1) = some k := by
    unfold ixN
    rw [if_neg (by decide), if_pos (by omega)]
    congr 1
    omega
  unfold atI
  rw [e]
  exact h
theorem cut_all {xs : List V} {j : Nat} (h : xs.length ≤ j) : cutV xs none (some (j : Int)) = xs := by
  unfold cutV
  have e1 : HT.sIx xs.length 0 none = 0 := rfl
  have e2 : HT.sIx xs.length xs.length (some (j : Int)) = xs.length := by
    simp only [HT.sIx]
    rw [if_neg (by omega), Int.toNat_natCast]
    omega
  rw [e1, e2, List.drop_zero, Nat.sub_zero, List.take_length]
theorem map_take_succ {α β : Type} {f : α → β} {xs : List α} {i : Nat} {x : α} (h : xs[i]? = some x) : (xs.take (i + 1)).map f = (xs.take i).map f ++ [f x] := by
  rw [List.take_add_one, h, List.map_append]; rfl
theorem cut_1 {xs : List V} : cutV xs (some 1) none = xs.drop 1 := by
  unfold cutV
  have e2 : HT.sIx xs.length xs.length none = xs.length := rfl
  rw [e2]
  cases xs with
  | nil => simp
  | cons x xs =>
    have e1 : HT.sIx (x :: xs).length 0 (some 1) = 1 := by
      simp only [HT.sIx, List.length_cons]
      rw [if_neg (by decide), show (1 : Int).toNat = 1 from rfl]
      omega
    rw [e1]
    show (xs.take (xs.length + 1 - 1)) = xs
    rw [Nat.add_sub_cancel, List.take_length]
theorem cut32 : ¬ (HT.sIx 3 0 none = 0 ∧ HT.sIx 3 3 (some 2) = 3) := by decide
theorem Gr.frzS {mu : Addr → Prop} {F H F1 H1 : Hp} (g : Gr mu F H F1 H1) (P : Addr → Prop) [DecidablePred P] (h : ∀ c, P c → H c = none ∧ F1 c = none) : Gr mu F H (fun c => if P c then H1 c else F1 c) H1 ∧ Same F1 (fun c => if P c then H1 c else F1 c) := by
  have s : Same F1 (fun c => if P c then H1 c else F1 c) := fun c o e => by
    by_cases p : P c
    · rw [(h c p).2] at e; cases e
    · simp only [p, if_false]; exact e
  refine ⟨⟨fun c o e => s c o (g.ff c o e), fun c o e => ?_, fun c o e => ?_, g.fr, g.th⟩, s⟩
  · by_cases p : P c
    · simp only [p, if_true] at e; exact e
    · simp only [p, if_false] at e; exact g.fh c o e
  · by_cases p : P c
    · exact .inr (h c p).1
    · simp only [p, if_false] at e; exact g.nw c o e
/-! ### the parts at a depth -/
theorem addK_len : ∀ (xs ks : List Part), (xs.foldl addK ks).length ≤ ks.length + xs.length
  | [], ks => Nat.le_refl _
  | y :: xs, ks => by
    have h1 := addK_len xs (addK ks y)
    have h2 : (addK ks y).length ≤ ks.length + 1 := by
      unfold addK
      split
      · omega
      · rw [List.length_append]; exact Nat.le_refl _
    show (xs.foldl addK (addK ks y)).length ≤ ks.length + (xs.length + 1)
    omega
theorem fm16 {M : Mach} {R S : Nat} (hM : MOk M R S) : ∀ ps : List Part, (ps.flatMap fun p => aheadOf M S p R).length ≤ 16 * ps.length
  | [] => Nat.le_refl _
  | p :: ps => by
    have h0 := fm16 hM ps
    have h1 : (aheadOf M S p R).length ≤ R * S := fl_len (fun r => aheadR M p r S) S (fun r => fm_len (aheadF M p r) S) R
    have : R * S ≤ 4 * 4 := Nat.mul_le_mul hM.r4 hM.s4
    rw [List.flatMap_cons, List.length_append, List.length_cons]
    omega
theorem goB_len {M : Mach} {R S : Nat} (hM : MOk M R S) (ps : List Part) : (goB M R S ps).length ≤ 16 * ps.length := by
  have h1 := (sortD_perm ((ps.flatMap fun p => aheadOf M S p R).foldl addK [])).length_eq
  have h2 := addK_len (ps.flatMap fun p => aheadOf M S p R) []
  have h3 := fm16 hM ps
  have : ([] : List Part).length = 0 := rfl
  show (sortD _).length ≤ _
  omega
theorem lvl0_len {M : Mach} {R S : Nat} (hM : MOk M R S) : (lvl M R S 0).length ≤ 16 := by
  have h1 : (lvl M R S 0).length = (endsOf M S R).length := (sortD_perm _).length_eq
  have h2 : (endsOf M S R).length ≤ R * S := fl_len (fun r => endsR M r S) S (fun r => fm_len (endF M r) S) R
  have : R * S ≤ 4 * 4 := Nat.mul_le_mul hM.r4 hM.s4
  omega
def sp_parts_at : Sp := fun vs H Q _ => ∃ (F : Hp) (m : V) (M : Mach) (R S d : Nat), vs = [m, .int d] ∧ Same F H ∧ Is F m M ∧ MOk M R S ∧ d ≤ 500 ∧ (∀ k, k < d → (lvl M R S k).length ≤ 300) ∧
  ∀ (F' H' : Hp) (c : Addr) (ts ls : List Addr), Gr mu0 F H F' H' → Ow H F' H' c (.lst (ts.map V.ref)) → c ∉ ls → TdAt H F' H' ts ls (lvl M R S d) → Q (.ref c) H'
theorem ok_parts_at (t : Tx K mg) : FnOk P w K mg base CX0 4 t.a_parts_at t.fd_parts_at ["machine", "depth"] sp_parts_at := by
  refine t.F_parts_at.ok sc_parts_at (fun vs H Q E h => ?_) (fun cdv A outer s H vs Q E hr h => ?_)
  · obtain ⟨F, m, M, R, S, d, rfl, _⟩ := h
    rfl
  · obtain ⟨F, m, M, R, S, d, rfl, sF, hm, hM, hd, hk, q⟩ := h
    refine ⟨_, (pss_cons (ps_expr (pe_call (ok_must_machine t) (hr.mono (by decide)) (by rfl) t.m_must_machine t.F_must_machine.kp t.b_must_machine .nil pass0 (pa_cons (pv 0) pa_nil)))
      (pss_cons (ps_set (i := 2) sc_parts_at.nd rfl (by first | exact Or.inl rfl | exact Or.inr rfl) (pe_callB (id := "sorted") (call_sortN (units66 hr)) (by rfl) t.n_sorted (by decide +kernel) (pa_cons (pe_call (ok_ends_of t) (hr.mono (by decide)) (by rfl) t.m_ends_of t.F_ends_of.kp t.b_ends_of .nil pass0 (pa_cons (pv 0) pa_nil)) pa_nil)))
      (pss_cons (ps_for PassesOwn.never rfl (pi_range1 (by rfl) t.n_range (pa_cons (pv 1) pa_nil)) (pg_name (i := 3) sc_parts_at.nd rfl (by first | exact Or.inl rfl | exact Or.inr rfl)) (pss_one (ps_set (i := 2) sc_parts_at.nd rfl (by first | exact Or.inl rfl | exact Or.inr rfl) (pe_call (ok_gone_back t) (hr.mono (by decide)) (by rfl) t.m_gone_back t.F_gone_back.kp t.b_gone_back .nil pass0 (pa_cons (pv 0) (pa_cons (pv 2) pa_nil))))))
      (pss_one (ps_ret (pe_call (ok_told_parts t) (hr.mono (by decide)) (by rfl) t.m_told_parts t.F_told_parts.kp t.b_told_parts .nil pass0 (pa_cons (pv 2) pa_nil))))))), ?_⟩
    refine ⟨_, rfl, F, m, M, R, S, rfl, sF, hm, hM, fun H1 g1 => ?_⟩
    refine ⟨_, rfl, F, m, M, R, S, rfl, g1.fh, hm, hM, fun F2 H2 c xs g2 hc al => ?_⟩
    have g3 := g1.trans g2
    refine rSortN.mk g3.fh (SqL.of (g3.fh _ _ hc)) al fun ys p0 al2 np => ?_
    have g4 := g3.new (o := .lst ys) np
    have s4 : Same F2 (upd F2 p0 (.lst ys)) := sm_new (Same.refl F2) (g3.fh.free np)
    have h4 : (upd F2 p0 (.lst ys)) p0 = some (.lst ys) := upd_same
    have al4 := IsAll.up al2 s4
    generalize upd F2 p0 (.lst ys) = F4 at g4 h4 al4
    generalize upd H2 p0 (.lst ys) = H4 at g4 ⊢
    refine ⟨_, rfl, d, rfl, by omega, by omega, for_range (lo := 0) (n := ((d : Int)).toNat) (fun i σ G => ∃ (F5 : Hp) (p : Addr) (ys : List V) (v3 : Option V), σ = [some m, some (.int d), some (.ref p), v3] ∧ Gr mu0 F H F5 G ∧ F5 p = some (.lst ys) ∧ IsAll F5 ys (lvl M R S i))
      ⟨F4, p0, ys, none, rfl, g4, h4, al4⟩ ?_ ?_⟩
    · rintro i σ G hi ⟨F5, p, ys, v3, rfl, g, hp, al⟩
      have hi : i < d := by rw [Int.toNat_natCast] at hi; exact hi
      have := hk i hi
      refine ⟨_, rfl, _, rfl, F5, m, M, R, S, i + 1, p, ys, lvl M R S i, rfl, g.fh, hm.up g.ff, hM, hp, al, lvl_ok i, by omega, by omega, fun F6 H6 c2 zs g6 hc2 al6 => ?_⟩
      exact ⟨F6, c2, zs, _, rfl, g.trans g6, hc2, al6⟩
    · rintro σ G ⟨F5, p, ys, v3, rfl, g, hp, al⟩
      rw [Int.toNat_natCast] at al
      have ln : (lvl M R S d).length ≤ 5000 := by
        cases d with
        | zero => have := lvl0_len hM; omega
        | succ d =>
          have h1 := goB_len hM (lvl M R S d)
          have h2 := hk d (Nat.lt_succ_self d)
          show (goB M R S (lvl M R S d)).length ≤ 5000
          omega
      refine ⟨_, rfl, F5, p, ys, lvl M R S d, rfl, g.fh, hp, al, by omega, fun F6 H6 c ts ls g6 w nl td => ?_⟩
      have g7 := g.trans g6
      have up : ∀ {q o}, Ow G F6 H6 q o → Ow H F6 H6 q o := fun {q o} w => ⟨g.th _ w.n, w.f, w.h⟩
      exact q F6 H6 c ts ls g7 (up w) nl ⟨td.lt, td.ll, td.nd, fun i t l p a b c => by
        obtain ⟨h1, xs, h2, h3⟩ := td.at_ i t l p a b c
        exact ⟨h1, xs, up h2, h3⟩⟩
/-! ### a tuple the other way round -/
theorem revAdj (n : Nat) : Builtin.Slice.sliceAdjust none none (-1) (n : Int) = ((n : Int) - 1, -1) := rfl
theorem revPlaces (n : Nat) : Builtin.Slice.slicePlaces ((n : Int) - 1) (-1) (-1) = n := by
  unfold Builtin.Slice.slicePlaces
  rw [if_neg (by decide)]
  by_cases h : (n : Int) - 1 > -1
  · rw [if_pos h, show (- -1 : Int) = 1 from rfl, Int.ediv_one]; omega
  · rw [if_neg h]; omega
theorem fm_all {α β : Type} {f : α → Option β} {g : α → β} : ∀ {l : List α}, (∀ x ∈ l, f x = some (g x)) → l.filterMap f = l.map g
  | [], _ => rfl
  | x :: l, h => by
    rw [List.filterMap_cons, h x (List.mem_cons_self ..)]
    show g x :: l.filterMap f = _
    rw [fm_all fun y hy => h y (List.mem_cons_of_mem _ hy)]; rfl
theorem revPick (zs : List Value) : ((List.range zs.length).filterMap fun (k : Nat) => zs.toArray[((zs.length : Int) - 1 + (k : Int) * -1).toNat]?) = zs.reverse := by
  refine List.ext_getElem? fun i => ?_
  have e : ∀ k ∈ List.range zs.length, zs.toArray[((zs.length : Int) - 1 + (k : Int) * -1).toNat]? = some ((zs.reverse[k]?).getD .none) := fun k hk => by
    have hk := List.mem_range.mp hk
    rw [List.getElem?_toArray, List.getElem?_reverse hk, show ((zs.length : Int) - 1 + (k : Int) * -1).toNat = zs.length - 1 - k by omega, List.getElem?_eq_getElem (by omega)]
    rfl
  rw [fm_all e, List.getElem?_map]
  by_cases hi : i < zs.length
  · rw [List.getElem?_range hi, List.getElem?_reverse hi, List.getElem?_eq_getElem (by omega)]
    show some ((zs.reverse[i]?).getD .none) = _
    rw [List.getElem?_reverse hi, List.getElem?_eq_getElem (by omega)]
    rfl
  · rw [List.getElem?_eq_none (by rw [List.length_range]; omega), List.getElem?_eq_none (by rw [List.length_reverse]; omega)]
    rfl
section
open PySem.Spec PyProof.Rows HT
variable {prog : Program} {w : World} {A : Around} {E : Value → Shared → Prop} {s : Shared}
theorem revApplied {sl : Addr} {u : Tok} {n : Nat} {Q : Int × Int × Nat → Shared → Prop} (hs : s.heap.IsSliceOf sl .none .none (.int (-1) u)) (h : Q ((n : Int) - 1, -1, n) s) :
    wpAny (model prog w) A (Builtin.Slice.sliceApplied (.ref sl) (pure (n : Int))) Q E s := by
  obtain ⟨ob, k1, k2, k3⟩ := id hs
  unfold Builtin.Slice.sliceApplied Builtin.Slice.sliceFields
  refine wpAny_bind (wpAny_bind (wpAny_field k1 k3 (x := .none) rfl (wpAny_bind (wpAny_field k1 k3 (x := .none) rfl (wpAny_bind (wpAny_field k1 k3 (x := .int (-1) u) rfl (wpAny_pure ?_)))))))
  refine wpAny_bind (slicePart_int ?_)
  show wpAny _ _ (if ((-1 : Int) == 0) = true then _ else _) _ _ s
  rw [if_neg (by decide)]
  refine wpAny_bind (slicePart_none (wpAny_bind (slicePart_none (wpAny_bind (wpAny_pure ?_)))))
  show wpAny _ _ (match Builtin.Slice.sliceAdjust none none (-1) (n : Int) with | (lo, hi) => pure (lo, (-1 : Int), Builtin.Slice.slicePlaces lo hi (-1))) _ _ s
  rw [revAdj]
  show wpAny _ _ (pure ((n : Int) - 1, (-1 : Int), Builtin.Slice.slicePlaces ((n : Int) - 1) (-1) (-1))) _ _ s
  rw [revPlaces]
  exact wpAny_pure h
theorem revItem {t sl : Addr} {zs : List Value} {u : Tok} {Q : Value → Shared → Prop} (ht : IsTup s.heap t zs.toArray) (hs : s.heap.IsSliceOf sl .none .none (.int (-1) u))
    (h : Q (.ref s.heap.objs.size) { s with heap := s.heap.push { cls := .type "tuple", data := .seq zs.reverse.toArray } }) (hz : zs.length ≤ sizeLine) : wpAny (model prog w) A (getItem (.ref t) (.ref sl)) Q E s := by
  have fits : sizeOk (.seq zs.reverse.toArray) := by
    show zs.reverse.toArray.size ≤ sizeLine
    rw [List.size_toArray, List.length_reverse]; exact hz
  obtain ⟨ob, k1, k2, k3⟩ := id hs
  unfold getItem
  try with_reducible refine wpAny_holding ?_
  first | refine wpAny_bind (wpAny_pure ?_) | skip
  refine wpAny_bind (wpAny_sequenceKey ht.typeIs (by decide) (wpAny_bind (wpAny_callSpecial?_slot (name := Str.ofString "__getitem__") ht.typeIs PyProof.Rows.slot_tuple_getitem
    (wpAny_call_entry PyProof.Rows.slot_tuple_getitem ht.typeIs entry_tuple_getitem ?_ (args_tuple_getitem _ _)))))
  show wpAny _ _ (Builtin.Tuple.tupleItemsOf (.ref t) >>= _) _ _ s
  refine wpAny_bind (tupleItemsOf_ ht (wpAny_bind (wpAny_typeOf (v := .ref sl) ⟨ob, k1, k2⟩ ?_)))
  rw [if_pos (by decide)]
  refine wpAny_bind (revApplied (n := zs.toArray.size) hs ?_)
  have off : ¬ (((zs.toArray.size : Int) - 1 == 0 && (-1 : Int) == 1 && zs.toArray.size == zs.toArray.size) = true) := by
    rw [show ((-1 : Int) == 1) = false from rfl, Bool.and_false, Bool.false_and]
    exact Bool.false_ne_true
  show wpAny _ _ (if ((zs.toArray.size : Int) - 1 == 0 && (-1 : Int) == 1 && zs.toArray.size == zs.toArray.size) = true then _ else _) _ _ s
  rw [if_neg off]
  rw [List.size_toArray, revPick]
  first
    | exact wpAny_bind (m := Builtin.Tuple.tupleExact _) (wpAny_newObj_type (wpAny_pure ⟨_, rfl, wpAny_pure h⟩) fits)
    | exact wpAny_bind (m := Builtin.Tuple.tupleExact _) (wpAny_newObj_type (wpAny_bind (wpAny_pure (wpAny_pure ⟨_, rfl, wpAny_pure h⟩))) fits)
    | exact wpAny_bind (wpAny_bind (m := Builtin.Tuple.tupleExact _) (wpAny_newObj_type (wpAny_pure (wpAny_pure ⟨_, rfl, wpAny_pure h⟩)) fits))
    | exact wpAny_bind (wpAny_bind (m := Builtin.Tuple.tupleExact _) (wpAny_newObj_type (wpAny_pure ⟨_, rfl, wpAny_pure h⟩) fits))
end
section
open PySem.Spec PyProof.Rows
variable {X : Cx}
def tRevT (K : PySem.W.Frag) (te : TE) : TE := fun σ H Q => te σ H fun x G => ∃ a xs, x = .ref a ∧ SqT K G a xs ∧ ∀ p, G p = none → Q (.ref p) (upd G p (.tup xs.reverse))
theorem pe_revT {e : PySem.Expr} {te : TE} {k : Nat} {p1 p2 p3 pos : Pos} (he : PE X e te) : PE X (.Subscript e (.Slice none none (some (.UnaryOp .USub (.Constant (.int 1) k p1) p2)) p3) pos) (tRevT X.K te) := by
  refine ⟨fun pins s σ H Q I h => Subscript_ (thn (he.run pins s σ H _ I h) fun v s1 ⟨x, G, J, r, q⟩ => ?_)⟩
  obtain ⟨a, xs, ex, hx, q⟩ := q
  subst ex
  cases r
  have step : PO X (some (.UnaryOp .USub (.Constant (.int 1) k p1) p2)) (tPart (tUn (rU fun i => .int (-i)) (tC (.int 1)))) := po_some (pe_un un_neg pe_int)
  refine wpAny_Slice (thn (po_none.run pins s1 σ G (fun o G' => o = none ∧ G' = G) J ⟨rfl, rfl⟩) fun u1 s2 ⟨o1, G1, J1, i1, e1, f1⟩ => ?_)
  subst e1 f1
  refine thn (po_none.run pins s2 σ G1 (fun o G' => o = none ∧ G' = G1) J1 ⟨rfl, rfl⟩) fun u2 s3 ⟨o2, G2, J2, i2, e2, f2⟩ => ?_
  subst e2 f2
  refine thn (step.run pins s3 σ G2 (fun o G' => o = some (-1) ∧ G' = G2) J2 ⟨1, rfl, -1, rfl, rfl, rfl⟩) fun u3 s4 ⟨o3, G3, J3, i3, e3, f3⟩ => ?_
  subst e3 f3
  cases i1
  cases i2
  cases i3 with
  | int _ tk =>
    have J5 : Inv X pins σ G3 { s4 with heap := s4.heap.push { cls := .type "slice", data := .fields #[.none, .none, .int (-1) tk] } } := J3.kept (t' := s4.toks) fun b ob z => Heap.get?_push_of_some _ z
    obtain ⟨its, r, ht, hz⟩ := J5.tuple hx
    have hlen := r.length
    show wpAny (model X.prog X.w) X.A (subscriptTail e (.Slice none none (some (.UnaryOp .USub (.Constant (.int 1) k p1) p2)) p3) (.ref a) (.ref s4.heap.objs.size)) (EP X pins σ Q) X.xe { s4 with heap := s4.heap.push { cls := .type "slice", data := .fields #[.none, .none, .int (-1) tk] } }
    refine tail_any (ops := [.ref a, .ref s4.heap.objs.size]) ht.typeIs (PyProof.Rows.slot_tuple_getitem.lookup) ?_ (by with_unfolding_all rfl)
    refine revItem ht (Heap.IsSliceOf.new _ _ _ _) ?_ (by omega)
    refine ⟨.ref _, _, J5.laid (t' := s4.toks) (o := .tup xs.reverse) (fun b ob z => Heap.get?_push_of_some _ z) (Nat.le_refl _) ?_, rfl, q _ (J5.hok.fresh (Nat.le_refl _))⟩
    exact ⟨by rw [List.length_reverse]; exact hz, _, r.reverse, IsTup.new _ _⟩
end
/-! ### machines drawn: lists that may be changed yet -/
structure MaO (H F1 H1 : Hp) (m : Addr) (rs : List Addr) (ess : List (List V)) (M : Mach) : Prop where
  ow : Ow H F1 H1 m (.lst (rs.map V.ref))
  nd : rs.Nodup
  ne : m ∉ rs
  len : rs.length = ess.length
  rows : ∀ (i : Nat) r es, rs[i]? = some r → ess[i]? = some es → Ow H F1 H1 r (.lst es)
  dat : All2 (fun es row => IsAll F1 es row) ess M
section
variable {mu mu' : Addr → Prop} {H F F1 H1 F2 H2 : Hp} {m : Addr} {rs : List Addr} {ess : List (List V)} {M : Mach}
theorem MaO.row (x : MaO H F1 H1 m rs ess M) {r : Addr} (h : r ∈ rs) : ∃ es, Ow H F1 H1 r (.lst es) := by
  obtain ⟨i, hi⟩ := List.getElem?_of_mem h
  have l := (List.getElem?_eq_some_iff.mp hi).1
  exact ⟨ess[i]'(by rw [← x.len]; exact l), x.rows i r _ hi (List.getElem?_eq_getElem _)⟩
theorem MaO.gr (x : MaO H F1 H1 m rs ess M) (g : Gr mu F1 H1 F2 H2) (k : ∀ c, mu c → c ≠ m ∧ c ∉ rs) : MaO H F2 H2 m rs ess M where
  ow := x.ow.call g fun z => (k m z).1 rfl
  nd := x.nd
  ne := x.ne
  len := x.len
  rows := fun i r es h1 h2 => (x.rows i r es h1 h2).call g fun z => (k r z).2 (List.mem_of_getElem? h1)
  dat := x.dat.imp fun es row z => z.up g.ff
theorem MaO.off (x : MaO H F1 H1 m rs ess M) {p : Addr} {o : HO} (h : H p = some o) : ∀ c, muP p c → c ≠ m ∧ c ∉ rs := fun c e => by
  rw [show c = p from e]
  refine ⟨fun z => ?_, fun z => ?_⟩
  · rw [z, x.ow.n] at h; cases h
  · obtain ⟨es, w⟩ := x.row z
    rw [w.n] at h; cases h
theorem MaO.offn (x : MaO H F1 H1 m rs ess M) {p : Addr} (h : H1 p = none) : p ≠ m ∧ p ∉ rs := by
  refine ⟨fun z => ?_, fun z => ?_⟩
  · rw [z, x.ow.h] at h; cases h
  · obtain ⟨es, w⟩ := x.row z
    rw [w.h] at h; cases h
/-- a row that is done comes in -/
theorem MaO.add (x : MaO H F1 H1 m rs ess M) {r : Addr} {es : List V} {row : List Ent} (w : Ow H F1 H1 r (.lst es)) (k : r ≠ m ∧ r ∉ rs) (d : IsAll F1 es row) : MaO H F1 (upd H1 m (.lst ((rs ++ [r]).map V.ref))) m (rs ++ [r]) (ess ++ [es]) (M ++ [row]) where
  ow := x.ow.set
  nd := nd_snoc x.nd k.2
  ne := fun z => by
    rcases List.mem_append.mp z with z | z
    · exact x.ne z
    · exact k.1 (List.mem_singleton.mp z).symm
  len := by rw [List.length_append, List.length_append, x.len]; rfl
  rows := fun i r' es' h1 h2 => by
    by_cases l : i < rs.length
    · rw [List.getElem?_append_left l] at h1
      rw [List.getElem?_append_left (by rw [← x.len]; exact l)] at h2
      exact (x.rows i r' es' h1 h2).other fun z => x.ne (by rw [← z]; exact List.mem_of_getElem? h1)
    · rw [List.getElem?_append_right (by omega)] at h1
      rw [List.getElem?_append_right (by rw [← x.len]; omega), ← x.len] at h2
      cases e : i - rs.length with
      | zero =>
        rw [e] at h1 h2
        cases h1; cases h2
        exact w.other k.1
      | succ n => rw [e] at h1; cases h1
  dat := x.dat.app (All2.one d)
/-- an entry of it is changed -/
theorem MaO.put (x : MaO H F1 H1 m rs ess M) {i j : Nat} {r : Addr} {es : List V} {row : List Ent} {v : V} {e : Ent} (hr : rs[i]? = some r) (hes : ess[i]? = some es) (hrow : M[i]? = some row) (hv : Is F1 v e) :
    MaO H F1 (upd H1 r (.lst (es.set j v))) m rs (ess.set i (es.set j v)) (M.set i (row.set j e)) where
  ow := x.ow.other fun z => x.ne (by rw [z]; exact List.mem_of_getElem? hr)
  nd := x.nd
  ne := x.ne
  len := by rw [List.length_set]; exact x.len
  rows := fun i' r' es' h1 h2 => by
    by_cases e : i = i'
    · subst e
      rw [hr] at h1
      cases h1
      rw [List.getElem?_set_self (List.getElem?_eq_some_iff.mp hes).1] at h2
      cases h2
      exact (x.rows i r es hr hes).set
    · rw [List.getElem?_set_ne e] at h2
      exact (x.rows i' r' es' h1 h2).other fun z => e (nd_ix x.nd hr (by rw [← z]; exact h1))
  dat := x.dat.set ((x.dat.2 i es row hes hrow).set hv j) i
/-- it is changed no more -/
theorem MaO.frz (x : MaO H F1 H1 m rs ess M) (g : Gr mu F H F1 H1) : ∃ F2, Gr mu F H F2 H1 ∧ Same F1 F2 ∧ Is F2 (.ref m) M ∧ (∀ c, c ≠ m → c ∉ rs → F2 c = F1 c) ∧ ∀ c, c = m ∨ c ∈ rs → F2 c = H1 c := by
  have own : ∀ c, (c = m ∨ c ∈ rs) → H c = none ∧ F1 c = none ∧ ∃ o, H1 c = some o := fun c h => by
    rcases h with rfl | h
    · exact ⟨x.ow.n, x.ow.f, _, x.ow.h⟩
    · obtain ⟨es, w⟩ := x.row h
      exact ⟨w.n, w.f, _, w.h⟩
  have s : Same F1 (fun c => if c = m ∨ c ∈ rs then H1 c else F1 c) := fun c o h => by
    by_cases e : c = m ∨ c ∈ rs
    · rw [(own c e).2.1] at h; cases h
    · simp only [e, if_false]; exact h
  refine ⟨fun c => if c = m ∨ c ∈ rs then H1 c else F1 c, ⟨fun c o h => s c o (g.ff c o h), fun c o h => ?_, fun c o h => ?_, g.fr, g.th⟩, s, ⟨m, rs.map V.ref, rfl, ?_, by rw [List.length_map, x.len]; exact x.dat.1, fun i v row h1 h2 => ?_⟩, fun c h1 h2 => if_neg fun z => z.elim h1 h2, fun c h => if_pos h⟩
  · by_cases e : c = m ∨ c ∈ rs
    · simp only [e, if_true] at h; exact h
    · simp only [e, if_false] at h; exact g.fh c o h
  · by_cases e : c = m ∨ c ∈ rs
    · exact .inr (own c e).1
    · simp only [e, if_false] at h; exact g.nw c o h
  · show (if m = m ∨ m ∈ rs then H1 m else F1 m) = _
    rw [if_pos (.inl rfl)]; exact x.ow.h
  · rw [List.getElem?_map] at h1
    cases hr : rs[i]? with
    | none => rw [hr] at h1; cases h1
    | some r =>
      rw [hr] at h1
      cases h1
      obtain ⟨es, hes, hd⟩ := x.dat.get h2
      refine ⟨r, es, rfl, ?_, hd.up s⟩
      show (if r = m ∨ r ∈ rs then H1 r else F1 r) = _
      rw [if_pos (.inr (List.mem_of_getElem? hr))]
      exact (x.rows i r es hr hes).h
/-- it may be changed again -/
theorem MaO.thaw {F0 F3 G : Hp} (s0 : Same F0 H) (x : MaO H F1 H1 m rs ess M) (s : Same F1 F2) (on : ∀ c, c = m ∨ c ∈ rs → F2 c = H1 c) (s' : Same F2 F3) (g : Gr mu F0 H F3 G) : ∃ F', Gr mu F0 H F' G ∧ Same F1 F' ∧ MaO H F' G m rs ess M := by
  have own : ∀ c, (c = m ∨ c ∈ rs) → H c = none ∧ F1 c = none ∧ ∀ o, H1 c = some o → G c = some o := fun c h => by
    have k : ∀ o, H1 c = some o → G c = some o := fun o e => g.fh _ _ (s' _ _ ((on c h).trans e))
    rcases id h with rfl | h
    · exact ⟨x.ow.n, x.ow.f, k⟩
    · obtain ⟨es, w⟩ := x.row h
      exact ⟨w.n, w.f, k⟩
  have sa : Same F1 (fun c => if c = m ∨ c ∈ rs then none else F3 c) := fun c o h => by
    by_cases e : c = m ∨ c ∈ rs
    · rw [(own c e).2.1] at h; cases h
    · simp only [e, if_false]; exact s' _ _ (s _ _ h)
  have sb : Same (fun c => if c = m ∨ c ∈ rs then none else F3 c) F3 := fun c o h => by
    by_cases e : c = m ∨ c ∈ rs
    · simp only [e, if_true] at h; cases h
    · simp only [e, if_false] at h; exact h
  have no : ∀ c, (c = m ∨ c ∈ rs) → (fun c => if c = m ∨ c ∈ rs then none else F3 c) c = none := fun c e => if_pos e
  refine ⟨fun c => if c = m ∨ c ∈ rs then none else F3 c, ⟨fun c o h => ?_, fun c o h => g.fh _ _ (sb _ _ h), fun c o h => g.nw _ _ (sb _ _ h), g.fr, g.th⟩, sa, ⟨⟨x.ow.n, no _ (.inl rfl), (own _ (.inl rfl)).2.2 _ x.ow.h⟩, x.nd, x.ne, x.len, fun i r es h1 h2 => ?_, x.dat.imp fun es row z => z.up sa⟩⟩
  · by_cases e : c = m ∨ c ∈ rs
    · have z := s0 c o h
      rw [(own c e).1] at z; cases z
    · simp only [e, if_false]; exact g.ff c o h
  · have w := x.rows i r es h1 h2
    have m' : r = m ∨ r ∈ rs := .inr (List.mem_of_getElem? h1)
    exact ⟨w.n, no _ m', (own _ m').2.2 _ w.h⟩
theorem MaO.at (x : MaO H F1 H1 m rs ess M) {i : Nat} {row : List Ent} (h : M[i]? = some row) : ∃ r es, rs[i]? = some r ∧ ess[i]? = some es ∧ Ow H F1 H1 r (.lst es) ∧ IsAll F1 es row := by
  obtain ⟨es, hes, al⟩ := x.dat.get h
  have l : i < rs.length := by rw [x.len]; exact (List.getElem?_eq_some_iff.mp hes).1
  exact ⟨_, es, List.getElem?_eq_getElem l, hes, x.rows i _ es (List.getElem?_eq_getElem l) hes, al⟩
end
theorem ixN_of {n : Nat} {k : Int} (h0 : 0 ≤ k) (h1 : k < n) : ixN n k = some k.toNat := by
  unfold ixN
  rw [if_pos h0, if_pos h1]
theorem Gr.pf {mu : Addr → Prop} {F H F1 H1 : Hp} {p : Addr} {o : HO} (g : Gr mu F H F1 H1) (f : F p = none) (h : H p = some o) : F1 p = none := by
  cases e : F1 p with
  | none => rfl
  | some z =>
    rcases g.nw p z e with k | k
    · rw [f] at k; cases k
    · rw [h] at k; cases k
/-- a draw: the purse alone is another one -/
theorem Gr.drw {F H F1 H1 : Hp} {p : Addr} {o : HO} {a b : Int} (g : Gr (muP p) F H F1 H1) (f : F p = none) (h : H p = some o) : Gr (muP p) F H F1 (upd H1 p (PurseO a b)) ∧ Gr (muP p) F1 H1 F1 (upd H1 p (PurseO a b)) :=
  ⟨g.set (g.pf f h) (.inr rfl), (Gr.refl g.fh).set (g.pf f h) (.inr rfl)⟩
theorem MOk.set {M : Mach} {R S i j : Nat} {row : List Ent} {e : Ent} (h : MOk M R S) (hr : M[i]? = some row) (he : EOk R S e) : MOk (M.set i (row.set j e)) R S := by
  have mr := List.mem_of_getElem? hr
  refine ⟨h.r1, h.r4, h.s2, h.s4, by rw [List.length_set]; exact h.len, fun r z => ?_, fun r z e' z' => ?_⟩
  · rcases List.mem_or_eq_of_mem_set z with z | rfl
    · exact h.row r z
    · rw [List.length_set]; exact h.row row mr
  · rcases List.mem_or_eq_of_mem_set z with z | rfl
    · exact h.ent r z e' z'
    · rcases List.mem_or_eq_of_mem_set z' with z' | rfl
      · exact h.ent row mr e' z'
      · exact he
/-! ### lists of lists of data that may be changed yet -/
section
variable {α : Type} [Dat α]
structure MaG (H F1 H1 : Hp) (m : Addr) (rs : List Addr) (ess : List (List V)) (M : List (List α)) : Prop where
  ow : Ow H F1 H1 m (.lst (rs.map V.ref))
  nd : rs.Nodup
  ne : m ∉ rs
  len : rs.length = ess.length
  rows : ∀ (i : Nat) r es, rs[i]? = some r → ess[i]? = some es → Ow H F1 H1 r (.lst es)
  dat : All2 (fun es row => IsAll F1 es row) ess M
section
variable {mu mu' : Addr → Prop} {H F F1 H1 F2 H2 : Hp} {m : Addr} {rs : List Addr} {ess : List (List V)} {M : List (List α)}
theorem MaG.row (x : MaG H F1 H1 m rs ess M) {r : Addr} (h : r ∈ rs) : ∃ es, Ow H F1 H1 r (.lst es) := by
  obtain ⟨i, hi⟩ := List.getElem?_of_mem h
  have l := (List.getElem?_eq_some_iff.mp hi).1
  exact ⟨ess[i]'(by rw [← x.len]; exact l), x.rows i r _ hi (List.getElem?_eq_getElem _)⟩
theorem MaG.gr (x : MaG H F1 H1 m rs ess M) (g : Gr mu F1 H1 F2 H2) (k : ∀ c, mu c → c ≠ m ∧ c ∉ rs) : MaG H F2 H2 m rs ess M where
  ow := x.ow.call g fun z => (k m z).1 rfl
  nd := x.nd
  ne := x.ne
  len := x.len
  rows := fun i r es h1 h2 => (x.rows i r es h1 h2).call g fun z => (k r z).2 (List.mem_of_getElem? h1)
  dat := x.dat.imp fun es row z => z.up g.ff
theorem MaG.off (x : MaG H F1 H1 m rs ess M) {p : Addr} {o : HO} (h : H p = some o) : ∀ c, muP p c → c ≠ m ∧ c ∉ rs := fun c e => by
  rw [show c = p from e]
  refine ⟨fun z => ?_, fun z => ?_⟩
  · rw [z, x.ow.n] at h; cases h
  · obtain ⟨es, w⟩ := x.row z
    rw [w.n] at h; cases h
theorem MaG.offn (x : MaG H F1 H1 m rs ess M) {p : Addr} (h : H1 p = none) : p ≠ m ∧ p ∉ rs := by
  refine ⟨fun z => ?_, fun z => ?_⟩
  · rw [z, x.ow.h] at h; cases h
  · obtain ⟨es, w⟩ := x.row z
    rw [w.h] at h; cases h
/-- a row that is done comes in -/
theorem MaG.add (x : MaG H F1 H1 m rs ess M) {r : Addr} {es : List V} {row : List α} (w : Ow H F1 H1 r (.lst es)) (k : r ≠ m ∧ r ∉ rs) (d : IsAll F1 es row) : MaG H F1 (upd H1 m (.lst ((rs ++ [r]).map V.ref))) m (rs ++ [r]) (ess ++ [es]) (M ++ [row]) where
  ow := x.ow.set
  nd := nd_snoc x.nd k.2
  ne := fun z => by
    rcases List.mem_append.mp z with z | z
    · exact x.ne z
    · exact k.1 (List.mem_singleton.mp z).symm
  len := by rw [List.length_append, List.length_append, x.len]; rfl
  rows := fun i r' es' h1 h2 => by
    by_cases l : i < rs.length
    · rw [List.getElem?_append_left l] at h1
      rw [List.getElem?_append_left (by rw [← x.len]; exact l)] at h2
      exact (x.rows i r' es' h1 h2).other fun z => x.ne (by rw [← z]; exact List.mem_of_getElem? h1)
    · rw [List.getElem?_append_right (by omega)] at h1
      rw [List.getElem?_append_right (by rw [← x.len]; omega), ← x.len] at h2
      cases e : i - rs.length with
      | zero =>
        rw [e] at h1 h2
        cases h1; cases h2
        exact w.other k.1
      | succ n => rw [e] at h1; cases h1
  dat := x.dat.app (All2.one d)
/-- an entry of it is changed -/
theorem MaG.put (x : MaG H F1 H1 m rs ess M) {i j : Nat} {r : Addr} {es : List V} {row : List α} {v : V} {e : α} (hr : rs[i]? = some r) (hes : ess[i]? = some es) (hrow : M[i]? = some row) (hv : Is F1 v e) :
    MaG H F1 (upd H1 r (.lst (es.set j v))) m rs (ess.set i (es.set j v)) (M.set i (row.set j e)) where
  ow := x.ow.other fun z => x.ne (by rw [z]; exact List.mem_of_getElem? hr)
  nd := x.nd
  ne := x.ne
  len := by rw [List.length_set]; exact x.len
  rows := fun i' r' es' h1 h2 => by
    by_cases e : i = i'
    · subst e
      rw [hr] at h1
      cases h1
      rw [List.getElem?_set_self (List.getElem?_eq_some_iff.mp hes).1] at h2
      cases h2
      exact (x.rows i r es hr hes).set
    · rw [List.getElem?_set_ne e] at h2
      exact (x.rows i' r' es' h1 h2).other fun z => e (nd_ix x.nd hr (by rw [← z]; exact h1))
  dat := x.dat.set ((x.dat.2 i es row hes hrow).set hv j) i
/-- it is changed no more -/
theorem MaG.frz (x : MaG H F1 H1 m rs ess M) (g : Gr mu F H F1 H1) : ∃ F2, Gr mu F H F2 H1 ∧ Same F1 F2 ∧ Is F2 (.ref m) M ∧ (∀ c, c ≠ m → c ∉ rs → F2 c = F1 c) ∧ ∀ c, c = m ∨ c ∈ rs → F2 c = H1 c := by
  have own : ∀ c, (c = m ∨ c ∈ rs) → H c = none ∧ F1 c = none ∧ ∃ o, H1 c = some o := fun c h => by
    rcases h with rfl | h
    · exact ⟨x.ow.n, x.ow.f, _, x.ow.h⟩
    · obtain ⟨es, w⟩ := x.row h
      exact ⟨w.n, w.f, _, w.h⟩
  have s : Same F1 (fun c => if c = m ∨ c ∈ rs then H1 c else F1 c) := fun c o h => by
    by_cases e : c = m ∨ c ∈ rs
    · rw [(own c e).2.1] at h; cases h
    · simp only [e, if_false]; exact h
  refine ⟨fun c => if c = m ∨ c ∈ rs then H1 c else F1 c, ⟨fun c o h => s c o (g.ff c o h), fun c o h => ?_, fun c o h => ?_, g.fr, g.th⟩, s, ⟨m, rs.map V.ref, rfl, ?_, by rw [List.length_map, x.len]; exact x.dat.1, fun i v row h1 h2 => ?_⟩, fun c h1 h2 => if_neg fun z => z.elim h1 h2, fun c h => if_pos h⟩
  · by_cases e : c = m ∨ c ∈ rs
    · simp only [e, if_true] at h; exact h
    · simp only [e, if_false] at h; exact g.fh c o h
  · by_cases e : c = m ∨ c ∈ rs
    · exact .inr (own c e).1
    · simp only [e, if_false] at h; exact g.nw c o h
  · show (if m = m ∨ m ∈ rs then H1 m else F1 m) = _
    rw [if_pos (.inl rfl)]; exact x.ow.h
  · rw [List.getElem?_map] at h1
    cases hr : rs[i]? with
    | none => rw [hr] at h1; cases h1
    | some r =>
      rw [hr] at h1
      cases h1
      obtain ⟨es, hes, hd⟩ := x.dat.get h2
      refine ⟨r, es, rfl, ?_, hd.up s⟩
      show (if r = m ∨ r ∈ rs then H1 r else F1 r) = _
      rw [if_pos (.inr (List.mem_of_getElem? hr))]
      exact (x.rows i r es hr hes).h
/-- it may be changed again -/
theorem MaG.thaw {F0 F3 G : Hp} (s0 : Same F0 H) (x : MaG H F1 H1 m rs ess M) (s : Same F1 F2) (on : ∀ c, c = m ∨ c ∈ rs → F2 c = H1 c) (s' : Same F2 F3) (g : Gr mu F0 H F3 G) : ∃ F', Gr mu F0 H F' G ∧ Same F1 F' ∧ MaG H F' G m rs ess M := by
  have own : ∀ c, (c = m ∨ c ∈ rs) → H c = none ∧ F1 c = none ∧ ∀ o, H1 c = some o → G c = some o := fun c h => by
    have k : ∀ o, H1 c = some o → G c = some o := fun o e => g.fh _ _ (s' _ _ ((on c h).trans e))
    rcases id h with rfl | h
    · exact ⟨x.ow.n, x.ow.f, k⟩
    · obtain ⟨es, w⟩ := x.row h
      exact ⟨w.n, w.f, k⟩
  have sa : Same F1 (fun c => if c = m ∨ c ∈ rs then none else F3 c) := fun c o h => by
    by_cases e : c = m ∨ c ∈ rs
    · rw [(own c e).2.1] at h; cases h
    · simp only [e, if_false]; exact s' _ _ (s _ _ h)
  have sb : Same (fun c => if c = m ∨ c ∈ rs then none else F3 c) F3 := fun c o h => by
    by_cases e : c = m ∨ c ∈ rs
    · simp only [e, if_true] at h; cases h
    · simp only [e, if_false] at h; exact h
  have no : ∀ c, (c = m ∨ c ∈ rs) → (fun c => if c = m ∨ c ∈ rs then none else F3 c) c = none := fun c e => if_pos e
  refine ⟨fun c => if c = m ∨ c ∈ rs then none else F3 c, ⟨fun c o h => ?_, fun c o h => g.fh _ _ (sb _ _ h), fun c o h => g.nw _ _ (sb _ _ h), g.fr, g.th⟩, sa, ⟨⟨x.ow.n, no _ (.inl rfl), (own _ (.inl rfl)).2.2 _ x.ow.h⟩, x.nd, x.ne, x.len, fun i r es h1 h2 => ?_, x.dat.imp fun es row z => z.up sa⟩⟩
  · by_cases e : c = m ∨ c ∈ rs
    · have z := s0 c o h
      rw [(own c e).1] at z; cases z
    · simp only [e, if_false]; exact g.ff c o h
  · have w := x.rows i r es h1 h2
    have m' : r = m ∨ r ∈ rs := .inr (List.mem_of_getElem? h1)
    exact ⟨w.n, no _ m', (own _ m').2.2 _ w.h⟩
theorem MaG.at (x : MaG H F1 H1 m rs ess M) {i : Nat} {row : List α} (h : M[i]? = some row) : ∃ r es, rs[i]? = some r ∧ ess[i]? = some es ∧ Ow H F1 H1 r (.lst es) ∧ IsAll F1 es row := by
  obtain ⟨es, hes, al⟩ := x.dat.get h
  have l : i < rs.length := by rw [x.len]; exact (List.getElem?_eq_some_iff.mp hes).1
  exact ⟨_, es, List.getElem?_eq_getElem l, hes, x.rows i _ es (List.getElem?_eq_getElem l) hes, al⟩
end
end
/-! ### machines bent -/
section
variable {α : Type} [Dat α] {mu : Addr → Prop} {H F1 H1 : Hp} {m : Addr} {rs : List Addr} {ess : List (List V)} {M : List (List α)}
theorem MaG.rep (x : MaG H F1 H1 m rs ess M) {i : Nat} {r : Addr} {es es' : List V} {row' : List α} (hr : rs[i]? = some r) (hes : ess[i]? = some es) (hv : IsAll F1 es' row') :
    MaG H F1 (upd H1 r (.lst es')) m rs (ess.set i es') (M.set i row') where
  ow := x.ow.other fun z => x.ne (by rw [z]; exact List.mem_of_getElem? hr)
  nd := x.nd
  ne := x.ne
  len := by rw [List.length_set]; exact x.len
  rows := fun j r' es2 h1 h2 => by
    by_cases e : i = j
    · subst e
      cases hr.symm.trans h1
      rw [List.getElem?_set_self (List.getElem?_eq_some_iff.mp hes).1] at h2
      cases h2
      exact (x.rows i r es hr hes).set
    · rw [List.getElem?_set_ne e] at h2
      exact (x.rows j r' es2 h1 h2).other fun z => e (nd_ix x.nd hr (by rw [← z]; exact h1))
  dat := x.dat.set hv i
theorem MaG.slot (x : MaG H F1 H1 m rs ess M) {i : Nat} (hi : i < M.length) : ∃ r es row, rs[i]? = some r ∧ ess[i]? = some es ∧ M[i]? = some row ∧ Ow H F1 H1 r (.lst es) ∧ IsAll F1 es row ∧ (rs.map V.ref)[i]? = some (.ref r) := by
  have h : M[i]? = some _ := List.getElem?_eq_getElem hi
  obtain ⟨r, es, h1, h2, w, al⟩ := x.at h
  exact ⟨r, es, _, h1, h2, h, w, al, by rw [List.getElem?_map, h1]; rfl⟩
end
def sp_L_machine : Sp := fun vs H Q _ => ∃ (F : Hp) (p : Addr) (a b : Int), vs = [.ref p] ∧ Same F H ∧ F p = none ∧ H p = some (PurseO a b) ∧ 0 ≤ a ∧ 0 ≤ b ∧
  ∀ (F' H' : Hp) (m : Addr) (rs : List Addr) (ess : List (List V)) (M : Mach) (R S : Nat) (a' b' : Int), Gr (muP p) F H F' H' → H' p = some (PurseO a' b') → 0 ≤ a' → 0 ≤ b' → MOk M R S → MaO H F' H' m rs ess M → Q (.ref m) H'
theorem ok_L_machine (t : Tx K mg) : FnOk P w K mg base CX0 2 t.a_L_machine t.fd_L_machine ["_law_purse_here"] sp_L_machine := by
  refine t.F_L_machine.ok sc_L_machine (fun vs H Q E h => ?_) (fun cdv A outer s H vs Q E hr h => ?_)
  · obtain ⟨F, p, a, b, rfl, _⟩ := h
    rfl
  · obtain ⟨F, p, a, b, rfl, sF, fp, hp, ha, hb, q⟩ := h
    refine ⟨_, (pss_cons (ps_set (i := 1) sc_L_machine.nd rfl (by first | exact Or.inl rfl | exact Or.inr rfl) (pe_op op_add pe_int (pe_call (ok_L_draw t) (hr.mono (by decide)) (by rfl) t.m_L_draw t.F_L_draw.kp t.b_L_draw .nil pass0 (pa_cons (pv 0) (pa_cons pe_int pa_nil)))))
      (pss_cons (ps_set (i := 2) sc_L_machine.nd rfl (by first | exact Or.inl rfl | exact Or.inr rfl) (pe_op op_add pe_int (pe_call (ok_L_draw t) (hr.mono (by decide)) (by rfl) t.m_L_draw t.F_L_draw.kp t.b_L_draw .nil pass0 (pa_cons (pv 0) (pa_cons pe_int pa_nil)))))
      (pss_cons (ps_set (i := 3) sc_L_machine.nd rfl (by first | exact Or.inl rfl | exact Or.inr rfl) (pe_call (ok_L_draw t) (hr.mono (by decide)) (by rfl) t.m_L_draw t.F_L_draw.kp t.b_L_draw .nil pass0 (pa_cons (pv 0) (pa_cons pe_int pa_nil))))
      (pss_cons (ps_set (i := 4) sc_L_machine.nd rfl (by first | exact Or.inl rfl | exact Or.inr rfl) (pe_lst pa_nil))
      (pss_cons (ps_for PassesOwn.never rfl (pi_range1 (by rfl) t.n_range (pa_cons (pv 1) pa_nil)) (pg_name (i := 5) sc_L_machine.nd rfl (by first | exact Or.inl rfl | exact Or.inr rfl)) (pss_cons (ps_set (i := 6) sc_L_machine.nd rfl (by first | exact Or.inl rfl | exact Or.inr rfl) (pe_lst pa_nil))
      (pss_cons (ps_for PassesOwn.never rfl (pi_range1 (by rfl) t.n_range (pa_cons (pv 2) pa_nil)) (pg_name (i := 7) sc_L_machine.nd rfl (by first | exact Or.inl rfl | exact Or.inr rfl)) (pss_cons (ps_set (i := 8) sc_L_machine.nd rfl (by first | exact Or.inl rfl | exact Or.inr rfl) (pe_tup (pa_cons (pe_call (ok_L_draw t) (hr.mono (by decide)) (by rfl) t.m_L_draw t.F_L_draw.kp t.b_L_draw .nil pass0 (pa_cons (pv 0) (pa_cons (pv 2) pa_nil))) (pa_cons (pe_op op_sub (pe_op op_mul pe_int (pe_call (ok_L_draw t) (hr.mono (by decide)) (by rfl) t.m_L_draw t.F_L_draw.kp t.b_L_draw .nil pass0 (pa_cons (pv 0) (pa_cons pe_int pa_nil)))) pe_int) (pa_cons (pe_call (ok_L_draw t) (hr.mono (by decide)) (by rfl) t.m_L_draw t.F_L_draw.kp t.b_L_draw .nil pass0 (pa_cons (pv 0) (pa_cons (pv 1) pa_nil))) pa_nil)))))
      (pss_cons (ps_if (PW.pt (pw_and (pt_cmpR op_gt (pv 3) pe_int (nomark _)) (pw_and1 (pt_cmpR op_eq (pe_call (ok_L_draw t) (hr.mono (by decide)) (by rfl) t.m_L_draw t.F_L_draw.kp t.b_L_draw .nil pass0 (pa_cons (pv 0) (pa_cons (pe_op op_add pe_int (pe_op op_mul pe_int (pv 3))) pa_nil))) pe_int (nomark _))))) (pss_one (ps_set (i := 8) sc_L_machine.nd rfl (by first | exact Or.inl rfl | exact Or.inr rfl) (pe_tup pa_nil))) pss_nil)
      (pss_one (ps_expr (pe_bm PySem.F.plainAttrs_list PySem.F.slot_list_append PySem.F.type_list_append mt_append (pv 6) (pa_cons (pv 8) pa_nil)))))))
      (pss_one (ps_expr (pe_bm PySem.F.plainAttrs_list PySem.F.slot_list_append PySem.F.type_list_append mt_append (pv 4) (pa_cons (pv 6) pa_nil)))))))
      (pss_cons (ps_if (pt_cmpR op_eq (pv 3) pe_int (nomark _)) (pss_one (ps_asg (pe_tup pa_nil) (pg_sub (pe_ix ix_list (pv 4) (pe_call (ok_L_draw t) (hr.mono (by decide)) (by rfl) t.m_L_draw t.F_L_draw.kp t.b_L_draw .nil pass0 (pa_cons (pv 0) (pa_cons (pv 1) pa_nil))) (fun _ _ => rfl)) (pe_call (ok_L_draw t) (hr.mono (by decide)) (by rfl) t.m_L_draw t.F_L_draw.kp t.b_L_draw .nil pass0 (pa_cons (pv 0) (pa_cons (pv 2) pa_nil))) set_list))) pss_nil)
      (pss_one (ps_ret (pv 4))))))))), ?_⟩
    have g0 : Gr (muP p) F H F H := Gr.refl sF
    -- rows, signs, kind
    refine ⟨_, rfl, p, a, b, 4, rfl, hp, ha, hb, by decide, by decide, fun d1 a1 b1 d10 d11 ha1 hb1 => ⟨_, _, rfl, rfl, ?_⟩⟩
    have g1 := g0.set (o := PurseO a1 b1) fp (.inr rfl)
    refine ⟨_, rfl, p, a1, b1, 3, rfl, upd_same, ha1, hb1, by decide, by decide, fun d2 a2 b2 d20 d21 ha2 hb2 => ⟨_, _, rfl, rfl, ?_⟩⟩
    have g2 := g1.set (o := PurseO a2 b2) fp (.inr rfl)
    refine ⟨_, rfl, p, a2, b2, 4, rfl, upd_same, ha2, hb2, by decide, by decide, fun d3 a3 b3 d30 d31 ha3 hb3 => ?_⟩
    have g3 := g2.set (o := PurseO a3 b3) fp (.inr rfl)
    generalize eH3 : upd (upd (upd H p (PurseO a1 b1)) p (PurseO a2 b2)) p (PurseO a3 b3) = H3 at g3
    have hp3 : H3 p = some (PurseO a3 b3) := by rw [← eH3]; exact upd_same
    have eR : ((1 + d1).toNat : Int) = 1 + d1 := Int.toNat_of_nonneg (by omega)
    have eS : ((2 + d2).toNat : Int) = 2 + d2 := Int.toNat_of_nonneg (by omega)
    generalize hR : (1 + d1).toNat = R at eR
    generalize hS : (2 + d2).toNat = S at eS
    dsimp only
    rw [← eR, ← eS]
    have R4 : R ≤ 4 := by omega
    have R1 : 1 ≤ R := by omega
    have S4 : S ≤ 4 := by omega
    have S2 : 2 ≤ S := by omega
    -- found = []
    refine ⟨nil_le, fun D nD => ?_⟩
    have x0 : MaO H F (upd H3 D (.lst [])) D [] [] [] := ⟨Ow.mk1 g3 nD, List.nodup_nil, (fun z => nomatch z), rfl, fun i r es h _ => (by cases h), All2.nil⟩
    have g4 := g3.own (o := .lst []) nD
    refine ⟨_, rfl, (R : Int), rfl, by omega, by omega, for_range (lo := 0) (n := ((R : Int)).toNat) (fun i σ G => ∃ (F1 : Hp) (rs : List Addr) (ess : List (List V)) (M : Mach) (a b : Int) (v5 v6 v7 v8 : Option V), σ = [some (.ref p), some (.int R), some (.int S), some (.int d3), some (.ref D), v5, v6, v7, v8] ∧
      Gr (muP p) F H F1 G ∧ G p = some (PurseO a b) ∧ 0 ≤ a ∧ 0 ≤ b ∧ MaO H F1 G D rs ess M ∧ M.length = i ∧ ∀ row ∈ M, row.length = S ∧ ∀ e ∈ row, EOk R S e) ⟨F, [], [], [], a3, b3, none, none, none, none, rfl, g4, ?_, ha3, hb3, x0, rfl, fun row z => nomatch z⟩ ?_ ?_⟩
    · rw [upd_ne (ne_of_none hp3 nD)]; exact hp3
    · rintro i σ G hi ⟨F1, rs, ess, M, a, b, v5, v6, v7, v8, rfl, g, hpG, ha, hb, x, hl, hM⟩
      -- row = []
      refine ⟨nil_le, fun r nr => ?_⟩
      have gr := g.own (o := .lst []) nr
      have wr : Ow H F1 (upd G r (.lst [])) r (.lst []) := Ow.mk1 g nr
      have xr := x.gr ((Gr.refl (mu := mu0) g.fh).own (o := .lst []) nr) fun c z => z.elim
      have offr := x.offn nr
      have hpr : (upd G r (.lst [])) p = some (PurseO a b) := by rw [upd_ne (ne_of_none hpG nr)]; exact hpG
      refine ⟨_, rfl, (S : Int), rfl, by omega, by omega, for_range (lo := 0) (n := ((S : Int)).toNat) (fun j σ G => ∃ (F1 : Hp) (es : List V) (row : List Ent) (a b : Int) (v7 v8 : Option V), σ = [some (.ref p), some (.int R), some (.int S), some (.int d3), some (.ref D), some (.int (0 + i)), some (.ref r), v7, v8] ∧
        Gr (muP p) F H F1 G ∧ G p = some (PurseO a b) ∧ 0 ≤ a ∧ 0 ≤ b ∧ MaO H F1 G D rs ess M ∧ Ow H F1 G r (.lst es) ∧ IsAll F1 es row ∧ row.length = j ∧ ∀ e ∈ row, EOk R S e) ⟨F1, [], [], a, b, v7, v8, rfl, gr, hpr, ha, hb, xr, wr, All2.nil, rfl, fun e z => nomatch z⟩ ?_ ?_⟩
      · rintro j σ G hj ⟨F1, es, row, a, b, v7, v8, rfl, g, hpG, ha, hb, x, w, al, hl, hrow⟩
        have wp : r ≠ p := fun z => by rw [z] at w; rw [w.n] at hp; cases hp
        have wD : r ≠ D := offr.1
        -- the entry
        refine ⟨_, rfl, _, rfl, p, a, b, (S : Int), rfl, hpG, ha, hb, by omega, by omega, fun e1 a1 b1 e10 e11 ha1 hb1 => ?_⟩
        obtain ⟨g1, k1⟩ := g.drw (a := a1) (b := b1) fp hp
        refine ⟨_, rfl, p, a1, b1, 2, rfl, upd_same, ha1, hb1, by decide, by decide, fun e2 a2 b2 e20 e21 ha2 hb2 => ⟨_, _, rfl, rfl, .inl ⟨by decide, by decide⟩, _, _, rfl, rfl, ?_⟩⟩
        obtain ⟨g2, k2⟩ := g1.drw (a := a2) (b := b2) fp hp
        refine ⟨_, rfl, _, rfl, p, a2, b2, (R : Int), rfl, upd_same, ha2, hb2, by omega, by omega, fun e3 a3 b3 e30 e31 ha3 hb3 => ⟨three_le, fun q0 nq => ?_⟩⟩
        obtain ⟨g3, k3⟩ := g2.drw (a := a3) (b := b3) fp hp
        have k := (k1.trans k2).trans k3
        have x3 := x.gr k (x.off hp)
        have w3 := w.call k wp
        have hp3 : (upd (upd (upd G p (PurseO a1 b1)) p (PurseO a2 b2)) p (PurseO a3 b3)) p = some (PurseO a3 b3) := upd_same
        generalize upd (upd (upd G p (PurseO a1 b1)) p (PurseO a2 b2)) p (PurseO a3 b3) = G3 at g3 k x3 w3 hp3 nq
        have g4 := g3.new (o := .tup [.int e1, .int (2 * e2 - 1), .int e3]) nq
        have k4 := (Gr.refl (mu := mu0) g3.fh).new (o := .tup [.int e1, .int (2 * e2 - 1), .int e3]) nq
        have x4 := x3.gr k4 fun c z => z.elim
        have w4 := w3.call k4 fun z => z
        have hp4 := k4.fr _ _ hp3 fun z => z
        have ee : Is (upd F1 q0 (.tup [.int e1, .int (2 * e2 - 1), .int e3])) (.ref q0) (Ent.go e1 (2 * e2 - 1) e3) := ⟨q0, rfl, upd_same⟩
        have eo : EOk R S (Ent.go e1 (2 * e2 - 1) e3) := ⟨fun p w r z => by cases z; exact ⟨⟨e10, e11⟩, by omega, e30, e31⟩⟩
        have al4 := al.up k4.ff
        generalize upd F1 q0 (.tup [.int e1, .int (2 * e2 - 1), .int e3]) = F4 at g4 k4 x4 w4 ee al4
        generalize upd G3 q0 (.tup [.int e1, .int (2 * e2 - 1), .int e3]) = G4 at g4 k4 x4 w4 hp4
        -- what is the same in both ways: the entry comes in
        have fin : ∀ (F5 G5 : Hp) (q5 : Addr) (e5 : Ent) (a5 b5 : Int), Gr (muP p) F H F5 G5 → G5 p = some (PurseO a5 b5) → 0 ≤ a5 → 0 ≤ b5 → MaO H F5 G5 D rs ess M → Ow H F5 G5 r (.lst es) → IsAll F5 es row → Is F5 (.ref q5) e5 → EOk R S e5 →
            ∃ (F1 : Hp) (es1 : List V) (row : List Ent) (a b : Int) (v7 v8 : Option V), [some (.ref p), some (.int R), some (.int S), some (.int d3), some (.ref D), some (.int (0 + i)), some (.ref r), some (.int (0 + j)), some (.ref q5)] = [some (.ref p), some (.int R), some (.int S), some (.int d3), some (.ref D), some (.int (0 + i)), some (.ref r), v7, v8] ∧
              Gr (muP p) F H F1 (upd G5 r (.lst (es ++ [.ref q5]))) ∧ (upd G5 r (.lst (es ++ [.ref q5]))) p = some (PurseO a b) ∧ 0 ≤ a ∧ 0 ≤ b ∧ MaO H F1 (upd G5 r (.lst (es ++ [.ref q5]))) D rs ess M ∧ Ow H F1 (upd G5 r (.lst (es ++ [.ref q5]))) r (.lst es1) ∧ IsAll F1 es1 row ∧ row.length = j + 1 ∧ ∀ e ∈ row, EOk R S e := by
          intro F5 G5 q5 e5 a5 b5 g5 hp5 ha5 hb5 x5 w5 al5 ie5 eo5
          refine ⟨F5, es ++ [.ref q5], row ++ [e5], a5, b5, _, _, rfl, g5.set w5.f (.inl w5.n), by rw [upd_ne (Ne.symm wp)]; exact hp5, ha5, hb5, x5.gr (mu := fun c => c = r) ((Gr.refl g5.fh).set w5.f (.inr rfl)) (fun c z => by rw [show c = r from z]; exact offr), w5.set, al5.app (All2.one ie5), by rw [List.length_append, hl]; rfl, fun e z => ?_⟩
          rcases List.mem_append.mp z with z | z
          · exact hrow e z
          · rw [List.mem_singleton.mp z]; exact eo5
        have ll : ∀ G5 F5 : Hp, IsAll F5 es row → es.length < sizeLine := fun _ _ z => by rw [z.1, hl]; exact lt_size (by omega)
        refine ⟨_, rfl, _, _, rfl, rfl, _, rfl, ?_⟩
        refine ite2 (fun c => ?_) (fun c => ?_)
        · refine ⟨_, rfl, _, rfl, _, _, rfl, rfl, .inl ⟨by decide, by decide⟩, _, _, rfl, rfl, p, a3, b3, _, rfl, hp4, ha3, hb3, by omega, by omega, fun e4 a4 b4 e40 e41 ha4 hb4 => ⟨rfl, _, rfl, ?_⟩⟩
          obtain ⟨g5, k5⟩ := g4.drw (a := a4) (b := b4) fp hp
          have x5 := x4.gr k5 (x4.off hp)
          have w5 := w4.call k5 wp
          have al5 := al4.up k5.ff
          have hp5 : (upd G4 p (PurseO a4 b4)) p = some (PurseO a4 b4) := upd_same
          generalize upd G4 p (PurseO a4 b4) = G5 at g5 k5 x5 w5 hp5
          refine ite2 (fun c => ?_) (fun c => ?_)
          · refine ⟨nil_le, fun q2 nq2 => ?_⟩
            have g6 := g5.new (o := .tup []) nq2
            have k6 := (Gr.refl (mu := mu0) g5.fh).new (o := .tup []) nq2
            have x6 := x5.gr k6 fun c z => z.elim
            have w6 := w5.call k6 fun z => z
            refine ⟨_, rfl, .inl ⟨rfl, _, SqL.of w6.h⟩, _, rfl, r, _, _, rfl, rfl, w6.h, ll G5 _ al5, ?_⟩
            exact fin _ _ q2 .emp a4 b4 g6 (k6.fr _ _ hp5 fun z => z) ha4 hb4 x6 w6 (al5.up k6.ff) ⟨q2, rfl, upd_same⟩ ⟨fun p w r z => by cases z⟩
          · refine ⟨_, rfl, .inl ⟨rfl, _, SqL.of w5.h⟩, _, rfl, r, _, _, rfl, rfl, w5.h, ll G5 _ al5, ?_⟩
            exact fin _ _ q0 _ a4 b4 g5 hp5 ha4 hb4 x5 w5 al5 (ee.up k5.ff) eo
        · refine ifF rfl ?_
          refine ⟨_, rfl, .inl ⟨rfl, _, SqL.of w4.h⟩, _, rfl, r, _, _, rfl, rfl, w4.h, ll G4 _ al4, ?_⟩
          exact fin _ _ q0 _ a3 b3 g4 hp4 ha3 hb3 x4 w4 al4 ee eo
      · rintro σ G ⟨F1, es, row, a, b, v7, v8, rfl, g, hpG, ha, hb, x, w, al, hl2, hrow⟩
        have hl2 : row.length = S := by rw [hl2]; exact Int.toNat_natCast S
        refine ⟨_, rfl, .inl ⟨rfl, _, SqL.of x.ow.h⟩, _, rfl, D, _, _, rfl, rfl, x.ow.h, by rw [List.length_map, x.len, x.dat.1, hl]; exact lt_size (by omega), ?_⟩
        have e1 : rs.map V.ref ++ [V.ref r] = (rs ++ [r]).map V.ref := by rw [List.map_append]; rfl
        rw [e1]
        have pD : p ≠ D := fun z => by rw [z] at hp; rw [x.ow.n] at hp; cases hp
        refine ⟨F1, rs ++ [r], ess ++ [es], M ++ [row], a, b, _, _, _, _, rfl, g.set x.ow.f (.inl x.ow.n), by rw [upd_ne pD]; exact hpG, ha, hb, x.add w offr al, by rw [List.length_append, hl]; rfl, fun row' z => ?_⟩
        rcases List.mem_append.mp z with z | z
        · exact hM row' z
        · rw [List.mem_singleton.mp z]; exact ⟨hl2, hrow⟩
    · rintro σ G ⟨F1, rs, ess, M, a, b, v5, v6, v7, v8, rfl, g, hpG, ha, hb, x, hl, hM⟩
      have hl : M.length = R := by rw [hl]; exact Int.toNat_natCast R
      have mok : ∀ M' : Mach, M'.length = R → (∀ row ∈ M', row.length = S ∧ ∀ e ∈ row, EOk R S e) → MOk M' R S := fun M' h1 h2 => ⟨R1, R4, S2, S4, h1, fun r z => (h2 r z).1, fun r z => (h2 r z).2⟩
      refine ⟨_, rfl, rfl, _, rfl, ?_⟩
      refine ite2 (fun c => ?_) (fun c => ?_)
      · refine ⟨nil_le, fun q2 nq2 => ?_⟩
        have g6 := g.new (o := .tup []) nq2
        have k6 := (Gr.refl (mu := mu0) g.fh).new (o := .tup []) nq2
        have x6 := x.gr k6 fun c z => z.elim
        have hp6 := k6.fr _ _ hpG fun z => z
        have i6 : Is (upd F1 q2 (.tup [])) (.ref q2) Ent.emp := ⟨q2, rfl, upd_same⟩
        generalize upd F1 q2 (.tup []) = F6 at g6 k6 x6 i6
        generalize upd G q2 (.tup []) = G6 at g6 k6 x6 hp6
        refine ⟨_, rfl, _, rfl, _, rfl, p, a, b, (R : Int), rfl, hp6, ha, hb, by omega, by omega, fun i1 a1 b1 i10 i11 ha1 hb1 => ?_⟩
        obtain ⟨g7, k7⟩ := g6.drw (a := a1) (b := b1) fp hp
        have x7 := x6.gr k7 (x6.off hp)
        have hi : i1.toNat < rs.length := by rw [x.len, x.dat.1, hl]; omega
        have hrs : rs[i1.toNat]? = some rs[i1.toNat] := List.getElem?_eq_getElem hi
        have hes : ess[i1.toNat]? = some (ess[i1.toNat]'(by rw [← x.len]; exact hi)) := List.getElem?_eq_getElem _
        obtain ⟨row, hrow, al⟩ := x7.dat.get' hes
        have w7 := x7.rows _ _ _ hrs hes
        refine ⟨D, _, i1, _, rfl, rfl, SqL.of x7.ow.h, at_of (Int.toNat_of_nonneg i10).symm (by rw [List.getElem?_map, hrs]; rfl), ?_⟩
        refine ⟨_, rfl, _, rfl, p, a1, b1, (S : Int), rfl, upd_same, ha1, hb1, by omega, by omega, fun i2 a2 b2 i20 i21 ha2 hb2 => ?_⟩
        obtain ⟨g8, k8⟩ := g7.drw (a := a2) (b := b2) fp hp
        have x8 := x7.gr k8 (x7.off hp)
        have w8 := x8.rows _ _ _ hrs hes
        have ml : row ∈ M := List.mem_of_getElem? hrow
        have lr := (hM row ml).1
        refine ⟨_, _, i2, i2.toNat, rfl, rfl, w8.h, ixN_of i20 (by rw [al.1, lr]; exact i21), ?_⟩
        have hp8 : (upd (upd G6 p (PurseO a1 b1)) p (PurseO a2 b2)) p = some (PurseO a2 b2) := upd_same
        generalize upd (upd G6 p (PurseO a1 b1)) p (PurseO a2 b2) = G8 at g8 k8 x8 w8 hp8
        have pr : p ≠ rs[i1.toNat] := fun z => by rw [z] at hp; rw [w8.n] at hp; cases hp
        refine ⟨_, rfl, ?_⟩
        refine q F6 _ D rs _ _ R S a2 b2 (g8.set w8.f (.inl w8.n)) (by rw [upd_ne pr]; exact hp8) ha2 hb2 (mok _ (by rw [List.length_set]; exact hl) fun row' z => ?_) (x8.put (j := i2.toNat) hrs hes hrow i6)
        rcases List.mem_or_eq_of_mem_set z with z | rfl
        · exact hM row' z
        · refine ⟨by rw [List.length_set]; exact lr, fun e z => ?_⟩
          rcases List.mem_or_eq_of_mem_set z with z | rfl
          · exact (hM row ml).2 e z
          · exact ⟨fun p w r z => by cases z⟩
      · exact ⟨_, rfl, q F1 G D rs ess M R S a b g hpG ha hb (mok M hl hM) x⟩
/-! ### a machine on its way -/
/-- a Goer stands at g, its dict at d -/
structure GoAt (C : Addr) (H : Hp) (g d : Addr) (tb : V) (r s : Int) (l : List PI) (n : Int) : Prop where
  ob : ∃ dx, H g = some (.ins C dx (Goer_F tb (.int r) (.int s) (.ref d) (.int n)))
  dc : H d = some (.dK (dI l))
theorem GoAt.ne {C : Addr} {H : Hp} {g d : Addr} {tb : V} {r s : Int} {l : List PI} {n : Int} (h : GoAt C H g d tb r s l n) : g ≠ d := by
  obtain ⟨dx, e⟩ := h.ob
  exact ne_of e h.dc (by intro z; cases z)
theorem GoAt.gr {mu : Addr → Prop} {C : Addr} {F H F' H' : Hp} {g d : Addr} {tb : V} {r s : Int} {l : List PI} {n : Int} (h : GoAt C H g d tb r s l n) (a : Gr mu F H F' H') (hg : ¬ mu g) (hd : ¬ mu d) : GoAt C H' g d tb r s l n := by
  obtain ⟨dx, e⟩ := h.ob
  exact ⟨⟨dx, a.fr _ _ e hg⟩, a.fr _ _ h.dc hd⟩
/-- places, and strips that are told, as a setup -/
abbrev Setup := T3 Int Int (List PI)
def sp_Goer_init (C : Addr) : Sp := fun vs H Q _ => ∃ (F : Hp) (g dx : Addr) (tb u : V) (x : Setup), vs = [.ref g, tb, u] ∧ H g = some (.ins C dx []) ∧ F g = none ∧ Same F H ∧ Is F u x ∧
  ∀ (d : Addr) (H' : Hp), H d = none → Gr (muP g) F H F H' → GoAt C H' g d tb x.a x.b (merge [] x.c) 0 → Q .non H'
theorem ok_Goer_init (t : Tx K mg) : FnOk P w K mg base CX0 1 t.a_Goer_init t.fd_Goer_init ["self", "machine", "setup"] (sp_Goer_init t.C_Goer) := by
  refine t.F_Goer_init.ok sc_Goer_init (fun vs H Q E h => ?_) (fun cdv A outer s H vs Q E hr h => ?_)
  · obtain ⟨F, g, dx, tb, u, x, rfl, _⟩ := h
    rfl
  · obtain ⟨F, g, dx, tb, u, x, rfl, hg, fg, sF, hu, q⟩ := h
    refine ⟨_, (pss_cons (ps_fld (pv 0) (pv 1) rfl)
      (pss_cons (ps_fld (pv 0) (pe_ix ix_tup (pv 2) pe_int (fun _ _ => rfl)) rfl)
      (pss_cons (ps_fld (pv 0) (pe_ix ix_tup (pv 2) pe_int (fun _ _ => rfl)) rfl)
      (pss_cons (ps_fld (pv 0) (pe_callTy (T := "dict") (call_dictQ rfl) (by rfl) t.n_dict (by decide +kernel) (pa_cons (pe_ix ix_tup (pv 2) pe_int (fun _ _ => rfl)) pa_nil)) rfl)
      (pss_one (ps_fld (pv 0) pe_int rfl)))))), ?_⟩
    obtain ⟨p, x1, x2, x3, rfl, hp, e1, e2, hl⟩ := hu
    have e1 : x1 = .int x.a := e1
    have e2 : x2 = .int x.b := e2
    subst e1
    subst e2
    obtain ⟨a, xs, rfl, ha, hxs⟩ := hl
    have g0 : Gr (muP g) F H F H := Gr.refl sF
    refine ⟨_, rfl, _, rfl, g, t.C_Goer, dx, [], rfl, hg, t.cl_Goer, t.nA_Goer_table, by show 0 < 1000; decide, ?_⟩
    have g1 := g0.set (o := .ins t.C_Goer dx [("table", tb)]) fg (.inr rfl)
    rw [Goer_mk0]
    refine ⟨_, rfl, p, _, _, _, rfl, rfl, SqT.of (g1.fh _ _ hp), atI_nat (j := 0) rfl, _, rfl, g, t.C_Goer, dx, _, rfl, upd_same, t.cl_Goer, t.nA_Goer_row, by show 1 < 1000; decide, ?_⟩
    have g2 := g1.set (o := .ins t.C_Goer dx [("table", tb), ("row", .int x.a)]) fg (.inr rfl)
    rw [Goer_mk1]
    refine ⟨_, rfl, p, _, _, _, rfl, rfl, SqT.of (g2.fh _ _ hp), atI_nat (j := 1) rfl, _, rfl, g, t.C_Goer, dx, _, rfl, upd_same, t.cl_Goer, t.nA_Goer_spot, by show 2 < 1000; decide, ?_⟩
    have g3 := g2.set (o := .ins t.C_Goer dx [("table", tb), ("row", .int x.a), ("spot", .int x.b)]) fg (.inr rfl)
    rw [Goer_mk2]
    refine ⟨_, rfl, p, _, _, _, rfl, rfl, SqT.of (g3.fh _ _ hp), atI_nat (j := 2) rfl, ?_⟩
    refine dict_pairs (hxs.up g3.fh) (SqL.of (g3.fh _ _ ha)) fun d nd => ?_
    have g4 := g3.own (o := .dK (dI (merge [] x.c))) nd
    have gd : g ≠ d := ne_of_none upd_same nd
    refine ⟨_, rfl, g, t.C_Goer, dx, _, rfl, (upd_ne gd).trans upd_same, t.cl_Goer, t.nA_Goer_signs, by show 3 < 1000; decide, ?_⟩
    have g5 := g4.set (o := .ins t.C_Goer dx [("table", tb), ("row", .int x.a), ("spot", .int x.b), ("signs", .ref d)]) fg (.inr rfl)
    rw [Goer_mk3]
    refine ⟨_, rfl, g, t.C_Goer, dx, _, rfl, upd_same, t.cl_Goer, t.nA_Goer_steps, by show 4 < 1000; decide, ?_⟩
    have g6 := g5.set (o := .ins t.C_Goer dx [("table", tb), ("row", .int x.a), ("spot", .int x.b), ("signs", .ref d), ("steps", .int 0)]) fg (.inr rfl)
    rw [Goer_mk4]
    exact q d _ (g3.th _ nd) g6 ⟨⟨dx, upd_same⟩, by rw [upd_ne gd.symm, upd_ne gd.symm, upd_same]⟩
def sp_Goer_entry (C : Addr) : Sp := fun vs H Q _ => ∃ (F : Hp) (g d : Addr) (tb : V) (M : Mach) (r s : Int) (l : List PI) (n : Int) (row : List Ent) (e : Ent), vs = [.ref g] ∧ Same F H ∧ Is F tb M ∧ GoAt C H g d tb r s l n ∧
  0 ≤ r ∧ M[r.toNat]? = some row ∧ 0 ≤ (look l s).getD 0 ∧ row[((look l s).getD 0).toNat]? = some e ∧ ∀ v, Is F v e → Q v H
theorem ok_Goer_entry (t : Tx K mg) : FnOk P w K mg base CX0 1 t.a_Goer_entry t.fd_Goer_entry ["self"] (sp_Goer_entry t.C_Goer) := by
  refine t.F_Goer_entry.ok sc_Goer_entry (fun vs H Q E h => ?_) (fun cdv A outer s H vs Q E hr h => ?_)
  · obtain ⟨F, g, d, tb, M, r, s, l, n, row, e, rfl, _⟩ := h
    rfl
  · obtain ⟨F, g, d, tb, M, r, s, l, n, row, e, rfl, sF, hM, hg, hr0, hrow, hs0, he, q⟩ := h
    refine ⟨_, (pss_one (ps_ret (pe_ix ix_list (pe_ix ix_list (pe_fld (pv 0) rfl) (pe_fld (pv 0) rfl) (fun _ _ => rfl)) (pe_dget2 (hu_of hr) (pe_fld (pv 0) rfl) (pe_fld (pv 0) rfl) pe_int ⟨by rfl, by rfl, by rfl, by rfl⟩) (fun _ _ => rfl)))), ?_⟩
    obtain ⟨⟨dx, ho⟩, hd⟩ := id hg
    obtain ⟨a, rs, rfl, ha, hrs⟩ := hM
    obtain ⟨x, hx, b, es, rfl, hb, hes⟩ := hrs.get hrow
    obtain ⟨y, hy, hye⟩ := hes.get he
    refine ⟨_, rfl, g, t.C_Goer, dx, _, _, rfl, ho, t.cl_Goer, t.nA_Goer_table, Goer_get_table, ?_⟩
    refine ⟨_, rfl, g, t.C_Goer, dx, _, _, rfl, ho, t.cl_Goer, t.nA_Goer_row, Goer_get_row, a, _, _, _, rfl, rfl, SqL.of (sF _ _ ha), at_of (Int.toNat_of_nonneg hr0).symm hx, ?_⟩
    refine ⟨_, rfl, g, t.C_Goer, dx, _, _, rfl, ho, t.cl_Goer, t.nA_Goer_signs, Goer_get_signs, d, rfl, .inl ⟨_, .inl hd⟩, _, rfl, g, t.C_Goer, dx, _, _, rfl, ho, t.cl_Goer, t.nA_Goer_spot, Goer_get_spot, _, DGet.k (k := Sum.inl s) hd, ?_⟩
    rw [dI_val]
    have e1 : ((look l s).map V.int).getD (.int 0) = .int ((look l s).getD 0) := by cases look l s <;> rfl
    rw [e1]
    exact ⟨b, _, _, _, rfl, rfl, SqL.of (sF _ _ hb), at_of (Int.toNat_of_nonneg hs0).symm hy, q _ hye⟩
/-- one step -/
def stepL (l : List PI) (s p : Int) : List PI := put l s p
def sp_Goer_step (C : Addr) : Sp := fun vs H Q _ => ∃ (F : Hp) (g d : Addr) (tb : V) (M : Mach) (r s : Int) (l : List PI) (n : Int) (row : List Ent) (e : Ent), vs = [.ref g] ∧ Same F H ∧ F g = none ∧ F d = none ∧ Is F tb M ∧ GoAt C H g d tb r s l n ∧
  0 ≤ r ∧ M[r.toNat]? = some row ∧ 0 ≤ (look l s).getD 0 ∧ row[((look l s).getD 0).toNat]? = some e ∧ l.length ≤ 100000 ∧
  (e = .emp → ∀ H', Gr mu0 F H F H' → Q (.bl false) H') ∧
  (∀ p w r', e = .go p w r' → ∀ H', Gr (fun c => c = g ∨ c = d) F H F H' → GoAt C H' g d tb r' (s + w) (put l s p) (n + 1) → Q (.bl true) H')
theorem ok_Goer_step (t : Tx K mg) : FnOk P w K mg base CX0 2 t.a_Goer_step t.fd_Goer_step ["self"] (sp_Goer_step t.C_Goer) := by
  refine t.F_Goer_step.ok sc_Goer_step (fun vs H Q E h => ?_) (fun cdv A outer s H vs Q E hr h => ?_)
  · obtain ⟨F, g, d, tb, M, r, s, l, n, row, e, rfl, _⟩ := h
    rfl
  · obtain ⟨F, g, d, tb, M, r, s, l, n, row, e, rfl, sF, fg, fd, hM, hg, hr0, hrow, hs0, he, hl, q1, q2⟩ := h
    refine ⟨_, (pss_cons (ps_set (i := 1) sc_Goer_step.nd rfl (by first | exact Or.inl rfl | exact Or.inr rfl) (pe_meth0 (pv 0) t.cl_Goer t.M_Goer_entry (ok_Goer_entry t) (hr.mono (by decide)) t.b_Goer_entry .nil pass0))
      (pss_cons (ps_if (pt_cmpR (op_eqD hr.units) (pv 1) (pe_tup pa_nil) (nomark _)) (pss_one (ps_ret pe_bl)) pss_nil)
      (pss_cons (ps_dput (hu_of hr) (pe_fld (pv 0) rfl) (pe_fld (pv 0) rfl) (pe_ix ix_tup (pv 1) pe_int (fun _ _ => rfl)) rfl)
      (pss_cons (ps_fldaug (pv 0) (pe_ix ix_tup (pv 1) pe_int (fun _ _ => rfl)) in_add)
      (pss_cons (ps_fld (pv 0) (pe_ix ix_tup (pv 1) pe_int (fun _ _ => rfl)) rfl)
      (pss_cons (ps_fldaug (pv 0) pe_int in_add)
      (pss_one (ps_ret pe_bl)))))))), ?_⟩
    obtain ⟨⟨dx, ho⟩, hd⟩ := id hg
    have gd := hg.ne
    have g0 : Gr (fun c => c = g ∨ c = d) F H F H := Gr.refl sF
    have g00 : Gr mu0 F H F H := Gr.refl sF
    refine ⟨_, rfl, g, dx, _, rfl, ho, Goer_no (by decide +kernel) (by decide +kernel) (by decide +kernel) (by decide +kernel) (by decide +kernel), F, g, d, tb, M, r, s, l, n, row, e, rfl, sF, hM, hg, hr0, hrow, hs0, he, fun v hv => ?_⟩
    refine ⟨_, rfl, nil_le, fun p np => ?_⟩
    refine eq_dat (a := e) (b := Ent.emp) (hv.up (g0.own np).fh) ⟨p, rfl, upd_same⟩ ?_
    refine ⟨_, rfl, ?_⟩
    refine ite2 (fun c => ?_) (fun c => ?_)
    · exact q1 (of_decide_eq_true c) _ (g00.own np)
    · cases e with
      | emp => exact absurd (decide_eq_true rfl) c
      | go pu wa ro =>
        obtain ⟨a, rfl, ha⟩ := hv
        have g1 := g0.own (o := .tup []) np
        have gp : g ≠ p := ne_of_none ho np
        have dp : d ≠ p := ne_of_none hd np
        have ho1 := (upd_ne (H := H) (o := .tup []) gp).trans ho
        have hd1 := (upd_ne (H := H) (o := .tup []) dp).trans hd
        -- self.signs[self.spot] = entry[0]
        refine ⟨_, rfl, a, _, _, _, rfl, rfl, SqT.of (g1.fh _ _ ha), atI_nat (j := 0) rfl, _, rfl, g, t.C_Goer, dx, _, _, rfl, ho1, t.cl_Goer, t.nA_Goer_signs, Goer_get_signs, _, rfl, g, t.C_Goer, dx, _, _, rfl, ho1, t.cl_Goer, t.nA_Goer_spot, Goer_get_spot, d, _, rfl, DPut.k (k := Sum.inl s) hd1 (by show (dI l).length < _; unfold dI; rw [List.length_map]; exact lt_size (by omega)), ?_⟩
        rw [dI_put]
        have g2 := g1.set (o := .dK (dI (put l s pu))) fd (.inr (.inr rfl))
        have ho2 := (upd_ne (H := upd H p (.tup [])) (o := .dK (dI (put l s pu))) gd).trans ho1
        -- self.spot += entry[1]
        refine ⟨_, rfl, g, t.C_Goer, dx, _, _, rfl, ho2, t.cl_Goer, t.nA_Goer_spot, Goer_get_spot, _, rfl, a, _, _, _, rfl, rfl, SqT.of (g2.fh _ _ ha), atI_nat (j := 1) rfl, _, _, rfl, rfl, _, _, ho2, Goer_few, ?_⟩
        rw [Goer_put_spot]
        have g3 := g2.set (o := .ins t.C_Goer dx (Goer_F tb (.int r) (.int (s + wa)) (.ref d) (.int n))) fg (.inr (.inl rfl))
        -- self.row = entry[2]
        refine ⟨_, rfl, a, _, _, _, rfl, rfl, SqT.of (g3.fh _ _ ha), atI_nat (j := 2) rfl, _, rfl, g, t.C_Goer, dx, _, rfl, upd_same, t.cl_Goer, t.nA_Goer_row, Goer_few, ?_⟩
        rw [Goer_put_row]
        have g4 := g3.set (o := .ins t.C_Goer dx (Goer_F tb (.int ro) (.int (s + wa)) (.ref d) (.int n))) fg (.inr (.inl rfl))
        -- self.steps += 1
        refine ⟨_, rfl, g, t.C_Goer, dx, _, _, rfl, upd_same, t.cl_Goer, t.nA_Goer_steps, Goer_get_steps, _, _, rfl, rfl, _, _, upd_same, Goer_few, ?_⟩
        rw [Goer_put_steps]
        have g5 := g4.set (o := .ins t.C_Goer dx (Goer_F tb (.int ro) (.int (s + wa)) (.ref d) (.int (n + 1)))) fg (.inr (.inl rfl))
        refine q2 _ _ _ rfl _ g5 ⟨⟨dx, upd_same⟩, ?_⟩
        rw [upd_ne gd.symm, upd_ne gd.symm, upd_ne gd.symm, upd_same]
def sp_told_strip : Sp := fun vs H Q _ => ∃ (F : Hp) (d : Addr) (l : List PI), vs = [.ref d] ∧ Same F H ∧ H d = some (.dK (dI l)) ∧ l.length ≤ 100000 ∧
  ∀ (F' H' : Hp) (p : Addr) (xs : List V), Gr mu0 F H F' H' → Ow H F' H' p (.lst xs) → IsAll F' xs (told l) → Q (.ref p) H'
theorem ok_told_strip (t : Tx K mg) : FnOk P w K mg base CX0 1 t.a_told_strip t.fd_told_strip ["signs"] sp_told_strip := by
  refine t.F_told_strip.ok sc_told_strip (fun vs H Q E h => ?_) (fun cdv A outer s H vs Q E hr h => ?_)
  · obtain ⟨F, d, l, rfl, _⟩ := h
    rfl
  · obtain ⟨F, d, l, rfl, sF, hd, hl, q⟩ := h
    refine ⟨_, (pss_one (ps_ret (pe_callB (id := "sorted") call_sortQ (by rfl) t.n_sorted (by decide +kernel) (pa_cons (pe_lock (pe_lc (own := [("place", 1), ("sign", 2)]) rfl sc_told_strip.nd (pi_items (pv 0)) (blkOk_by (N := N_told_strip) (sc := defScope s_told_strip) (by decide +kernel)) (fun _ _ _ _ _ => (pg_tupK (K := K) (n := 2) rfl rfl (pgs_cons (pg_name (i := 1) sc_told_strip.nd rfl (by first | exact Or.inl rfl | exact Or.inr rfl)) (pgs_cons (pg_name (i := 2) sc_told_strip.nd rfl (by first | exact Or.inl rfl | exact Or.inr rfl)) pgs_nil)))) (fun _ _ _ _ _ => (pts_one (pt_cmpR op_ne (pv 2) pe_int (nomark _)))) (fun _ _ _ _ _ => (pe_tup (pa_cons (pv 1) (pa_cons (pv 2) pa_nil)))))) pa_nil)))), ?_⟩
    refine ⟨d, _, hd, trivial, fun od => ?_⟩
    have sL := lock_in (d := d) (o := .frz od (.dK (dI l))) sF
    have g0 : Gr mu0 _ (upd H d (.frz od (.dK (dI l)))) _ (upd H d (.frz od (.dK (dI l)))) := Gr.refl sL
    have dl : (dI l).length = l.length := by unfold dI; rw [List.length_map]
    generalize eH1 : upd H d (.frz od (.dK (dI l))) = H1 at g0
    generalize eF1 : (fun c => if c = d then none else F c) = F1 at g0
    have hd1 : H1 d = some (.frz od (.dK (dI l))) := by rw [← eH1]; exact upd_same
    refine ⟨_, rfl, d, od, dI l, rfl, hd1, fun D nD => lc_it walk_items (fun i G => ∃ F2 xs, Gr mu0 F1 H1 F2 G ∧ Ow H1 F2 G D (.lst xs) ∧ IsAll F2 xs ((l.take i).filter nz)) ⟨F1, [], g0.own nD, Ow.mk1 g0 nD, All2.nil⟩ (fun i G _ ⟨F2, xs, g, _⟩ => g.fr _ _ hd1 (fun z => z)) ?_ ?_⟩
    · rintro i x G G' hi ⟨F2, xs, g, w, al⟩ ⟨T, x1, x2, rfl, nT, rfl, e1, e2⟩
      rw [dl] at hi
      have e1 : (dI l)[i]?.map (fun kv => kV kv.1) = some x1 := e1
      have e2 : (dI l)[i]?.map Prod.snd = some x2 := e2
      rw [dI_get hi] at e1 e2
      cases e1
      cases e2
      have g1 := g.new (o := .tup [.int l[i].a, .int l[i].b]) nT
      have w1 := w.new (u := .tup [.int l[i].a, .int l[i].b]) nT
      refine ⟨T, _, rfl, SqT.of upd_same, rfl, _, _, rfl, _, _, rfl, rfl, rfl, _, rfl, rfl, _, rfl, ?_⟩
      rw [filter_take_succ hi]
      refine ite2 (fun c => ?_) (fun c => ?_)
      · have c' : nz l[i] = true := by
          refine decide_eq_true fun z => ?_
          have c : (!decide (V.int l[i].b = V.int 0)) = true := c
          rw [z, decide_eq_true rfl] at c
          cases c
        rw [if_pos c']
        refine ⟨_, rfl, _, rfl, two_le, fun T2 nT2 => ⟨xs, (w1.new nT2).h, ?_, ?_⟩⟩
        · rw [al.1]
          exact lt_size (Nat.le_trans (List.length_filter_le _ _) (by rw [List.length_take]; omega))
        · have g2 := g1.new (o := .tup [.int l[i].a, .int l[i].b]) nT2
          have w2 := w1.new (u := .tup [.int l[i].a, .int l[i].b]) nT2
          refine ⟨_, _, g2.set w2.f (.inl w2.n), w2.set, (al.up (fun c o h => ?_)).app (All2.one ⟨T2, _, _, rfl, upd_same, rfl, rfl⟩)⟩
          rw [upd_ne (ne_of_none (g1.fh _ _ ((Gr.refl (mu := mu0) g.fh).new nT |>.ff c o h)) nT2)]
          exact (Gr.refl (mu := mu0) g.fh).new nT |>.ff c o h
      · have c' : ¬ nz l[i] = true := fun z => by
          refine c ?_
          have z := of_decide_eq_true z
          show (!decide (V.int l[i].b = V.int 0)) = true
          rw [decide_eq_false (fun e => z (V.int.inj e))]; rfl
        rw [if_neg c', List.append_nil]
        exact ⟨_, xs, g1, w1, al.up ((Gr.refl (mu := mu0) g.fh).new nT).ff⟩
    · rintro G ⟨F2, xs, g, w, al⟩
      rw [dl, List.take_length] at al
      subst eH1
      subst eF1
      obtain ⟨h1, h2, h3⟩ := lock_out sF hd g
      refine ⟨h1, ?_⟩
      have hDd : D ≠ d := by
        rintro rfl
        rw [w.h] at h1; cases h1
      refine sort_pairs (K := K) (l := l.filter nz) (xs := xs) h3.fh (al.up h2) (SqL.of (by rw [upd_ne hDd]; exact w.h)) fun ys p np hys => ?_
      exact q _ _ p ys (h3.own np) (Ow.mk1 h3 np) hys
def sp_Goer_setup (C : Addr) : Sp := fun vs H Q _ => ∃ (F : Hp) (g d : Addr) (tb : V) (r s : Int) (l : List PI) (n : Int), vs = [.ref g] ∧ Same F H ∧ GoAt C H g d tb r s l n ∧ l.length ≤ 100000 ∧
  ∀ (F' H' : Hp) (p u : Addr) (xs : List V), Gr mu0 F H F' H' → Ow H F' H' p (.lst xs) → IsAll F' xs (told l) → Ow H F' H' u (.tup [.int r, .int s, .ref p]) → Q (.ref u) H'
theorem ok_Goer_setup (t : Tx K mg) : FnOk P w K mg base CX0 2 t.a_Goer_setup t.fd_Goer_setup ["self"] (sp_Goer_setup t.C_Goer) := by
  refine t.F_Goer_setup.ok sc_Goer_setup (fun vs H Q E h => ?_) (fun cdv A outer s H vs Q E hr h => ?_)
  · obtain ⟨F, g, d, tb, r, s, l, n, rfl, _⟩ := h
    rfl
  · obtain ⟨F, g, d, tb, r, s, l, n, rfl, sF, hg, hl, q⟩ := h
    refine ⟨_, (pss_one (ps_ret (pe_tup (pa_cons (pe_fld (pv 0) rfl) (pa_cons (pe_fld (pv 0) rfl) (pa_cons (pe_call (ok_told_strip t) (hr.mono (by decide)) (by rfl) t.m_told_strip t.F_told_strip.kp t.b_told_strip .nil pass0 (pa_cons (pe_fld (pv 0) rfl) pa_nil)) pa_nil)))))), ?_⟩
    obtain ⟨⟨dx, ho⟩, hd⟩ := id hg
    refine ⟨_, rfl, g, t.C_Goer, dx, _, _, rfl, ho, t.cl_Goer, t.nA_Goer_row, Goer_get_row, _, rfl, g, t.C_Goer, dx, _, _, rfl, ho, t.cl_Goer, t.nA_Goer_spot, Goer_get_spot, _, rfl, g, t.C_Goer, dx, _, _, rfl, ho, t.cl_Goer, t.nA_Goer_signs, Goer_get_signs, ?_⟩
    refine ⟨F, d, l, rfl, sF, hd, hl, fun F' H' p xs gr w al => ⟨three_le, fun u nu => ?_⟩⟩
    exact q F' _ p u xs (gr.own nu) (w.own nu) al (Ow.mk1 gr nu)
def sp_stepped : Sp := fun vs H Q _ => ∃ (F : Hp) (m u : V) (M : Mach) (R S : Nat) (x : Setup) (row : List Ent) (e : Ent), vs = [m, u] ∧ Same F H ∧ Is F m M ∧ MOk M R S ∧ Is F u x ∧ Nd x.c ∧ x.c.length ≤ 1000 ∧
  0 ≤ x.a ∧ M[x.a.toNat]? = some row ∧ 0 ≤ (look x.c x.b).getD 0 ∧ row[((look x.c x.b).getD 0).toNat]? = some e ∧
  (e = .emp → ∀ H', Gr mu0 F H F H' → Q .non H') ∧
  (∀ p w r', e = .go p w r' → ∀ (F' H' : Hp) (l v : Addr) (xs : List V), Gr mu0 F H F' H' → Ow H F' H' l (.lst xs) → IsAll F' xs (told (put x.c x.b p)) → Ow H F' H' v (.tup [.int r', .int (x.b + w), .ref l]) → Q (.ref v) H')
theorem ok_stepped (t : Tx K mg) : FnOk P w K mg base CX0 4 t.a_stepped t.fd_stepped ["machine", "setup"] sp_stepped := by
  refine t.F_stepped.ok sc_stepped (fun vs H Q E h => ?_) (fun cdv A outer s H vs Q E hr h => ?_)
  · obtain ⟨F, m, u, M, R, S, x, row, e, rfl, _⟩ := h
    rfl
  · obtain ⟨F, m, u, M, R, S, x, row, e, rfl, sF, hm, hM, hu, nd, hl, hr0, hrow, hs0, he, q1, q2⟩ := h
    refine ⟨_, (pss_cons (ps_expr (pe_call (ok_must_machine t) (hr.mono (by decide)) (by rfl) t.m_must_machine t.F_must_machine.kp t.b_must_machine .nil pass0 (pa_cons (pv 0) pa_nil)))
      (pss_cons (ps_set (i := 2) sc_stepped.nd rfl (by first | exact Or.inl rfl | exact Or.inr rfl) (pe_make t.M_Goer (ok_Goer_init t) (hr.mono (by decide)) (by rfl) t.m_Goer t.b_Goer_init .nil pass0 (pa_cons (pv 0) (pa_cons (pv 1) pa_nil))))
      (pss_cons (ps_if (pt_val (pe_meth0 (pv 2) t.cl_Goer t.M_Goer_step (ok_Goer_step t) (hr.mono (by decide)) t.b_Goer_step .nil pass0)) (pss_one (ps_ret (pe_meth0 (pv 2) t.cl_Goer t.M_Goer_setup (ok_Goer_setup t) (hr.mono (by decide)) t.b_Goer_setup .nil pass0))) pss_nil)
      (pss_one (ps_ret pe_non))))), ?_⟩
    refine ⟨_, rfl, F, m, M, R, S, rfl, sF, hm, hM, fun H1 g1 => ?_⟩
    refine ⟨_, rfl, _, rfl, fun y dy ny ndy ney => ?_⟩
    have g2 := (g1.own (o := .own y) ndy)
    have ny2 : (upd H1 dy (.own y)) y = none := by rw [upd_ne ney.symm]; exact ny
    have g3 := g2.own (o := .ins t.C_Goer dy []) ny2
    have n1 : H y = none := g1.th _ ny
    have f3 : F y = none := sF.free n1
    refine ⟨F, y, dy, m, u, x, rfl, upd_same, f3, g3.fh, hu, fun d H4 nd4 g4 ga => ⟨rfl, ?_⟩⟩
    have e0 : merge [] x.c = x.c := merge_nd nd
    rw [e0] at ga
    have g5 := g3.thn g4 fun c z => .inr (by rw [show c = y from z]; exact n1)
    have nd0 : H d = none := g3.th _ nd4
    have fd : F d = none := sF.free nd0
    obtain ⟨⟨dx, ho⟩, hd⟩ := id ga
    refine ⟨_, rfl, y, dx, _, rfl, ho, Goer_no (by decide +kernel) (by decide +kernel) (by decide +kernel) (by decide +kernel) (by decide +kernel), F, y, d, m, M, x.a, x.b, x.c, 0, row, e, rfl, g5.fh, f3, fd, hm, ga, hr0, hrow, hs0, he, by omega, fun ee H6 g6 => ⟨_, rfl, iteF ?_⟩, fun p w r' ee H6 g6 gb => ⟨_, rfl, iteT ?_⟩⟩
    · exact q1 ee _ (g5.trans g6)
    · have g7 := g5.thn g6 fun c z => .inr (by rcases z with rfl | rfl <;> assumption)
      obtain ⟨⟨dx6, ho6⟩, _⟩ := id gb
      refine ⟨_, rfl, y, dx6, _, rfl, ho6, Goer_no (by decide +kernel) (by decide +kernel) (by decide +kernel) (by decide +kernel) (by decide +kernel), F, y, d, m, r', x.b + w, put x.c x.b p, 0 + 1, rfl, g7.fh, gb, by have := put_len x.c x.b p; omega, fun F' H' l v xs g8 w1 al w2 => ?_⟩
      exact q2 p w r' ee F' H' l v xs (g7.trans g8) ⟨g7.th _ w1.n, w1.f, w1.h⟩ al ⟨g7.th _ w2.n, w2.f, w2.h⟩
/-! ### what a machine does -/
structure Cfg where
  r : Int
  s : Int
  l : List PI
def entOf (M : Mach) (c : Cfg) : Ent := ((M[c.r.toNat]?.getD [])[((look c.l c.s).getD 0).toNat]?).getD .emp
def stepC (M : Mach) (c : Cfg) : Option Cfg := match entOf M c with
  | .emp => none
  | .go p w r => some ⟨r, c.s + w, put c.l c.s p⟩
structure CfOk (R S : Nat) (c : Cfg) : Prop where
  r0 : 0 ≤ c.r
  r1 : c.r < R
  nd : Nd c.l
  sg : ∀ q ∈ c.l, 0 ≤ q.b ∧ q.b < S
theorem CfOk.look {R S : Nat} {c : Cfg} (h : CfOk R S c) (s1 : 1 ≤ S) (x : Int) : 0 ≤ (look c.l x).getD 0 ∧ (look c.l x).getD 0 < S := by
  cases e : E.look c.l x with
  | none => simp only [Option.getD_none]; omega
  | some v => exact h.sg _ (mem_look e)
theorem CfOk.ent {M : Mach} {R S : Nat} {c : Cfg} (hM : MOk M R S) (h : CfOk R S c) : ∃ row, M[c.r.toNat]? = some row ∧ 0 ≤ (E.look c.l c.s).getD 0 ∧ row[((E.look c.l c.s).getD 0).toNat]? = some (entOf M c) ∧ EOk R S (entOf M c) := by
  have hr : c.r.toNat < M.length := by have := h.r0; have := h.r1; have := hM.len; omega
  have h1 : M[c.r.toNat]? = some M[c.r.toNat] := List.getElem?_eq_getElem hr
  have m1 := List.mem_of_getElem? h1
  obtain ⟨s0, s1⟩ := h.look (by have := hM.s2; omega) c.s
  have hs : ((E.look c.l c.s).getD 0).toNat < M[c.r.toNat].length := by rw [hM.row _ m1]; omega
  have h2 : M[c.r.toNat][((E.look c.l c.s).getD 0).toNat]? = some _ := List.getElem?_eq_getElem hs
  have e : entOf M c = M[c.r.toNat][((E.look c.l c.s).getD 0).toNat] := by
    unfold entOf
    rw [h1, Option.getD_some, h2, Option.getD_some]
  exact ⟨_, h1, s0, by rw [e]; exact h2, by rw [e]; exact hM.ent _ m1 _ (List.mem_of_getElem? h2)⟩
theorem CfOk.step {M : Mach} {R S : Nat} {c c' : Cfg} (hM : MOk M R S) (h : CfOk R S c) (e : stepC M c = some c') : CfOk R S c' := by
  obtain ⟨row, _, _, _, eo⟩ := h.ent hM
  unfold stepC at e
  split at e
  · cases e
  · rename_i p w r he
    cases e
    obtain ⟨o1, _, o3, o4⟩ := eo.ok _ _ _ he
    refine ⟨o3, o4, nd_put h.nd _ _, fun q m => ?_⟩
    rcases mem_put m with m | rfl
    · exact h.sg q m
    · exact o1
/-- the setups behind 0, 1, .. n steps, up to the end -/
def trace (M : Mach) : Nat → Cfg → List Cfg
  | 0, c => [c]
  | n + 1, c => c :: (match stepC M c with | none => [] | some c' => trace M n c')
/-- a setup with its signs in a dict -/
def cfAt (H : Hp) (v : V) (c : Cfg) : Prop := ∃ t d, v = .ref t ∧ H t = some (.tup [.int c.r, .int c.s, .ref d]) ∧ H d = some (.dK (dI c.l))
theorem cfAt.up {H H' : Hp} {v : V} {c : Cfg} (h : cfAt H v c) (s : Same H H') : cfAt H' v c := by
  obtain ⟨t, d, e, h1, h2⟩ := h
  exact ⟨t, d, e, s _ _ h1, s _ _ h2⟩
theorem dict_copy {H : Hp} {a : Addr} {l : List PI} (h : H a = some (.dK (dI l))) : Rd H a (.dK (dI l)) := .inl h
theorem stepC_none {M : Mach} {c : Cfg} : stepC M c = none ↔ entOf M c = .emp := by
  unfold stepC
  cases entOf M c with
  | emp => exact ⟨fun _ => rfl, fun _ => rfl⟩
  | go p w r => exact ⟨(fun h => nomatch h), (fun h => nomatch h)⟩
theorem stepC_go {M : Mach} {c : Cfg} {p w r : Int} (h : entOf M c = .go p w r) : stepC M c = some ⟨r, c.s + w, put c.l c.s p⟩ := by
  unfold stepC
  rw [h]
theorem mach_ent {F : Hp} {m : V} {M : Mach} {i j : Nat} {row : List Ent} {e : Ent} (hm : Is F m M) (h1 : M[i]? = some row) (h2 : row[j]? = some e) : ∃ am rs ra es v, m = .ref am ∧ F am = some (.lst rs) ∧ rs[i]? = some (.ref ra) ∧ F ra = some (.lst es) ∧ es[j]? = some v ∧ Is F v e := by
  obtain ⟨am, rs, e1, ham, hrs⟩ := hm
  obtain ⟨x, hx, ra, es, rfl, hra, hes⟩ := hrs.get h1
  obtain ⟨v, hv, hve⟩ := hes.get h2
  exact ⟨am, rs, ra, es, v, e1, ham, hx, hra, hv, hve⟩
theorem getD_int (o : Option Int) (x : Int) : (o.map V.int).getD (.int x) = .int (o.getD x) := by cases o <;> rfl
theorem trace_end {M : Mach} {c : Cfg} (h : stepC M c = none) : ∀ n, trace M n c = [c]
  | 0 => rfl
  | n + 1 => by
    unfold trace
    rw [h]
theorem trace_go {M : Mach} {c c' : Cfg} (h : stepC M c = some c') (n : Nat) : trace M (n + 1) c = c :: trace M n c' := by
  show c :: (match stepC M c with | none => [] | some c' => trace M n c') = _
  rw [h]
theorem size_dI {l : List PI} {n : Nat} (h : l.length ≤ n) (k : n ≤ 1000000) : (dI l).length < sizeLine := by
  unfold dI; rw [List.length_map]; exact lt_size (by omega)
/-! ### runs from the empty strip -/
def c0 : Cfg := ⟨0, 0, []⟩
def stepsC (M : Mach) : Nat → Option Cfg
  | 0 => some c0
  | k + 1 => (stepsC M k).bind (stepC M)
theorem stepsC_next {M : Mach} {k : Nat} {c : Cfg} (h : stepsC M k = some c) : stepsC M (k + 1) = stepC M c := by
  show (stepsC M k).bind (stepC M) = _
  rw [h]; rfl
theorem stepsC_back {M : Mach} {k : Nat} {c : Cfg} (h : stepsC M (k + 1) = some c) : ∃ b, stepsC M k = some b ∧ stepC M b = some c := Option.bind_eq_some_iff.mp h
theorem stepsC_end {M : Mach} {k : Nat} {c : Cfg} (h : stepsC M k = some c) (e : stepC M c = none) : ∀ j, stepsC M (k + 1 + j) = none
  | 0 => by rw [Nat.add_zero, stepsC_next h]; exact e
  | j + 1 => by
    show (stepsC M (k + 1 + j)).bind (stepC M) = _
    rw [stepsC_end h e j]; rfl
theorem c0_ok {R S : Nat} (r1 : 1 ≤ R) : CfOk R S c0 := ⟨Int.le_refl _, by show (0 : Int) < R; omega, nd_nil, fun z m => nomatch m⟩
theorem stepC_len {M : Mach} {c c' : Cfg} (e : stepC M c = some c') : c'.l.length ≤ c.l.length + 1 := by
  unfold stepC at e
  split at e
  · cases e
  · cases e
    exact put_len _ _ _
theorem stepsC_ok {M : Mach} {R S : Nat} (hM : MOk M R S) : ∀ {k : Nat} {c : Cfg}, stepsC M k = some c → CfOk R S c ∧ c.l.length ≤ k
  | 0, c, h => by
    cases h
    exact ⟨c0_ok hM.r1, Nat.le_refl _⟩
  | k + 1, c, h => by
    obtain ⟨b, hb, e⟩ := stepsC_back h
    obtain ⟨i1, i2⟩ := stepsC_ok hM hb
    have := stepC_len e
    exact ⟨i1.step hM e, by omega⟩
/-- where a run of at most n steps stands: behind k of them, at c -/
structure Gone (M : Mach) (n k : Nat) (c : Cfg) : Prop where
  le : k ≤ n
  stp : stepsC M k = some c
  fin : stepC M c = none ∨ k = n
theorem Gone.lt {M : Mach} {n k k' : Nat} {c c' : Cfg} (a : Gone M n k c) (b : Gone M n k' c') : ¬ k < k' := fun l => by
  rcases a.fin with e | e
  · have h := stepsC_end a.stp e (k' - (k + 1))
    rw [show k + 1 + (k' - (k + 1)) = k' by omega, b.stp] at h
    cases h
  · have := b.le; omega
theorem Gone.uniq {M : Mach} {n k k' : Nat} {c c' : Cfg} (a : Gone M n k c) (b : Gone M n k' c') : k = k' ∧ c = c' := by
  have e : k = k' := by have := a.lt b; have := b.lt a; omega
  subst e
  have h := a.stp
  rw [b.stp] at h
  cases h
  exact ⟨rfl, rfl⟩
/-! ### a strip without noughts -/
def pop (l : List PI) (x : Int) : List PI := l.filter fun p => decide (p.a ≠ x)
theorem dI_pop (l : List PI) (x : Int) : dropK (dI l) (Sum.inl x) = dI (pop l x) := by
  unfold dropK dI pop
  rw [List.filter_map]
  congr 2
  funext p
  have e : ((Sum.inl p.a : Key) ≠ Sum.inl x) = (p.a ≠ x) := propext ⟨fun h z => h (by rw [z]), fun h z => h (Sum.inl.inj z)⟩
  simp only [Function.comp, e]
theorem look_pop (x y : Int) : ∀ l : List PI, look (pop l x) y = if y = x then none else look l y
  | [] => by show look [] y = _; rw [look_nil]; split <;> rfl
  | p :: l => by
    have ih := look_pop x y l
    unfold pop at ih ⊢
    rw [List.filter_cons, look_cons]
    by_cases e : p.a = x
    · rw [if_neg (by simp [e]), ih]
      by_cases f : y = x
      · rw [if_pos f, if_pos f]
      · rw [if_neg f, if_neg f, if_neg (by rw [e]; exact fun z => f z.symm)]
    · rw [if_pos (by simp [e]), look_cons, ih]
      by_cases f : p.a = y
      · rw [if_pos f, if_pos f, if_neg (by rw [← f]; exact e)]
      · rw [if_neg f, if_neg f]
theorem nd_pop {l : List PI} (h : Nd l) (x : Int) : Nd (pop l x) := List.Sublist.nodup (List.Sublist.map _ List.filter_sublist) h
theorem nd_nodup {l : List PI} (h : Nd l) : l.Nodup := (List.pairwise_map.mp h).imp fun z e => z (by rw [e])
structure ZRel (l l' : List PI) : Prop where
  n : Nd l
  n' : Nd l'
  z : ∀ q ∈ l', q.b ≠ 0
  lk : ∀ x, (look l x).getD 0 = (look l' x).getD 0
theorem ZRel.nil : ZRel [] [] := ⟨nd_nil, nd_nil, fun q m => (nomatch m), fun x => rfl⟩
theorem ZRel.put {l l' : List PI} (h : ZRel l l') (x : Int) {v : Int} (e : v ≠ 0) : ZRel (put l x v) (put l' x v) := by
  refine ⟨nd_put h.n _ _, nd_put h.n' _ _, fun q m => ?_, fun y => ?_⟩
  · rcases mem_put m with m | rfl
    · exact h.z q m
    · exact e
  · rw [look_put, look_put]
    split
    · rfl
    · exact h.lk y
theorem ZRel.pop {l l' : List PI} (h : ZRel l l') (x : Int) : ZRel (E.put l x 0) (pop (E.put l' x 0) x) := by
  refine ⟨nd_put h.n _ _, nd_pop (nd_put h.n' _ _) _, fun q m => ?_, fun y => ?_⟩
  · obtain ⟨m, e⟩ := List.mem_filter.mp m
    have e : q.a ≠ x := of_decide_eq_true e
    rcases mem_put m with m | rfl
    · exact h.z q m
    · exact absurd rfl e
  · rw [look_put, look_pop, look_put]
    split
    · rfl
    · exact h.lk y
theorem ZRel.perm {l l' : List PI} (h : ZRel l l') : (l.filter nz).Perm l' := by
  refine (List.perm_ext_iff_of_nodup (List.Sublist.nodup List.filter_sublist (nd_nodup h.n)) (nd_nodup h.n')).mpr fun q => ?_
  have k := h.lk q.a
  rw [List.mem_filter]
  constructor
  · rintro ⟨m, e⟩
    have e : q.b ≠ 0 := of_decide_eq_true e
    rw [look_mem h.n m, Option.getD_some] at k
    cases f : look l' q.a with
    | none => rw [f] at k; exact absurd k e
    | some z =>
      rw [f, Option.getD_some] at k
      have m' := mem_look f
      rw [← k] at m'
      exact m'
  · intro m
    have e := h.z q m
    rw [look_mem h.n' m, Option.getD_some] at k
    cases f : look l q.a with
    | none => rw [f] at k; exact absurd k.symm e
    | some z =>
      rw [f, Option.getD_some] at k
      have m' := mem_look f
      rw [k] at m'
      exact ⟨m', decide_eq_true e⟩
theorem ZRel.told {l l' : List PI} (h : ZRel l l') : told l = srt l' :=
  srt_uniq (srt_srt _) (srt_srt _) (((srt_perm _).trans h.perm).trans (srt_perm _).symm)
theorem ZRel.len {l l' : List PI} (h : ZRel l l') : l'.length ≤ l.length := by
  rw [← h.perm.length_eq]; exact List.length_filter_le _ _
/-- a setup with its signs other than 0 in a dict -/
def zAt (H : Hp) (v : V) (c : Cfg) : Prop := ∃ t d l', v = .ref t ∧ H t = some (.tup [.int c.r, .int c.s, .ref d]) ∧ H d = some (.dK (dI l')) ∧ ZRel c.l l'
theorem zAt.up {H H' : Hp} {v : V} {c : Cfg} (h : zAt H v c) (s : Same H H') : zAt H' v c := by
  obtain ⟨t, d, l', e, h1, h2, h3⟩ := h
  exact ⟨t, d, l', e, s _ _ h1, s _ _ h2, h3⟩
/-- the setups behind 0, 1, .. k steps -/
def ZAll (H : Hp) (M : Mach) (xs : List V) (k : Nat) : Prop := xs.length = k + 1 ∧ ∀ i v, xs[i]? = some v → ∃ c, stepsC M i = some c ∧ zAt H v c
theorem ZAll.up {H H' : Hp} {M : Mach} {xs : List V} {k : Nat} (h : ZAll H M xs k) (s : Same H H') : ZAll H' M xs k :=
  ⟨h.1, fun i v e => by obtain ⟨c, a, b⟩ := h.2 i v e; exact ⟨c, a, b.up s⟩⟩
theorem ZAll.one {H : Hp} {M : Mach} {v : V} (h : zAt H v c0) : ZAll H M [v] 0 := ⟨rfl, fun i u e => by
  cases i with
  | zero => cases e; exact ⟨c0, rfl, h⟩
  | succ n => cases e⟩
theorem ZAll.app {H : Hp} {M : Mach} {xs : List V} {k : Nat} {v : V} {c : Cfg} (h : ZAll H M xs k) (e : stepsC M (k + 1) = some c) (z : zAt H v c) : ZAll H M (xs ++ [v]) (k + 1) := by
  refine ⟨by rw [List.length_append, h.1]; rfl, fun i u hu => ?_⟩
  by_cases l : i < xs.length
  · rw [List.getElem?_append_left l] at hu
    exact h.2 i u hu
  · rw [List.getElem?_append_right (by omega)] at hu
    cases j : i - xs.length with
    | zero =>
      rw [j] at hu
      cases hu
      have := h.1
      rw [show i = k + 1 by omega]
      exact ⟨c, e, z⟩
    | succ n => rw [j] at hu; cases hu
theorem ZAll.get {H : Hp} {M : Mach} {xs : List V} {k i : Nat} {c : Cfg} (h : ZAll H M xs k) (l : i ≤ k) (e : stepsC M i = some c) : ∃ v, xs[i]? = some v ∧ zAt H v c := by
  have l' : i < xs.length := by rw [h.1]; omega
  obtain ⟨c', e', z⟩ := h.2 i _ (List.getElem?_eq_getElem l')
  rw [e] at e'
  cases e'
  exact ⟨_, List.getElem?_eq_getElem l', z⟩
/-- the entry at c, looked up by a strip of the same signs -/
theorem CfOk.ent' {M : Mach} {R S : Nat} {c : Cfg} {l' : List PI} (hM : MOk M R S) (h : CfOk R S c) (z : ZRel c.l l') : ∃ row, M[c.r.toNat]? = some row ∧ 0 ≤ (E.look l' c.s).getD 0 ∧ row[((E.look l' c.s).getD 0).toNat]? = some (entOf M c) ∧ EOk R S (entOf M c) := by
  rw [← z.lk]
  exact h.ent hM
/-- what is due of a run -/
abbrev Res := T3 TStr Int Setup
def tEnds : TStr := ⟨"ends", by decide +kernel⟩
def tOn : TStr := ⟨"on", by decide +kernel⟩
def dueOf (M : Mach) (n k : Nat) (c : Cfg) : Res := if entOf M c = Ent.emp then ⟨tEnds, k, c.r, c.s, told c.l⟩ else ⟨tOn, n, c.r, c.s, told c.l⟩
def sp_gone (C : Addr) : Sp := fun vs H Q _ => ∃ (F : Hp) (m : V) (M : Mach) (R S n : Nat), vs = [m, .int n] ∧ Same F H ∧ Is F m M ∧ MOk M R S ∧ n ≤ 5000 ∧
  ∀ (F' H' : Hp) (u g d : Addr) (k : Nat) (c : Cfg), Gr mu0 F H F' H' → F' u = some (.tup [.ref g, .bl (decide (entOf M c = Ent.emp))]) → H g = none → H d = none → F' g = none → F' d = none → GoAt C H' g d m c.r c.s c.l k → Gone M n k c → Q (.ref u) H'
theorem ok_gone (t : Tx K mg) : FnOk P w K mg base CX0 3 t.a_gone t.fd_gone ["machine", "most"] (sp_gone t.C_Goer) := by
  refine t.F_gone.ok sc_gone (fun vs H Q E h => ?_) (fun cdv A outer s H vs Q E hr h => ?_)
  · obtain ⟨F, m, M, R, S, n, rfl, _⟩ := h
    rfl
  · obtain ⟨F, m, M, R, S, n, rfl, sF, hm, hM, hn, q⟩ := h
    refine ⟨_, (pss_cons (ps_set (i := 2) sc_gone.nd rfl (by first | exact Or.inl rfl | exact Or.inr rfl) (pe_make t.M_Goer (ok_Goer_init t) (hr.mono (by decide)) (by rfl) t.m_Goer t.b_Goer_init .nil pass0 (pa_cons (pv 0) (pa_cons (pe_tup (pa_cons pe_int (pa_cons pe_int (pa_cons (pe_lst pa_nil) pa_nil)))) pa_nil))))
      (pss_cons (ps_set (i := 3) sc_gone.nd rfl (by first | exact Or.inl rfl | exact Or.inr rfl) pe_bl)
      (pss_cons (ps_while PassesOwn.never (PW.pt (pw_and (pt_val (pv 3)) (pw_and1 (pt_cmpR op_lt (pe_fld (pv 2) rfl) (pv 1) (nomark _))))) (pss_one (ps_set (i := 3) sc_gone.nd rfl (by first | exact Or.inl rfl | exact Or.inr rfl) (pe_meth0 (pv 2) t.cl_Goer t.M_Goer_step (ok_Goer_step t) (hr.mono (by decide)) t.b_Goer_step .nil pass0))))
      (pss_one (ps_ret (pe_tup (pa_cons (pv 2) (pa_cons (pe_cmpR (op_eqD hr.units) (pe_meth0 (pv 2) t.cl_Goer t.M_Goer_entry (ok_Goer_entry t) (hr.mono (by decide)) t.b_Goer_entry .nil pass0) (pe_tup pa_nil) (nomark _)) pa_nil)))))))), ?_⟩
    have g0 : Gr mu0 F H F H := Gr.refl sF
    -- walk = Goer(machine, (0, 0, []))
    refine ⟨_, rfl, nil_le, fun l nl => ⟨three_le, fun u nu => ?_⟩⟩
    have g1 := g0.new (o := .lst []) nl
    have g2 := g1.new (o := .tup [.int 0, .int 0, .ref l]) nu
    have hx : Is (upd (upd F l (.lst [])) u (.tup [.int 0, .int 0, .ref l])) (.ref u) (⟨0, 0, []⟩ : Setup) := ⟨u, _, _, _, rfl, upd_same, rfl, rfl, l, [], rfl, ln (g1.fh.free nu) upd_same, All2.nil⟩
    generalize upd (upd F l (.lst [])) u (.tup [.int 0, .int 0, .ref l]) = F2 at g2 hx
    generalize upd (upd H l (.lst [])) u (.tup [.int 0, .int 0, .ref l]) = H2 at g2
    refine fun y dy ny ndy ney => ?_
    have g3 := g2.own (o := .own y) ndy
    have ny2 : (upd H2 dy (.own y)) y = none := by rw [upd_ne ney.symm]; exact ny
    have g4 := g3.own (o := .ins t.C_Goer dy []) ny2
    have hy : H y = none := g2.th _ ny
    have fy : F2 y = none := g2.fh.free ny
    refine ⟨F2, y, dy, m, .ref u, _, rfl, upd_same, fy, g4.fh, hx, fun d H5 nd5 g5 ga => ⟨rfl, ?_⟩⟩
    have g6 := g4.thn g5 fun c z => .inr (by rw [show c = y from z]; exact hy)
    have hd : H d = none := g4.th _ nd5
    have fd : F2 d = none := g4.fh.free nd5
    have hm2 := hm.up g2.ff
    -- going = True; while going and walk.steps < most
    refine ⟨fun k σ G => ∃ (F1 : Hp) (j : Nat) (c : Cfg) (b : Bool), k = 2 * (n - j) + b.toNat ∧ σ = [some m, some (.int n), some (.ref y), some (.bl b)] ∧ Gr mu0 F H F1 G ∧ F1 y = none ∧ F1 d = none ∧ Same F2 F1 ∧ GoAt t.C_Goer G y d m c.r c.s c.l j ∧ stepsC M j = some c ∧ j ≤ n ∧ (b = false → stepC M c = none),
      ⟨_, F2, 0, c0, true, rfl, rfl, g6, fy, fd, Same.refl _, ga, rfl, Nat.zero_le _, (fun z => nomatch z)⟩, ?_⟩
    rintro k σ G ⟨F1, j, c, b, rfl, rfl, g, fy, fd, s2, ga, st, lj, hb⟩
    obtain ⟨ok, ll⟩ := stepsC_ok hM st
    have hm1 := hm2.up s2
    obtain ⟨row, er, s0, ee, eo⟩ := ok.ent hM
    have gy := g.th
    have fin : ∀ G1, Gr mu0 F H F1 G1 → GoAt t.C_Goer G1 y d m c.r c.s c.l j → (stepC M c = none ∨ j = n) → ∀ p, G1 p = none → ∀ u, (upd G1 p (.tup [])) u = none → Q (.ref u) (upd (upd G1 p (.tup [])) u (.tup [.ref y, .bl (decide (entOf M c = Ent.emp))])) := by
      intro G1 g1 ga1 hend p np u nu
      have g2 := g1.own (o := .tup []) np
      have g3 := g2.new (o := .tup [.ref y, .bl (decide (entOf M c = Ent.emp))]) nu
      obtain ⟨⟨dx, ho⟩, hdc⟩ := id ga1
      have yu : y ≠ u := fun z => by rw [← z, upd_ne (ne_of_none ho np), ho] at nu; cases nu
      have du : d ≠ u := fun z => by rw [← z, upd_ne (ne_of_none hdc np), hdc] at nu; cases nu
      refine q _ _ u y d j c g3 upd_same hy hd (by rw [upd_ne yu]; exact fy) (by rw [upd_ne du]; exact fd) ⟨⟨dx, ln nu (ln np ho)⟩, ln nu (ln np hdc)⟩ ⟨lj, st, hend⟩
    obtain ⟨⟨dx, ho⟩, hdc⟩ := id ga
    refine ⟨_, rfl, _, rfl, ?_⟩
    refine ite2 (fun cb => ?_) (fun cb => ?_)
    · refine ⟨_, rfl, y, t.C_Goer, dx, _, _, rfl, ho, t.cl_Goer, t.nA_Goer_steps, Goer_get_steps, _, rfl, _, _, rfl, rfl, _, rfl, ?_⟩
      refine ite2 (fun cl => ?_) (fun cl => ?_)
      · have cl : (j : Int) < n := of_decide_eq_true cl
        refine ⟨_, fun _ _ h => h, ?_⟩
        refine ⟨_, rfl, y, dx, _, rfl, ho, Goer_no (by decide +kernel) (by decide +kernel) (by decide +kernel) (by decide +kernel) (by decide +kernel), F1, y, d, m, M, c.r, c.s, c.l, j, row, entOf M c, rfl, g.fh, fy, fd, hm1, ga, ok.r0, er, s0, ee, by omega, fun he H6 g6 => ?_, fun p w r' he H6 g6 gb => ?_⟩
        · exact ⟨2 * (n - j), by rw [cb]; show _ < 2 * (n - j) + 1; omega, F1, j, c, false, rfl, rfl, g.trans g6, fy, fd, s2, ga.gr g6 (fun z => z) (fun z => z), st, lj, fun _ => stepC_none.mpr he⟩
        · have st1 := stepC_go he
          exact ⟨2 * (n - (j + 1)) + 1, by rw [cb]; show _ < 2 * (n - j) + 1; omega, F1, j + 1, ⟨r', c.s + w, put c.l c.s p⟩, true, rfl, rfl, g.thn g6 (fun c z => .inr (by rcases z with rfl | rfl <;> assumption)), fy, fd, s2, gb, (stepsC_next st).trans st1, by omega, fun z => nomatch z⟩
      · have cl : ¬ (j : Int) < n := fun z => cl (decide_eq_true z)
        refine ⟨_, rfl, _, rfl, y, dx, _, rfl, ho, Goer_no (by decide +kernel) (by decide +kernel) (by decide +kernel) (by decide +kernel) (by decide +kernel), F1, y, d, m, M, c.r, c.s, c.l, j, row, entOf M c, rfl, g.fh, hm1, ga, ok.r0, er, s0, ee, fun v hv => ⟨nil_le, fun p np => ?_⟩⟩
        refine eq_dat (a := entOf M c) (b := Ent.emp) (hv.up (g.own np).fh) ⟨p, rfl, upd_same⟩ ⟨two_le, fun u nu => ?_⟩
        exact fin G g ga (.inr (by omega)) p np u nu
    · refine ifF rfl ?_
      have cb : b = false := by cases b with | false => rfl | true => exact absurd rfl cb
      refine ⟨_, rfl, _, rfl, y, dx, _, rfl, ho, Goer_no (by decide +kernel) (by decide +kernel) (by decide +kernel) (by decide +kernel) (by decide +kernel), F1, y, d, m, M, c.r, c.s, c.l, j, row, entOf M c, rfl, g.fh, hm1, ga, ok.r0, er, s0, ee, fun v hv => ⟨nil_le, fun p np => ?_⟩⟩
      refine eq_dat (a := entOf M c) (b := Ent.emp) (hv.up (g.own np).fh) ⟨p, rfl, upd_same⟩ ⟨two_le, fun u nu => ?_⟩
      exact fin G g ga (.inl (hb cb)) p np u nu
def sp_run : Sp := fun vs H Q _ => ∃ (F : Hp) (m : V) (M : Mach) (R S n : Nat), vs = [m, .int n] ∧ Same F H ∧ Is F m M ∧ MOk M R S ∧ n ≤ 5000 ∧
  ∀ (F' H' : Hp) (l u v : Addr) (xs : List V) (k : Nat) (c : Cfg), Gr mu0 F H F' H' → Gone M n k c → Ow H F' H' l (.lst xs) → IsAll F' xs (told c.l) → Ow H F' H' u (.tup [.int c.r, .int c.s, .ref l]) → Ow H F' H' v (.tup [.str (dueOf M n k c).a.x, .int (dueOf M n k c).b, .ref u]) → Q (.ref v) H'
theorem due_c {M : Mach} {n k : Nat} {c : Cfg} : (dueOf M n k c).c = ⟨c.r, c.s, told c.l⟩ := by unfold dueOf; split <;> rfl
theorem run_is {M : Mach} {n k : Nat} {c : Cfg} {F G : Hp} {l u v : Addr} {xs : List V} (s : Same F G) (hl : G l = some (.lst xs)) (al : IsAll F xs (told c.l)) (hu : G u = some (.tup [.int c.r, .int c.s, .ref l])) (hv : G v = some (.tup [.str (dueOf M n k c).a.x, .int (dueOf M n k c).b, .ref u])) : Is G (.ref v) (dueOf M n k c) := by
  refine ⟨v, _, _, _, rfl, hv, rfl, rfl, ?_⟩
  rw [due_c]
  exact ⟨u, _, _, _, rfl, hu, rfl, rfl, l, xs, rfl, hl, al.up s⟩
theorem ok_run (t : Tx K mg) : FnOk P w K mg base CX0 4 t.a_run t.fd_run ["machine", "most"] sp_run := by
  refine t.F_run.ok sc_run (fun vs H Q E h => ?_) (fun cdv A outer s H vs Q E hr h => ?_)
  · obtain ⟨F, m, M, R, S, n, rfl, _⟩ := h
    rfl
  · obtain ⟨F, m, M, R, S, n, rfl, sF, hm, hM, hn, q⟩ := h
    refine ⟨_, (pss_cons (ps_expr (pe_call (ok_must_machine t) (hr.mono (by decide)) (by rfl) t.m_must_machine t.F_must_machine.kp t.b_must_machine .nil pass0 (pa_cons (pv 0) pa_nil)))
      (pss_cons (ps_asg (pe_call (ok_gone t) (hr.mono (by decide)) (by rfl) t.m_gone t.F_gone.kp t.b_gone .nil pass0 (pa_cons (pv 0) (pa_cons (pv 1) pa_nil))) (pg_tup rfl (pgs_cons (pg_name (i := 2) sc_run.nd rfl (by first | exact Or.inl rfl | exact Or.inr rfl)) (pgs_cons (pg_name (i := 3) sc_run.nd rfl (by first | exact Or.inl rfl | exact Or.inr rfl)) pgs_nil))))
      (pss_cons (ps_if (pt_val (pv 3)) (pss_one (ps_ret (pe_tup (pa_cons pe_str (pa_cons (pe_fld (pv 2) rfl) (pa_cons (pe_meth0 (pv 2) t.cl_Goer t.M_Goer_setup (ok_Goer_setup t) (hr.mono (by decide)) t.b_Goer_setup .nil pass0) pa_nil)))))) pss_nil)
      (pss_one (ps_ret (pe_tup (pa_cons pe_str (pa_cons (pv 1) (pa_cons (pe_meth0 (pv 2) t.cl_Goer t.M_Goer_setup (ok_Goer_setup t) (hr.mono (by decide)) t.b_Goer_setup .nil pass0) pa_nil))))))))), ?_⟩
    refine ⟨_, rfl, F, m, M, R, S, rfl, sF, hm, hM, fun H1 g1 => ?_⟩
    refine ⟨_, rfl, _, rfl, F, m, M, R, S, n, rfl, g1.fh, hm, hM, hn, fun F2 H2 w g d k c g2 hw ng nd fg fd ga go => ?_⟩
    have g12 := g1.trans g2
    refine ⟨w, _, rfl, SqT.of (g2.fh _ _ hw), rfl, _, _, rfl, _, _, rfl, rfl, ?_⟩
    obtain ⟨ok, ll⟩ := stepsC_ok hM go.stp
    have gle := go.le
    obtain ⟨⟨dx, ho⟩, hdc⟩ := id ga
    have key : ∀ (x : Str) (i : Int), (dueOf M n k c).a.x = x → (dueOf M n k c).b = i → ∀ (F' H' : Hp) (p u : Addr) (xs : List V), Gr mu0 F2 H2 F' H' → Ow H2 F' H' p (.lst xs) → IsAll F' xs (told c.l) → Ow H2 F' H' u (.tup [.int c.r, .int c.s, .ref p]) → ∀ v, H' v = none → Q (.ref v) (upd H' v (.tup [.str x, .int i, .ref u])) := by
      intro x i ex ei F' H' p u xs g3 w1 al w2 v nv
      have g13 := g12.trans g3
      refine q F' _ p u v xs k c (g13.own nv) go ⟨g12.th _ w1.n, w1.f, ln nv w1.h⟩ al ⟨g12.th _ w2.n, w2.f, ln nv w2.h⟩ ?_
      rw [ex, ei]
      exact Ow.mk1 g13 nv
    by_cases e : entOf M c = Ent.emp
    · refine ⟨_, rfl, _, rfl, ifT (decide_eq_true e) ?_⟩
      refine ⟨_, rfl, g, t.C_Goer, dx, _, _, rfl, ho, t.cl_Goer, t.nA_Goer_steps, Goer_get_steps, _, rfl, g, dx, _, rfl, ho, Goer_no (by decide +kernel) (by decide +kernel) (by decide +kernel) (by decide +kernel) (by decide +kernel), F2, g, d, m, c.r, c.s, c.l, k, rfl, g2.fh, ga, by omega, fun F' H' p u xs g3 w1 al w2 => ⟨three_le, fun v nv => ?_⟩⟩
      exact key tEnds.x k (by unfold dueOf; rw [if_pos e]) (by unfold dueOf; rw [if_pos e]) F' H' p u xs g3 w1 al w2 v nv
    · refine ⟨_, rfl, _, rfl, ifF (decide_eq_false e) ?_⟩
      refine ⟨_, rfl, _, rfl, g, dx, _, rfl, ho, Goer_no (by decide +kernel) (by decide +kernel) (by decide +kernel) (by decide +kernel) (by decide +kernel), F2, g, d, m, c.r, c.s, c.l, k, rfl, g2.fh, ga, by omega, fun F' H' p u xs g3 w1 al w2 => ⟨three_le, fun v nv => ?_⟩⟩
      exact key tOn.x n (by unfold dueOf; rw [if_neg e]) (by unfold dueOf; rw [if_neg e]) F' H' p u xs g3 w1 al w2 v nv
/-! ### all setups of a run -/
theorem get_snoc {α : Type} {xs : List α} {x y : α} {i : Nat} (h : (xs ++ [x])[i]? = some y) : (i < xs.length ∧ xs[i]? = some y) ∨ (i = xs.length ∧ y = x) := by
  by_cases l : i < xs.length
  · rw [List.getElem?_append_left l] at h
    exact .inl ⟨l, h⟩
  · rw [List.getElem?_append_right (by omega)] at h
    cases e : i - xs.length with
    | zero => rw [e] at h; cases h; exact .inr ⟨by omega, rfl⟩
    | succ n => rw [e] at h; cases h
def Hist (M : Mach) (k : Nat) (cs : List Cfg) : Prop := cs.length = k + 1 ∧ ∀ i c, cs[i]? = some c → stepsC M i = some c
theorem Hist.uniq {M : Mach} {k : Nat} {cs cs' : List Cfg} (a : Hist M k cs) (b : Hist M k cs') : cs = cs' := by
  refine List.ext_getElem? fun i => ?_
  by_cases l : i < k + 1
  · have h1 : cs[i]? = some _ := List.getElem?_eq_getElem (by rw [a.1]; exact l)
    have h2 : cs'[i]? = some _ := List.getElem?_eq_getElem (by rw [b.1]; exact l)
    have e1 := a.2 i _ h1
    have e2 := b.2 i _ h2
    rw [e1] at e2
    rw [h1, h2, e2]
  · rw [List.getElem?_eq_none_iff.mpr (by rw [a.1]; omega), List.getElem?_eq_none_iff.mpr (by rw [b.1]; omega)]
theorem Hist.one {M : Mach} : Hist M 0 [c0] := ⟨rfl, fun i c h => by
  cases i with
  | zero => cases h; rfl
  | succ n => cases h⟩
theorem Hist.app {M : Mach} {k : Nat} {cs : List Cfg} {c : Cfg} (h : Hist M k cs) (e : stepsC M (k + 1) = some c) : Hist M (k + 1) (cs ++ [c]) := by
  refine ⟨by rw [List.length_append, h.1]; rfl, fun i b hb => ?_⟩
  rcases get_snoc hb with ⟨_, hb⟩ | ⟨rfl, rfl⟩
  · exact h.2 i b hb
  · rw [h.1]; exact e
theorem Hist.last {M : Mach} {k : Nat} {cs : List Cfg} {c : Cfg} (h : Hist M k cs) (e : stepsC M k = some c) : cs[k]? = some c := by
  have h1 : cs[k]? = some _ := List.getElem?_eq_getElem (by rw [h.1]; omega)
  have e1 := h.2 k _ h1
  rw [e] at e1
  rw [h1, ← e1]
def suOf (c : Cfg) : Setup := ⟨c.r, c.s, told c.l⟩
/-- a told list of setups, of which nothing is anybody else's -/
structure SeO (H F1 H1 : Hp) (D : Addr) (us ps : List Addr) (yss : List (List V)) (cs : List Cfg) : Prop where
  ow : Ow H F1 H1 D (.lst (us.map V.ref))
  l1 : us.length = cs.length
  l2 : ps.length = cs.length
  l3 : yss.length = cs.length
  tup : ∀ (i : Nat) u p c, us[i]? = some u → ps[i]? = some p → cs[i]? = some c → F1 u = some (.tup [.int c.r, .int c.s, .ref p])
  lst : ∀ (i : Nat) p ys, ps[i]? = some p → yss[i]? = some ys → Ow H F1 H1 p (.lst ys)
  dat : ∀ (i : Nat) ys c, yss[i]? = some ys → cs[i]? = some c → IsAll F1 ys (told c.l)
  nd : ps.Nodup
  ne : D ∉ ps
section
variable {mu : Addr → Prop} {H F H1 F1 H2 F2 : Hp} {D : Addr} {us ps : List Addr} {yss : List (List V)} {cs : List Cfg}
theorem SeO.list (x : SeO H F1 H1 D us ps yss cs) {p : Addr} (h : p ∈ ps) : ∃ ys, Ow H F1 H1 p (.lst ys) := by
  obtain ⟨i, hi⟩ := List.getElem?_of_mem h
  have l := (List.getElem?_eq_some_iff.mp hi).1
  exact ⟨_, x.lst i p _ hi (List.getElem?_eq_getElem (by rw [x.l3, ← x.l2]; exact l))⟩
theorem SeO.gr (x : SeO H F1 H1 D us ps yss cs) (g : Gr mu F1 H1 F2 H2) (k : ∀ c, mu c → c ≠ D ∧ c ∉ ps) : SeO H F2 H2 D us ps yss cs where
  ow := x.ow.call g fun z => (k D z).1 rfl
  l1 := x.l1
  l2 := x.l2
  l3 := x.l3
  tup := fun i u p c h1 h2 h3 => g.ff _ _ (x.tup i u p c h1 h2 h3)
  lst := fun i p ys h1 h2 => (x.lst i p ys h1 h2).call g fun z => (k p z).2 (List.mem_of_getElem? h1)
  dat := fun i ys c h1 h2 => (x.dat i ys c h1 h2).up g.ff
  nd := x.nd
  ne := x.ne
theorem SeO.off (x : SeO H F1 H1 D us ps yss cs) {c : Addr} {o : HO} (h : H1 c = some o) (k : ∀ xs, o ≠ .lst xs) : c ≠ D ∧ c ∉ ps := by
  refine ⟨fun z => ?_, fun z => ?_⟩
  · rw [z, x.ow.h] at h; cases h; exact k _ rfl
  · obtain ⟨ys, w⟩ := x.list z
    rw [w.h] at h; cases h; exact k _ rfl
theorem SeO.offn (x : SeO H F1 H1 D us ps yss cs) {c : Addr} (h : H1 c = none) : c ≠ D ∧ c ∉ ps := by
  refine ⟨fun z => ?_, fun z => ?_⟩
  · rw [z, x.ow.h] at h; cases h
  · obtain ⟨ys, w⟩ := x.list z
    rw [w.h] at h; cases h
theorem SeO.app (x : SeO H F1 H1 D us ps yss cs) {u p : Addr} {ys : List V} {c : Cfg} (hu : F1 u = some (.tup [.int c.r, .int c.s, .ref p])) (w : Ow H F1 H1 p (.lst ys)) (k : p ≠ D ∧ p ∉ ps) (al : IsAll F1 ys (told c.l)) :
    SeO H F1 (upd H1 D (.lst ((us ++ [u]).map V.ref))) D (us ++ [u]) (ps ++ [p]) (yss ++ [ys]) (cs ++ [c]) where
  ow := x.ow.set
  l1 := by rw [List.length_append, List.length_append, x.l1]; rfl
  l2 := by rw [List.length_append, List.length_append, x.l2]; rfl
  l3 := by rw [List.length_append, List.length_append, x.l3]; rfl
  tup := fun i u' p' c' h1 h2 h3 => by
    have := x.l1; have := x.l2
    rcases get_snoc h1 with ⟨_, h1⟩ | ⟨e1, rfl⟩
    · rcases get_snoc h2 with ⟨_, h2⟩ | ⟨e2, rfl⟩
      · rcases get_snoc h3 with ⟨_, h3⟩ | ⟨e3, rfl⟩
        · exact x.tup i u' p' c' h1 h2 h3
        · omega
      · omega
    · rcases get_snoc h2 with ⟨_, h2⟩ | ⟨e2, rfl⟩
      · omega
      · rcases get_snoc h3 with ⟨_, h3⟩ | ⟨e3, rfl⟩
        · omega
        · exact hu
  lst := fun i p' ys' h1 h2 => by
    have := x.l2; have := x.l3
    rcases get_snoc h1 with ⟨_, h1⟩ | ⟨e1, rfl⟩
    · rcases get_snoc h2 with ⟨_, h2⟩ | ⟨e2, rfl⟩
      · exact (x.lst i p' ys' h1 h2).other fun z => x.ne (by rw [← z]; exact List.mem_of_getElem? h1)
      · omega
    · rcases get_snoc h2 with ⟨_, h2⟩ | ⟨e2, rfl⟩
      · omega
      · exact w.other k.1
  dat := fun i ys' c' h1 h2 => by
    have := x.l3
    rcases get_snoc h1 with ⟨_, h1⟩ | ⟨e1, rfl⟩
    · rcases get_snoc h2 with ⟨_, h2⟩ | ⟨e2, rfl⟩
      · exact x.dat i ys' c' h1 h2
      · omega
    · rcases get_snoc h2 with ⟨_, h2⟩ | ⟨e2, rfl⟩
      · omega
      · exact al
  nd := nd_snoc x.nd k.2
  ne := fun z => by
    rcases List.mem_append.mp z with z | z
    · exact x.ne z
    · exact k.1 (List.mem_singleton.mp z).symm
theorem SeO.nil (w : Ow H F1 H1 D (.lst [])) : SeO H F1 H1 D [] [] [] [] :=
  ⟨w, rfl, rfl, rfl, (fun i u p c h => by cases h), (fun i p ys h => by cases h), (fun i ys c h => by cases h), List.nodup_nil, fun z => nomatch z⟩
/-- as it is read -/
theorem SeO.is (x : SeO H F1 H1 D us ps yss cs) (s : Same F1 H1) : Is H1 (.ref D) (cs.map suOf) := by
  refine ⟨D, _, rfl, x.ow.h, by rw [List.length_map, List.length_map, x.l1], fun i v d h1 h2 => ?_⟩
  rw [List.getElem?_map] at h1 h2
  cases hu : us[i]? with
  | none => rw [hu] at h1; cases h1
  | some u =>
    cases hc : cs[i]? with
    | none => rw [hc] at h2; cases h2
    | some c =>
      rw [hu] at h1; rw [hc] at h2
      cases h1; cases h2
      have l := (List.getElem?_eq_some_iff.mp hc).1
      have hp : ps[i]? = some _ := List.getElem?_eq_getElem (by rw [x.l2]; exact l)
      have hy : yss[i]? = some _ := List.getElem?_eq_getElem (by rw [x.l3]; exact l)
      exact ⟨u, _, _, _, rfl, s _ _ (x.tup i u _ c hu hp hc), rfl, rfl, _, _, rfl, (x.lst i _ _ hp hy).h, (x.dat i _ c hy hc).up s⟩
end
def sp_setups : Sp := fun vs H Q _ => ∃ (F : Hp) (m : V) (M : Mach) (R S n : Nat), vs = [m, .int n] ∧ Same F H ∧ Is F m M ∧ MOk M R S ∧ n ≤ 5000 ∧
  ∀ (F' H' : Hp) (D : Addr) (us ps : List Addr) (yss : List (List V)) (cs : List Cfg) (k : Nat) (c : Cfg), Gr mu0 F H F' H' → Gone M n k c → Hist M k cs → SeO H F' H' D us ps yss cs → Q (.ref D) H'
theorem ok_setups (t : Tx K mg) : FnOk P w K mg base CX0 4 t.a_setups t.fd_setups ["machine", "most"] sp_setups := by
  refine t.F_setups.ok sc_setups (fun vs H Q E h => ?_) (fun cdv A outer s H vs Q E hr h => ?_)
  · obtain ⟨F, m, M, R, S, n, rfl, _⟩ := h
    rfl
  · obtain ⟨F, m, M, R, S, n, rfl, sF, hm, hM, hn, q⟩ := h
    refine ⟨_, (pss_cons (ps_expr (pe_call (ok_must_machine t) (hr.mono (by decide)) (by rfl) t.m_must_machine t.F_must_machine.kp t.b_must_machine .nil pass0 (pa_cons (pv 0) pa_nil)))
      (pss_cons (ps_set (i := 2) sc_setups.nd rfl (by first | exact Or.inl rfl | exact Or.inr rfl) (pe_make t.M_Goer (ok_Goer_init t) (hr.mono (by decide)) (by rfl) t.m_Goer t.b_Goer_init .nil pass0 (pa_cons (pv 0) (pa_cons (pe_tup (pa_cons pe_int (pa_cons pe_int (pa_cons (pe_lst pa_nil) pa_nil)))) pa_nil))))
      (pss_cons (ps_set (i := 3) sc_setups.nd rfl (by first | exact Or.inl rfl | exact Or.inr rfl) (pe_lst (pa_cons (pe_meth0 (pv 2) t.cl_Goer t.M_Goer_setup (ok_Goer_setup t) (hr.mono (by decide)) t.b_Goer_setup .nil pass0) pa_nil)))
      (pss_cons (ps_while PassesOwn.never (PW.pt (pw_and (pt_cmpR op_lt (pe_fld (pv 2) rfl) (pv 1) (nomark _)) (pw_and1 (pt_val (pe_meth0 (pv 2) t.cl_Goer t.M_Goer_step (ok_Goer_step t) (hr.mono (by decide)) t.b_Goer_step .nil pass0))))) (pss_one (ps_expr (pe_bm PySem.F.plainAttrs_list PySem.F.slot_list_append PySem.F.type_list_append mt_append (pv 3) (pa_cons (pe_meth0 (pv 2) t.cl_Goer t.M_Goer_setup (ok_Goer_setup t) (hr.mono (by decide)) t.b_Goer_setup .nil pass0) pa_nil)))))
      (pss_one (ps_ret (pv 3))))))), ?_⟩
    refine ⟨_, rfl, F, m, M, R, S, rfl, sF, hm, hM, fun Ha ga0 => ?_⟩
    -- walk = Goer(machine, (0, 0, []))
    refine ⟨_, rfl, nil_le, fun l nl => ⟨three_le, fun u nu => ?_⟩⟩
    have g1 := ga0.new (o := .lst []) nl
    have g2 := g1.new (o := .tup [.int 0, .int 0, .ref l]) nu
    have hx : Is (upd (upd F l (.lst [])) u (.tup [.int 0, .int 0, .ref l])) (.ref u) (⟨0, 0, []⟩ : Setup) := ⟨u, _, _, _, rfl, upd_same, rfl, rfl, l, [], rfl, ln (g1.fh.free nu) upd_same, All2.nil⟩
    generalize upd (upd F l (.lst [])) u (.tup [.int 0, .int 0, .ref l]) = F2 at g2 hx
    generalize upd (upd Ha l (.lst [])) u (.tup [.int 0, .int 0, .ref l]) = H2 at g2
    refine fun y dy ny ndy ney => ?_
    have g3 := g2.own (o := .own y) ndy
    have ny2 : (upd H2 dy (.own y)) y = none := by rw [upd_ne ney.symm]; exact ny
    have g4 := g3.own (o := .ins t.C_Goer dy []) ny2
    have hy : H y = none := g2.th _ ny
    have fy : F2 y = none := g2.fh.free ny
    refine ⟨F2, y, dy, m, .ref u, _, rfl, upd_same, fy, g4.fh, hx, fun d H5 nd5 g5 ga => ⟨rfl, ?_⟩⟩
    have g6 := g4.thn g5 fun c z => .inr (by rw [show c = y from z]; exact hy)
    have hd : H d = none := g4.th _ nd5
    have fd : F2 d = none := g4.fh.free nd5
    have hm2 := hm.up g2.ff
    -- found = [walk.setup()]
    obtain ⟨⟨dx, ho⟩, hdc⟩ := id ga
    refine ⟨_, rfl, y, dx, _, rfl, ho, Goer_no (by decide +kernel) (by decide +kernel) (by decide +kernel) (by decide +kernel) (by decide +kernel), F2, y, d, m, 0, 0, [], 0, rfl, g6.fh, ga, Nat.zero_le _, fun F7 H7 p u7 xs g7 wp al wu => ⟨one_le, fun D nD => ?_⟩⟩
    have g67 := g6.trans g7
    have fy7 := g7.pf fy ho
    have fd7 := g7.pf fd hdc
    have ga7 := ga.gr g7 (fun z => z) (fun z => z)
    have pu : p ≠ u7 := ne_of wp.h wu.h (by intro z; cases z)
    have g8 := g67.frz wu.h (g6.th _ wu.n) wu.f
    have wp8 : Ow H (upd F7 u7 (.tup [.int 0, .int 0, .ref p])) H7 p (.lst xs) := ⟨g6.th _ wp.n, by rw [upd_ne pu]; exact wp.f, wp.h⟩
    have s78 : Same F7 (upd F7 u7 (.tup [.int 0, .int 0, .ref p])) := sm_new (Same.refl F7) wu.f
    obtain ⟨⟨dx7, ho7⟩, hdc7⟩ := id ga7
    have yu : y ≠ u7 := ne_of ho7 wu.h (by intro z; cases z)
    have du : d ≠ u7 := ne_of hdc7 wu.h (by intro z; cases z)
    have fu8 : (upd F7 u7 (.tup [.int 0, .int 0, .ref p])) u7 = some (.tup [.int 0, .int 0, .ref p]) := upd_same
    have fy8 : (upd F7 u7 (.tup [.int 0, .int 0, .ref p])) y = none := by rw [upd_ne yu]; exact fy7
    have fd8 : (upd F7 u7 (.tup [.int 0, .int 0, .ref p])) d = none := by rw [upd_ne du]; exact fd7
    have al8 := al.up s78
    have hm8 := (hm2.up g7.ff).up s78
    generalize upd F7 u7 (.tup [.int 0, .int 0, .ref p]) = F8 at g8 wp8 s78 fu8 fy8 fd8 al8 hm8
    have x0 : SeO H F8 (upd (upd H7 D (.lst [])) D (.lst (([] ++ [u7]).map V.ref))) D ([] ++ [u7]) ([] ++ [p]) ([] ++ [xs]) ([] ++ [c0]) := SeO.app (SeO.nil (Ow.mk1 g8 nD)) fu8 (wp8.own nD) ⟨wp8.ne nD, fun z => nomatch z⟩ al8
    have e0 : upd (upd H7 D (.lst [])) D (.lst (([] ++ [u7]).map V.ref)) = upd H7 D (.lst [.ref u7]) := by
      funext c
      by_cases e : c = D
      · rw [e, upd_same, upd_same]; rfl
      · rw [upd_ne e, upd_ne e, upd_ne e]
    rw [e0] at x0
    have g9 := g8.own (o := .lst [.ref u7]) nD
    have ga9 := ga7.gr (mu := mu0) ((Gr.refl g8.fh).own (o := .lst [.ref u7]) nD) (fun z => z) (fun z => z)
    -- while walk.steps < most and walk.step()
    refine ⟨fun k σ G => ∃ (F1 : Hp) (j : Nat) (c : Cfg) (us ps : List Addr) (yss : List (List V)) (cs : List Cfg), k = n - j ∧ σ = [some m, some (.int n), some (.ref y), some (.ref D)] ∧ Gr mu0 F H F1 G ∧ F1 y = none ∧ F1 d = none ∧ Same F8 F1 ∧ GoAt t.C_Goer G y d m c.r c.s c.l j ∧ stepsC M j = some c ∧ j ≤ n ∧ Hist M j cs ∧ SeO H F1 G D us ps yss cs,
      ⟨_, F8, 0, c0, _, _, _, _, rfl, rfl, g9, fy8, fd8, Same.refl _, ga9, rfl, Nat.zero_le _, Hist.one, x0⟩, ?_⟩
    rintro k σ G ⟨F1, j, c, us, ps, yss, cs, rfl, rfl, g, fy, fd, s2, ga, st, lj, hi, x⟩
    obtain ⟨ok, ll⟩ := stepsC_ok hM st
    have hm1 := hm8.up s2
    obtain ⟨row, er, s0, ee, eo⟩ := ok.ent hM
    obtain ⟨⟨dx, ho⟩, hdc⟩ := id ga
    refine ⟨_, rfl, y, t.C_Goer, dx, _, _, rfl, ho, t.cl_Goer, t.nA_Goer_steps, Goer_get_steps, _, rfl, _, _, rfl, rfl, _, rfl, ?_⟩
    refine ite2 (fun cl => ?_) (fun cl => ?_)
    · have cl : (j : Int) < n := of_decide_eq_true cl
      refine ⟨_, rfl, y, dx, _, rfl, ho, Goer_no (by decide +kernel) (by decide +kernel) (by decide +kernel) (by decide +kernel) (by decide +kernel), F1, y, d, m, M, c.r, c.s, c.l, j, row, entOf M c, rfl, g.fh, fy, fd, hm1, ga, ok.r0, er, s0, ee, by omega, fun he H6 g6 => ⟨_, rfl, iteF ?_⟩, fun p w r' he H6 g6 gb => ⟨_, rfl, iteT ?_⟩⟩
      · refine ⟨_, rfl, ?_⟩
        exact q F1 H6 D us ps yss cs j c (g.trans g6) ⟨lj, st, .inl (stepC_none.mpr he)⟩ hi (x.gr g6 fun c z => z.elim)
      · refine ⟨_, fun _ _ h => h, ?_⟩
        have st1 := stepC_go he
        have st2 := (stepsC_next st).trans st1
        have offy := x.off ho (fun xs z => by cases z)
        have offd := x.off hdc (fun xs z => by cases z)
        have x6 := x.gr g6 fun c z => by rcases z with rfl | rfl <;> assumption
        have g16 := g.thn g6 (fun c z => .inr (by rcases z with rfl | rfl <;> assumption))
        obtain ⟨⟨dx6, ho6⟩, hdc6⟩ := id gb
        -- found.append(walk.setup())
        refine ⟨_, rfl, .inl ⟨rfl, _, SqL.of x6.ow.h⟩, _, rfl, y, dx6, _, rfl, ho6, Goer_no (by decide +kernel) (by decide +kernel) (by decide +kernel) (by decide +kernel) (by decide +kernel), F1, y, d, m, r', c.s + w, put c.l c.s p, j + 1, rfl, g16.fh, gb, by have := put_len c.l c.s p; omega, fun F7 H7 p7 u7 xs g7 wp al wu => ?_⟩
        have x7 := x6.gr g7 fun c z => z.elim
        have g17 := g16.trans g7
        have fy7 := g7.pf fy ho6
        have fd7 := g7.pf fd hdc6
        have ga7 := gb.gr g7 (fun z => z) (fun z => z)
        have pu : p7 ≠ u7 := ne_of wp.h wu.h (by intro z; cases z)
        have k8 := (Gr.refl (mu := mu0) g7.fh)
        have nu : H u7 = none := g16.th _ wu.n
        have g8 := g17.frz wu.h nu wu.f
        have wp8 : Ow H (upd F7 u7 (.tup [.int r', .int (c.s + w), .ref p7])) H7 p7 (.lst xs) := ⟨g16.th _ wp.n, by rw [upd_ne pu]; exact wp.f, wp.h⟩
        have s78 : Same F7 (upd F7 u7 (.tup [.int r', .int (c.s + w), .ref p7])) := sm_new (Same.refl F7) wu.f
        have offu := x6.offn wu.n
        have offp := x6.offn wp.n
        obtain ⟨⟨dx7, ho7⟩, hdc7⟩ := id ga7
        have yu : y ≠ u7 := ne_of ho7 wu.h (by intro z; cases z)
        have du : d ≠ u7 := ne_of hdc7 wu.h (by intro z; cases z)
        have x8 : SeO H (upd F7 u7 (.tup [.int r', .int (c.s + w), .ref p7])) H7 D us ps yss cs := by
          refine ⟨⟨x7.ow.n, by rw [upd_ne offu.1.symm]; exact x7.ow.f, x7.ow.h⟩, x7.l1, x7.l2, x7.l3, fun i u p c h1 h2 h3 => s78 _ _ (x7.tup i u p c h1 h2 h3), fun i p ys h1 h2 => ?_, fun i ys c h1 h2 => (x7.dat i ys c h1 h2).up s78, x7.nd, x7.ne⟩
          have w := x7.lst i p ys h1 h2
          exact ⟨w.n, by rw [upd_ne (fun z => offu.2 (by rw [← z]; exact List.mem_of_getElem? h1))]; exact w.f, w.h⟩
        refine ⟨D, _, _, rfl, rfl, x8.ow.h, ?_, ?_⟩
        · rw [List.length_map, x.l1, hi.1]; exact lt_size (by omega)
        · have fu8 : (upd F7 u7 (.tup [.int r', .int (c.s + w), .ref p7])) u7 = some (.tup [.int r', .int (c.s + w), .ref p7]) := upd_same
          have x9 := x8.app (c := ⟨r', c.s + w, put c.l c.s p⟩) fu8 wp8 offp (al.up s78)
          have e9 : us.map V.ref ++ [V.ref u7] = (us ++ [u7]).map V.ref := by rw [List.map_append]; rfl
          rw [e9]
          have g9 := g8.set (o := .lst ((us ++ [u7]).map V.ref)) x8.ow.f (.inl x8.ow.n)
          have nyD : y ≠ D := offy.1
          have ndD : d ≠ D := offd.1
          refine ⟨n - (j + 1), by omega, _, j + 1, ⟨r', c.s + w, put c.l c.s p⟩, _, _, _, _, rfl, rfl, g9, by rw [upd_ne yu]; exact fy7, by rw [upd_ne du]; exact fd7, (fun c o h => s78 _ _ (g7.ff _ _ (s2 _ _ h))), ⟨⟨dx7, (upd_ne nyD).trans ho7⟩, (upd_ne ndD).trans hdc7⟩, st2, by omega, hi.app st2, x9⟩
    · have cl : ¬ (j : Int) < n := fun z => cl (decide_eq_true z)
      refine ifF rfl ⟨_, rfl, ?_⟩
      exact q F1 G D us ps yss cs j c g ⟨lj, st, .inr (by omega)⟩ hi x
/-! ### the stretch -/
def IsLo (cs : List Cfg) (x : Int) : Prop := x ∈ cs.map (·.s) ∧ ∀ y ∈ cs.map (·.s), x ≤ y
def IsHi (cs : List Cfg) (x : Int) : Prop := x ∈ cs.map (·.s) ∧ ∀ y ∈ cs.map (·.s), y ≤ x
theorem IsLo.uniq {cs : List Cfg} {x y : Int} (a : IsLo cs x) (b : IsLo cs y) : x = y := by
  have := a.2 y b.1; have := b.2 x a.1; omega
theorem IsHi.uniq {cs : List Cfg} {x y : Int} (a : IsHi cs x) (b : IsHi cs y) : x = y := by
  have := a.2 y b.1; have := b.2 x a.1; omega
theorem IsLo.one : IsLo [c0] 0 := ⟨List.mem_singleton.mpr rfl, fun y m => by rw [List.mem_singleton.mp m]; exact Int.le_refl _⟩
theorem IsHi.one : IsHi [c0] 0 := ⟨List.mem_singleton.mpr rfl, fun y m => by rw [List.mem_singleton.mp m]; exact Int.le_refl _⟩
theorem IsLo.app {cs : List Cfg} {x : Int} (h : IsLo cs x) (c : Cfg) : IsLo (cs ++ [c]) (if c.s < x then c.s else x) := by
  refine ⟨?_, fun y m => ?_⟩
  · rw [List.map_append]
    split
    · exact List.mem_append_right _ (List.mem_singleton.mpr rfl)
    · exact List.mem_append_left _ h.1
  · rw [List.map_append] at m
    rcases List.mem_append.mp m with m | m
    · have := h.2 y m
      split <;> omega
    · rw [show y = c.s from List.mem_singleton.mp m]
      split <;> omega
theorem IsHi.app {cs : List Cfg} {x : Int} (h : IsHi cs x) (c : Cfg) : IsHi (cs ++ [c]) (if c.s > x then c.s else x) := by
  refine ⟨?_, fun y m => ?_⟩
  · rw [List.map_append]
    split
    · exact List.mem_append_right _ (List.mem_singleton.mpr rfl)
    · exact List.mem_append_left _ h.1
  · rw [List.map_append] at m
    rcases List.mem_append.mp m with m | m
    · have := h.2 y m
      split <;> omega
    · rw [show y = c.s from List.mem_singleton.mp m]
      split <;> omega
def sp_touched : Sp := fun vs H Q _ => ∃ (F : Hp) (m : V) (M : Mach) (R S n : Nat), vs = [m, .int n] ∧ Same F H ∧ Is F m M ∧ MOk M R S ∧ n ≤ 5000 ∧
  ∀ (F' H' : Hp) (u : Addr) (lo hi : Int) (cs : List Cfg) (k : Nat) (c : Cfg), Gr mu0 F H F' H' → Gone M n k c → Hist M k cs → IsLo cs lo → IsHi cs hi → Is F' (.ref u) (⟨lo, hi⟩ : PI) → Q (.ref u) H'
theorem ok_touched (t : Tx K mg) : FnOk P w K mg base CX0 4 t.a_touched t.fd_touched ["machine", "most"] sp_touched := by
  refine t.F_touched.ok sc_touched (fun vs H Q E h => ?_) (fun cdv A outer s H vs Q E hr h => ?_)
  · obtain ⟨F, m, M, R, S, n, rfl, _⟩ := h
    rfl
  · obtain ⟨F, m, M, R, S, n, rfl, sF, hm, hM, hn, q⟩ := h
    refine ⟨_, (pss_cons (ps_expr (pe_call (ok_must_machine t) (hr.mono (by decide)) (by rfl) t.m_must_machine t.F_must_machine.kp t.b_must_machine .nil pass0 (pa_cons (pv 0) pa_nil)))
      (pss_cons (ps_set (i := 2) sc_touched.nd rfl (by first | exact Or.inl rfl | exact Or.inr rfl) (pe_make t.M_Goer (ok_Goer_init t) (hr.mono (by decide)) (by rfl) t.m_Goer t.b_Goer_init .nil pass0 (pa_cons (pv 0) (pa_cons (pe_tup (pa_cons pe_int (pa_cons pe_int (pa_cons (pe_lst pa_nil) pa_nil)))) pa_nil))))
      (pss_cons (ps_set (i := 3) sc_touched.nd rfl (by first | exact Or.inl rfl | exact Or.inr rfl) pe_int)
      (pss_cons (ps_set (i := 4) sc_touched.nd rfl (by first | exact Or.inl rfl | exact Or.inr rfl) pe_int)
      (pss_cons (ps_while PassesOwn.never (PW.pt (pw_and (pt_cmpR op_lt (pe_fld (pv 2) rfl) (pv 1) (nomark _)) (pw_and1 (pt_val (pe_meth0 (pv 2) t.cl_Goer t.M_Goer_step (ok_Goer_step t) (hr.mono (by decide)) t.b_Goer_step .nil pass0))))) (pss_cons (ps_set (i := 3) sc_touched.nd rfl (by first | exact Or.inl rfl | exact Or.inr rfl) (pe_callB (id := "min") (call_min2 rfl) (by rfl) t.n_min (by decide +kernel) (pa_cons (pv 3) (pa_cons (pe_fld (pv 2) rfl) pa_nil))))
      (pss_one (ps_set (i := 4) sc_touched.nd rfl (by first | exact Or.inl rfl | exact Or.inr rfl) (pe_callB (id := "max") (call_max2 rfl) (by rfl) t.n_max (by decide +kernel) (pa_cons (pv 4) (pa_cons (pe_fld (pv 2) rfl) pa_nil)))))))
      (pss_one (ps_ret (pe_tup (pa_cons (pv 3) (pa_cons (pv 4) pa_nil)))))))))), ?_⟩
    refine ⟨_, rfl, F, m, M, R, S, rfl, sF, hm, hM, fun Ha ga0 => ?_⟩
    -- walk = Goer(machine, (0, 0, []))
    refine ⟨_, rfl, nil_le, fun l nl => ⟨three_le, fun u nu => ?_⟩⟩
    have g1 := ga0.new (o := .lst []) nl
    have g2 := g1.new (o := .tup [.int 0, .int 0, .ref l]) nu
    have hx : Is (upd (upd F l (.lst [])) u (.tup [.int 0, .int 0, .ref l])) (.ref u) (⟨0, 0, []⟩ : Setup) := ⟨u, _, _, _, rfl, upd_same, rfl, rfl, l, [], rfl, ln (g1.fh.free nu) upd_same, All2.nil⟩
    generalize upd (upd F l (.lst [])) u (.tup [.int 0, .int 0, .ref l]) = F2 at g2 hx
    generalize upd (upd Ha l (.lst [])) u (.tup [.int 0, .int 0, .ref l]) = H2 at g2
    refine fun y dy ny ndy ney => ?_
    have g3 := g2.own (o := .own y) ndy
    have ny2 : (upd H2 dy (.own y)) y = none := by rw [upd_ne ney.symm]; exact ny
    have g4 := g3.own (o := .ins t.C_Goer dy []) ny2
    have hy : H y = none := g2.th _ ny
    have fy : F2 y = none := g2.fh.free ny
    refine ⟨F2, y, dy, m, .ref u, _, rfl, upd_same, fy, g4.fh, hx, fun d H5 nd5 g5 ga => ⟨rfl, ?_⟩⟩
    have g6 := g4.thn g5 fun c z => .inr (by rw [show c = y from z]; exact hy)
    have hd : H d = none := g4.th _ nd5
    have fd : F2 d = none := g4.fh.free nd5
    have hm2 := hm.up g2.ff
    refine ⟨fun k σ G => ∃ (j : Nat) (c : Cfg) (lo hi : Int) (cs : List Cfg), k = n - j ∧ σ = [some m, some (.int n), some (.ref y), some (.int lo), some (.int hi)] ∧ Gr mu0 F H F2 G ∧ GoAt t.C_Goer G y d m c.r c.s c.l j ∧ stepsC M j = some c ∧ j ≤ n ∧ Hist M j cs ∧ IsLo cs lo ∧ IsHi cs hi,
      ⟨_, 0, c0, 0, 0, _, rfl, rfl, g6, ga, rfl, Nat.zero_le _, Hist.one, IsLo.one, IsHi.one⟩, ?_⟩
    rintro k σ G ⟨j, c, lo, hi, cs, rfl, rfl, g, ga, st, lj, hh, il, ih⟩
    obtain ⟨ok, ll⟩ := stepsC_ok hM st
    obtain ⟨row, er, s0, ee, eo⟩ := ok.ent hM
    obtain ⟨⟨dx, ho⟩, hdc⟩ := id ga
    have fin : ∀ G1, Gr mu0 F H F2 G1 → (stepC M c = none ∨ j = n) → ∀ v, G1 v = none → Q (.ref v) (upd G1 v (.tup [.int lo, .int hi])) := fun G1 g1 e v nv =>
      q _ _ v lo hi cs j c (g1.new nv) ⟨lj, st, e⟩ hh il ih ⟨v, _, _, rfl, upd_same, rfl, rfl⟩
    refine ⟨_, rfl, y, t.C_Goer, dx, _, _, rfl, ho, t.cl_Goer, t.nA_Goer_steps, Goer_get_steps, _, rfl, _, _, rfl, rfl, _, rfl, ?_⟩
    refine ite2 (fun cl => ?_) (fun cl => ?_)
    · have cl : (j : Int) < n := of_decide_eq_true cl
      refine ⟨_, rfl, y, dx, _, rfl, ho, Goer_no (by decide +kernel) (by decide +kernel) (by decide +kernel) (by decide +kernel) (by decide +kernel), F2, y, d, m, M, c.r, c.s, c.l, j, row, entOf M c, rfl, g.fh, fy, fd, hm2, ga, ok.r0, er, s0, ee, by omega, fun he H6 g6 => ⟨_, rfl, iteF ?_⟩, fun p w r' he H6 g6 gb => ⟨_, rfl, iteT ?_⟩⟩
      · exact ⟨_, rfl, _, rfl, two_le, fin H6 (g.trans g6) (.inl (stepC_none.mpr he))⟩
      · refine ⟨_, fun _ _ h => h, ?_⟩
        have st1 := stepC_go he
        have st2 := (stepsC_next st).trans st1
        have g16 := g.thn g6 (fun c z => .inr (by rcases z with rfl | rfl <;> assumption))
        obtain ⟨⟨dx6, ho6⟩, hdc6⟩ := id gb
        refine ⟨_, rfl, _, rfl, y, t.C_Goer, dx6, _, _, rfl, ho6, t.cl_Goer, t.nA_Goer_spot, Goer_get_spot, _, _, rfl, ?_⟩
        refine ⟨_, rfl, _, rfl, y, t.C_Goer, dx6, _, _, rfl, ho6, t.cl_Goer, t.nA_Goer_spot, Goer_get_spot, _, _, rfl, ?_⟩
        exact ⟨n - (j + 1), by omega, j + 1, ⟨r', c.s + w, put c.l c.s p⟩, _, _, _, rfl, rfl, g16, gb, st2, by omega, hh.app st2, il.app _, ih.app _⟩
    · have cl : ¬ (j : Int) < n := fun z => cl (decide_eq_true z)
      exact ifF rfl ⟨_, rfl, _, rfl, two_le, fin G g (.inr (by omega))⟩
theorem upd_comm {H : Hp} {a b : Addr} {u v : HO} (n : a ≠ b) : upd (upd H a u) b v = upd (upd H b v) a u := by
  funext c
  by_cases e1 : c = a
  · subst e1
    rw [upd_ne n, upd_same, upd_same]
  · by_cases e2 : c = b
    · subst e2
      rw [upd_same, upd_ne e1, upd_same]
    · rw [upd_ne e2, upd_ne e1, upd_ne e1, upd_ne e2]
theorem take_none {l : List PI} (h : Nd l) {i : Nat} (hi : i < l.length) : look ((l.take i).filter nz) l[i].a = none := by
  refine look_none.mpr fun m => ?_
  obtain ⟨q, hq, e⟩ := List.mem_map.mp m
  have hq := (List.mem_filter.mp hq).1
  obtain ⟨j, hj⟩ := List.getElem?_of_mem hq
  rw [List.getElem?_take] at hj
  split at hj
  · rename_i lj
    have h1 : (l.map fun p : PI => p.a)[j]? = some l[i].a := by rw [List.getElem?_map, hj, ← e]; rfl
    have h2 : (l.map fun p : PI => p.a)[i]? = some l[i].a := by rw [List.getElem?_map, List.getElem?_eq_getElem hi]; rfl
    have := nd_ix h h1 h2
    omega
  · cases hj
def sp_plain : Sp := fun vs H Q _ => ∃ (F : Hp) (d : Addr) (l : List PI), vs = [.ref d] ∧ Same F H ∧ H d = some (.dK (dI l)) ∧ Nd l ∧ l.length ≤ 100000 ∧
  ∀ (F' H' : Hp) (e : Addr), Gr mu0 F H F' H' → Ow H F' H' e (.dK (dI (l.filter nz))) → Q (.ref e) H'
theorem ok_plain (t : Tx K mg) : FnOk P w K mg base CX0 1 t.a_plain t.fd_plain ["signs"] sp_plain := by
  refine t.F_plain.ok sc_plain (fun vs H Q E h => ?_) (fun cdv A outer s H vs Q E hr h => ?_)
  · obtain ⟨F, d, l, rfl, _⟩ := h
    rfl
  · obtain ⟨F, d, l, rfl, sF, hd, nd, hl, q⟩ := h
    refine ⟨_, (pss_cons (ps_set (i := 1) sc_plain.nd rfl (by first | exact Or.inl rfl | exact Or.inr rfl) pe_dnewK)
      (pss_cons (ps_lock (ps_for PassesOwn.never rfl (pi_keys (pv 0)) (pg_name (i := 2) sc_plain.nd rfl (by first | exact Or.inl rfl | exact Or.inr rfl)) (pss_one (ps_if (pt_cmpR op_ne (pe_dget (hu_of hr) (pv 0) (pv 2) (fun _ _ => rfl)) pe_int (nomark _)) (pss_one (ps_dput (hu_of hr) (pv 1) (pv 2) (pe_dget (hu_of hr) (pv 0) (pv 2) (fun _ _ => rfl)) rfl)) pss_nil))))
      (pss_one (ps_ret (pv 1))))), ?_⟩
    refine fun e ne => ?_
    have de : d ≠ e := ne_of_none hd ne
    have hd1 := ln (u := .dK []) ne hd
    refine ⟨d, _, hd1, trivial, fun od => ?_⟩
    rw [upd_comm de.symm]
    have sL := lock_in (d := d) (o := .frz od (.dK (dI l))) sF
    have neB : (upd H d (.frz od (.dK (dI l)))) e = none := by rw [upd_ne de.symm]; exact ne
    have hdB : (upd H d (.frz od (.dK (dI l)))) d = some (.frz od (.dK (dI l))) := upd_same
    have dl : (dI l).length = l.length := by unfold dI; rw [List.length_map]
    have g0 : Gr mu0 _ (upd H d (.frz od (.dK (dI l)))) _ (upd H d (.frz od (.dK (dI l)))) := Gr.refl sL
    have g1 := g0.own (o := .dK (dI [])) neB
    have w1 : Ow _ _ (upd (upd H d (.frz od (.dK (dI l)))) e (.dK (dI []))) e (.dK (dI [])) := Ow.mk1 g0 neB
    refine ⟨_, rfl, d, od, rfl, .inl ⟨_, ln neB hdB, for_it walk_keys (fun i σ G => ∃ v2 : Option V, σ = [some (.ref d), some (.ref e), v2] ∧ Gr mu0 (fun c => if c = d then none else F c) (upd H d (.frz od (.dK (dI l)))) (fun c => if c = d then none else F c) G ∧ Ow (upd H d (.frz od (.dK (dI l)))) (fun c => if c = d then none else F c) G e (.dK (dI ((l.take i).filter nz)))) ⟨none, rfl, g1, w1⟩ (fun i σ G _ ⟨_, _, g, _⟩ => g.fr _ _ hdB fun z => z) ?_ ?_⟩⟩
    · rintro i x σ G G' hi ⟨v2, rfl, g, w⟩ ⟨rfl, k, v, hk, rfl⟩
      rw [dl] at hi
      rw [dI_get hi] at hk
      cases hk
      have hdG := g.fr _ _ hdB fun z => z
      have dg : DGet G' d (kV (Sum.inl l[i].a)) (some (.int l[i].b)) := .inl ⟨_, Sum.inl l[i].a, .inr ⟨od, hdG⟩, rfl, by rw [dI_val, look_mem nd (List.getElem_mem hi)]; rfl⟩
      refine ⟨_, rfl, _, rfl, d, _, rfl, dg, rfl, _, rfl, ?_⟩
      rw [filter_take_succ hi]
      refine ite2 (fun c => ?_) (fun c => ?_)
      · have c' : nz l[i] = true := by
          refine decide_eq_true fun z => ?_
          rw [z, decide_eq_true rfl] at c
          cases c
        rw [if_pos c']
        refine ⟨_, rfl, _, rfl, d, _, rfl, dg, _, rfl, _, rfl, e, _, rfl, DPut.k (k := Sum.inl l[i].a) w.h ?_, ?_⟩
        · exact size_dI (Nat.le_trans (List.length_filter_le _ _) (by rw [List.length_take]; omega)) (n := 100000) (by decide)
        · rw [dI_put, put_new _ (take_none nd hi)]
          exact ⟨_, rfl, g.set w.f (.inl w.n), w.set⟩
      · have c' : ¬ nz l[i] = true := fun z => by
          refine c ?_
          have z := of_decide_eq_true z
          show (!decide (V.int l[i].b = V.int 0)) = true
          rw [decide_eq_false (fun e => z (V.int.inj e))]; rfl
        rw [if_neg c', List.append_nil]
        exact ⟨_, rfl, g, w⟩
    · rintro σ G ⟨v2, rfl, g, w⟩
      rw [dl, List.take_length] at w
      obtain ⟨h1, h2, h3⟩ := lock_out sF hd g
      refine ⟨h1, _, rfl, ?_⟩
      refine q _ _ e h3 ⟨ne, ?_, (upd_ne de.symm).trans w.h⟩
      have f := w.f
      simp only [de.symm, if_false] at f ⊢
      exact f
/-! ### logs -/
theorem L3_rows {a b c : V} : ([("rows", a), ("places", b), ("strips", c)] : List (Str × V)).lookup ("rows" : Str) = some a := by
  rw [List.lookup_cons, beq_self_eq_true]
theorem L3_places {a b c : V} : ([("rows", a), ("places", b), ("strips", c)] : List (Str × V)).lookup ("places" : Str) = some b := by
  rw [List.lookup_cons, beq_eq_false_iff_ne.mpr ne_Log_places_rows]
  show List.lookup ("places" : Str) [(("places" : Str), b), ("strips", c)] = _
  rw [List.lookup_cons, beq_self_eq_true]
theorem L3_strips {a b c : V} : ([("rows", a), ("places", b), ("strips", c)] : List (Str × V)).lookup ("strips" : Str) = some c := by
  rw [List.lookup_cons, beq_eq_false_iff_ne.mpr ne_Log_strips_rows]
  show List.lookup ("strips" : Str) [(("places" : Str), b), ("strips", c)] = _
  rw [List.lookup_cons, beq_eq_false_iff_ne.mpr ne_Log_strips_places]
  show List.lookup ("strips" : Str) [(("strips" : Str), c)] = _
  rw [List.lookup_cons, beq_self_eq_true]
theorem ZRel.filt {l : List PI} (h : Nd l) : ZRel l (l.filter nz) := by
  refine ⟨h, List.Sublist.nodup (List.Sublist.map _ List.filter_sublist) h, fun q m => of_decide_eq_true (List.mem_filter.mp m).2, fun x => ?_⟩
  have hf : Nd (l.filter nz) := List.Sublist.nodup (List.Sublist.map _ List.filter_sublist) h
  cases e : look (l.filter nz) x with
  | some v =>
    have m := (List.mem_filter.mp (mem_look e)).1
    rw [show look l x = some v from look_mem h m]
  | none =>
    cases f : look l x with
    | none => rfl
    | some v =>
      by_cases z : v = 0
      · rw [z]; rfl
      · have m : (⟨x, v⟩ : PI) ∈ l.filter nz := List.mem_filter.mpr ⟨mem_look f, decide_eq_true z⟩
        rw [show look (l.filter nz) x = some v from look_mem hf m] at e
        cases e
/-- the strips of a log -/
def StripsAt (F : Hp) (ts : List V) (cs : List Cfg) : Prop := All2 (fun v c => ∃ d l', v = .ref d ∧ F d = some (.dK (dI l')) ∧ ZRel c.l l') ts cs
theorem StripsAt.up {F F' : Hp} {ts : List V} {cs : List Cfg} (h : StripsAt F ts cs) (s : Same F F') : StripsAt F' ts cs :=
  h.imp fun v c ⟨d, l', e, h1, h2⟩ => ⟨d, l', e, s _ _ h1, h2⟩
structure LogAt (C : Addr) (F H : Hp) (lg R P T : Addr) (cs : List Cfg) (b : Bool) : Prop where
  ob : ∃ dx, H lg = some (.ins C dx (Log_F (.ref R) (.ref P) (.ref T) (.bl b)))
  rw : F R = some (.lst (cs.map fun c => V.int c.r))
  pl : F P = some (.lst (cs.map fun c => V.int c.s))
  st : ∃ ts, F T = some (.lst ts) ∧ StripsAt F ts cs
def sp_Log_init (C : Addr) : Sp := fun vs H Q _ => ∃ (F : Hp) (g dx : Addr) (m : V) (M : Mach) (R S n : Nat), vs = [.ref g, m, .int n] ∧ H g = some (.ins C dx []) ∧ F g = none ∧ Same F H ∧ Is F m M ∧ MOk M R S ∧ n ≤ 5000 ∧
  ∀ (F' H' : Hp) (Ra Pa Ta : Addr) (k : Nat) (c : Cfg) (cs : List Cfg), Gr (muP g) F H F' H' → F' g = none → Gone M n k c → Hist M k cs → LogAt C F' H' g Ra Pa Ta cs (decide (entOf M c = Ent.emp)) → Q .non H'
theorem ok_Log_init (t : Tx K mg) : FnOk P w K mg base CX0 3 t.a_Log_init t.fd_Log_init ["self", "machine", "most"] (sp_Log_init t.C_Log) := by
  refine t.F_Log_init.ok sc_Log_init (fun vs H Q E h => ?_) (fun cdv A outer s H vs Q E hr h => ?_)
  · obtain ⟨F, g, dx, m, M, R, S, n, rfl, _⟩ := h
    rfl
  · obtain ⟨F, lg, dl, m, M, R, S, n, rfl, hlg, fg, sF, hm, hM, hn, q⟩ := h
    refine ⟨_, (pss_cons (ps_set (i := 3) sc_Log_init.nd rfl (by first | exact Or.inl rfl | exact Or.inr rfl) (pe_make t.M_Goer (ok_Goer_init t) (hr.mono (by decide)) (by rfl) t.m_Goer t.b_Goer_init .nil pass0 (pa_cons (pv 1) (pa_cons (pe_tup (pa_cons pe_int (pa_cons pe_int (pa_cons (pe_lst pa_nil) pa_nil)))) pa_nil))))
      (pss_cons (ps_fld (pv 0) (pe_lst (pa_cons (pe_fld (pv 3) rfl) pa_nil)) rfl)
      (pss_cons (ps_fld (pv 0) (pe_lst (pa_cons (pe_fld (pv 3) rfl) pa_nil)) rfl)
      (pss_cons (ps_fld (pv 0) (pe_lst (pa_cons pe_dnewK pa_nil)) rfl)
      (pss_cons (ps_set (i := 4) sc_Log_init.nd rfl (by first | exact Or.inl rfl | exact Or.inr rfl) pe_bl)
      (pss_cons (ps_while PassesOwn.never (PW.pt (pw_and (pt_val (pv 4)) (pw_and1 (pt_cmpR op_lt (pe_fld (pv 3) rfl) (pv 2) (nomark _))))) (pss_cons (ps_set (i := 4) sc_Log_init.nd rfl (by first | exact Or.inl rfl | exact Or.inr rfl) (pe_meth0 (pv 3) t.cl_Goer t.M_Goer_step (ok_Goer_step t) (hr.mono (by decide)) t.b_Goer_step .nil pass0))
      (pss_one (ps_if (pt_val (pv 4)) (pss_cons (ps_expr (pe_bm PySem.F.plainAttrs_list PySem.F.slot_list_append PySem.F.type_list_append mt_append (pe_fld (pv 0) rfl) (pa_cons (pe_fld (pv 3) rfl) pa_nil)))
      (pss_cons (ps_expr (pe_bm PySem.F.plainAttrs_list PySem.F.slot_list_append PySem.F.type_list_append mt_append (pe_fld (pv 0) rfl) (pa_cons (pe_fld (pv 3) rfl) pa_nil)))
      (pss_one (ps_expr (pe_bm PySem.F.plainAttrs_list PySem.F.slot_list_append PySem.F.type_list_append mt_append (pe_fld (pv 0) rfl) (pa_cons (pe_call (ok_plain t) (hr.mono (by decide)) (by rfl) t.m_plain t.F_plain.kp t.b_plain .nil pass0 (pa_cons (pe_fld (pv 3) rfl) pa_nil)) pa_nil)))))) pss_nil))))
      (pss_one (ps_fld (pv 0) (pe_cmpR (op_eqD hr.units) (pe_meth0 (pv 3) t.cl_Goer t.M_Goer_entry (ok_Goer_entry t) (hr.mono (by decide)) t.b_Goer_entry .nil pass0) (pe_tup pa_nil) (nomark _)) rfl)))))))), ?_⟩
    have g0 : Gr (muP lg) F H F H := Gr.refl sF
    -- walk = Goer(machine, (0, 0, []))
    refine ⟨_, rfl, nil_le, fun l nl => ⟨three_le, fun u nu => ?_⟩⟩
    have g1 := g0.new (o := .lst []) nl
    have g2 := g1.new (o := .tup [.int 0, .int 0, .ref l]) nu
    have hx : Is (upd (upd F l (.lst [])) u (.tup [.int 0, .int 0, .ref l])) (.ref u) (⟨0, 0, []⟩ : Setup) := ⟨u, _, _, _, rfl, upd_same, rfl, rfl, l, [], rfl, ln (g1.fh.free nu) upd_same, All2.nil⟩
    have hlg2 := ln (u := .tup [.int 0, .int 0, .ref l]) nu (ln (u := .lst []) nl hlg)
    have fg2 := g2.pf fg hlg
    generalize upd (upd F l (.lst [])) u (.tup [.int 0, .int 0, .ref l]) = F2 at g2 hx fg2
    generalize upd (upd H l (.lst [])) u (.tup [.int 0, .int 0, .ref l]) = H2 at g2 hlg2
    refine fun y dy ny ndy ney => ?_
    have g3 := g2.own (o := .own y) ndy
    have ny2 : (upd H2 dy (.own y)) y = none := by rw [upd_ne ney.symm]; exact ny
    have g4 := g3.own (o := .ins t.C_Goer dy []) ny2
    have hlg4 := ln (u := .ins t.C_Goer dy []) ny2 (ln (u := .own y) ndy hlg2)
    have hy : H y = none := g2.th _ ny
    have fy : F2 y = none := g2.fh.free ny
    have lgy : lg ≠ y := fun z => by rw [z, hy] at hlg; cases hlg
    refine ⟨F2, y, dy, m, .ref u, _, rfl, upd_same, fy, g4.fh, hx, fun d H5 nd5 g5 ga => ⟨rfl, ?_⟩⟩
    have g6 := g4.thn g5 fun c z => .inr (by rw [show c = y from z]; exact hy)
    have hlg6 := g5.fr _ _ hlg4 lgy
    have hd : H d = none := g4.th _ nd5
    have fd : F2 d = none := g4.fh.free nd5
    have hm2 := hm.up g2.ff
    have lgd : lg ≠ d := fun z => by rw [z, hd] at hlg; cases hlg
    -- self.rows = [walk.row]
    obtain ⟨⟨dx, ho⟩, hdc⟩ := id ga
    refine ⟨_, rfl, y, t.C_Goer, dx, _, _, rfl, ho, t.cl_Goer, t.nA_Goer_row, Goer_get_row, one_le, fun Ra nRa => ⟨_, rfl, lg, t.C_Log, dl, [], rfl, ln nRa hlg6, t.cl_Log, t.nA_Log_rows, by show 0 < 1000; decide, ?_⟩⟩
    rw [Log_mk0]
    have g7 := (g6.own (o := .lst [.int 0]) nRa).set (o := .ins t.C_Log dl [("rows", .ref Ra)]) fg2 (.inr rfl)
    have wR : Ow H F2 (upd H5 Ra (.lst [.int 0])) Ra (.lst [.int 0]) := Ow.mk1 g6 nRa
    have lgR : lg ≠ Ra := ne_of_none hlg6 nRa
    have wR := wR.other (u := .ins t.C_Log dl [("rows", .ref Ra)]) lgR.symm
    have ga7 : GoAt t.C_Goer _ y d m 0 0 [] 0 := ⟨⟨dx, (upd_ne (o := .ins t.C_Log dl [("rows", .ref Ra)]) lgy.symm).trans (ln (u := .lst [.int 0]) nRa ho)⟩, (upd_ne lgd.symm).trans (ln nRa hdc)⟩
    have hlg7 : (upd (upd H5 Ra (.lst [.int 0])) lg (.ins t.C_Log dl [("rows", .ref Ra)])) lg = some (.ins t.C_Log dl [("rows", .ref Ra)]) := upd_same
    generalize upd (upd H5 Ra (.lst [.int 0])) lg (.ins t.C_Log dl [("rows", .ref Ra)]) = H7 at g7 wR ga7 hlg7
    obtain ⟨⟨dx7, ho7⟩, hdc7⟩ := id ga7
    -- self.places = [walk.spot]
    refine ⟨_, rfl, y, t.C_Goer, dx7, _, _, rfl, ho7, t.cl_Goer, t.nA_Goer_spot, Goer_get_spot, one_le, fun Pa nPa => ⟨_, rfl, lg, t.C_Log, dl, _, rfl, ln nPa hlg7, t.cl_Log, t.nA_Log_places, by show 1 < 1000; decide, ?_⟩⟩
    rw [Log_mk1]
    have g8 := (g7.own (o := .lst [.int 0]) nPa).set (o := .ins t.C_Log dl [("rows", .ref Ra), ("places", .ref Pa)]) fg2 (.inr rfl)
    have wP : Ow H F2 (upd H7 Pa (.lst [.int 0])) Pa (.lst [.int 0]) := Ow.mk1 g7 nPa
    have lgP : lg ≠ Pa := ne_of_none hlg7 nPa
    have RP : Ra ≠ Pa := wR.ne nPa
    have wP := wP.other (u := .ins t.C_Log dl [("rows", .ref Ra), ("places", .ref Pa)]) lgP.symm
    have wR := (wR.own (u := .lst [.int 0]) nPa).other (u := .ins t.C_Log dl [("rows", .ref Ra), ("places", .ref Pa)]) lgR.symm
    have ga8 : GoAt t.C_Goer _ y d m 0 0 [] 0 := ⟨⟨dx7, (upd_ne (o := .ins t.C_Log dl [("rows", .ref Ra), ("places", .ref Pa)]) lgy.symm).trans (ln (u := .lst [.int 0]) nPa ho7)⟩, (upd_ne lgd.symm).trans (ln nPa hdc7)⟩
    have hlg8 : (upd (upd H7 Pa (.lst [.int 0])) lg (.ins t.C_Log dl [("rows", .ref Ra), ("places", .ref Pa)])) lg = some (.ins t.C_Log dl [("rows", .ref Ra), ("places", .ref Pa)]) := upd_same
    generalize upd (upd H7 Pa (.lst [.int 0])) lg (.ins t.C_Log dl [("rows", .ref Ra), ("places", .ref Pa)]) = H8 at g8 wR wP ga8 hlg8
    -- self.strips = [{}]
    refine fun e0 ne0 => ⟨one_le, fun Ta nTa => ⟨_, rfl, lg, t.C_Log, dl, _, rfl, ln nTa (ln ne0 hlg8), t.cl_Log, t.nA_Log_strips, by show 2 < 1000; decide, ?_⟩⟩
    rw [Log_mk2]
    have g9 := g8.new (o := .dK []) ne0
    have lgT : lg ≠ Ta := ne_of_none (ln (u := .dK []) ne0 hlg8) nTa
    have wT : Ow H _ _ Ta (.lst [.ref e0]) := Ow.mk1 g9 nTa
    have RT : Ra ≠ Ta := (wR.new (u := .dK []) ne0).ne nTa
    have PT : Pa ≠ Ta := (wP.new (u := .dK []) ne0).ne nTa
    have g10 := (g9.own (o := .lst [.ref e0]) nTa).set (o := .ins t.C_Log dl [("rows", .ref Ra), ("places", .ref Pa), ("strips", .ref Ta)]) (by rw [upd_ne (ne_of_none hlg8 ne0)]; exact fg2) (.inr rfl)
    have wT := wT.other (u := .ins t.C_Log dl [("rows", .ref Ra), ("places", .ref Pa), ("strips", .ref Ta)]) lgT.symm
    have wR := ((wR.new (u := .dK []) ne0).own (u := .lst [.ref e0]) nTa).other (u := .ins t.C_Log dl [("rows", .ref Ra), ("places", .ref Pa), ("strips", .ref Ta)]) lgR.symm
    have wP := ((wP.new (u := .dK []) ne0).own (u := .lst [.ref e0]) nTa).other (u := .ins t.C_Log dl [("rows", .ref Ra), ("places", .ref Pa), ("strips", .ref Ta)]) lgP.symm
    obtain ⟨⟨dx8, ho8⟩, hdc8⟩ := id ga8
    have ga10 : GoAt t.C_Goer _ y d m 0 0 [] 0 := ⟨⟨dx8, (upd_ne (o := .ins t.C_Log dl [("rows", .ref Ra), ("places", .ref Pa), ("strips", .ref Ta)]) lgy.symm).trans (ln (u := .lst [.ref e0]) nTa (ln (u := .dK []) ne0 ho8))⟩, (upd_ne lgd.symm).trans (ln nTa (ln ne0 hdc8))⟩
    have hlg10 : (upd (upd (upd H8 e0 (.dK [])) Ta (.lst [.ref e0])) lg (.ins t.C_Log dl [("rows", .ref Ra), ("places", .ref Pa), ("strips", .ref Ta)])) lg = some (.ins t.C_Log dl [("rows", .ref Ra), ("places", .ref Pa), ("strips", .ref Ta)]) := upd_same
    have s2 : Same F2 (upd F2 e0 (.dK [])) := sm_new (Same.refl F2) (g8.fh.free ne0)
    have st0 : StripsAt (upd F2 e0 (.dK [])) [.ref e0] [c0] := All2.one ⟨e0, [], rfl, upd_same, ZRel.nil⟩
    have fy10 : (upd F2 e0 (.dK [])) y = none := by rw [upd_ne (ne_of_none ho8 ne0)]; exact fy
    have fd10 : (upd F2 e0 (.dK [])) d = none := by rw [upd_ne (ne_of_none hdc8 ne0)]; exact fd
    have fg10 : (upd F2 e0 (.dK [])) lg = none := by rw [upd_ne (ne_of_none hlg8 ne0)]; exact fg2
    generalize upd F2 e0 (.dK []) = F3 at g10 wT wR wP s2 st0 fy10 fd10 fg10
    generalize upd (upd (upd H8 e0 (.dK [])) Ta (.lst [.ref e0])) lg (.ins t.C_Log dl [("rows", .ref Ra), ("places", .ref Pa), ("strips", .ref Ta)]) = H10 at g10 wT wR wP ga10 hlg10
    -- while going and walk.steps < most
    refine ⟨fun k σ G => ∃ (F1 : Hp) (j : Nat) (c : Cfg) (b : Bool) (cs : List Cfg) (ts : List V), k = 2 * (n - j) + b.toNat ∧ σ = [some (.ref lg), some m, some (.int n), some (.ref y), some (.bl b)] ∧ Gr (muP lg) F H F1 G ∧ F1 lg = none ∧ F1 y = none ∧ F1 d = none ∧ Same F3 F1 ∧ G lg = some (.ins t.C_Log dl [("rows", .ref Ra), ("places", .ref Pa), ("strips", .ref Ta)]) ∧ GoAt t.C_Goer G y d m c.r c.s c.l j ∧ stepsC M j = some c ∧ j ≤ n ∧ (b = false → stepC M c = none) ∧ Hist M j cs ∧
        Ow H F1 G Ra (.lst (cs.map fun c => V.int c.r)) ∧ Ow H F1 G Pa (.lst (cs.map fun c => V.int c.s)) ∧ Ow H F1 G Ta (.lst ts) ∧ StripsAt F1 ts cs,
      ⟨_, F3, 0, c0, true, [c0], _, rfl, rfl, g10, fg10, fy10, fd10, Same.refl _, hlg10, ga10, rfl, Nat.zero_le _, (fun z => nomatch z), Hist.one, wR, wP, wT, st0⟩, ?_⟩
    rintro k σ G ⟨F1, j, c, b, cs, ts, rfl, rfl, g, fg, fy, fd, s3, hlg, ga, st, lj, hb, hh, wR, wP, wT, sa⟩
    obtain ⟨ok, ll⟩ := stepsC_ok hM st
    have hm1 := (hm2.up s2).up s3
    obtain ⟨row, er, s0, ee, eo⟩ := ok.ent hM
    obtain ⟨⟨dx, ho⟩, hdc⟩ := id ga
    have yR : Ra ≠ y := ne_of wR.h ho (by intro z; cases z)
    have yP : Pa ≠ y := ne_of wP.h ho (by intro z; cases z)
    have yT : Ta ≠ y := ne_of wT.h ho (by intro z; cases z)
    have dR : Ra ≠ d := ne_of wR.h hdc (by intro z; cases z)
    have dP : Pa ≠ d := ne_of wP.h hdc (by intro z; cases z)
    have dT : Ta ≠ d := ne_of wT.h hdc (by intro z; cases z)
    have lcs := hh.1
    have lts : ts.length = cs.length := sa.1
    -- what comes behind the loop
    have fin : ∀ G1, Gr mu0 F1 G F1 G1 → (stepC M c = none ∨ j = n) → ∀ H2 : Hp, H2 = upd G1 lg (.ins t.C_Log dl (Log_F (.ref Ra) (.ref Pa) (.ref Ta) (.bl (decide (entOf M c = Ent.emp))))) → Q .non H2 := by
      intro G1 k1 hend H2 eH
      have wR1 := wR.call k1 fun z => z
      have wP1 := wP.call k1 fun z => z
      have wT1 := wT.call k1 fun z => z
      have g1 := (g.trans (k1.weak (mu' := muP lg) fun c z => z.elim)).set (o := .ins t.C_Log dl (Log_F (.ref Ra) (.ref Pa) (.ref Ta) (.bl (decide (entOf M c = Ent.emp))))) fg (.inr rfl)
      obtain ⟨gz, sz⟩ := g1.frzS (fun c => c = Ra ∨ c = Pa ∨ c = Ta) fun c k => by
        rcases k with rfl | rfl | rfl
        · exact ⟨wR1.n, wR1.f⟩
        · exact ⟨wP1.n, wP1.f⟩
        · exact ⟨wT1.n, wT1.f⟩
      subst eH
      refine q _ _ Ra Pa Ta j c cs gz ?_ ⟨lj, st, hend⟩ hh ⟨⟨dl, upd_same⟩, (if_pos (.inl rfl)).trans ((upd_ne lgR.symm).trans wR1.h), (if_pos (.inr (.inl rfl))).trans ((upd_ne lgP.symm).trans wP1.h), ts, (if_pos (.inr (.inr rfl))).trans ((upd_ne lgT.symm).trans wT1.h), sa.up sz⟩
      exact (if_neg (fun z => by rcases z with z | z | z; exact lgR z; exact lgP z; exact lgT z)).trans fg
    refine ⟨_, rfl, _, rfl, ?_⟩
    refine ite2 (fun cb => ?_) (fun cb => ?_)
    · refine ⟨_, rfl, y, t.C_Goer, dx, _, _, rfl, ho, t.cl_Goer, t.nA_Goer_steps, Goer_get_steps, _, rfl, _, _, rfl, rfl, _, rfl, ?_⟩
      refine ite2 (fun cl => ?_) (fun cl => ?_)
      · have cl : (j : Int) < n := of_decide_eq_true cl
        refine ⟨_, fun _ _ h => h, ?_⟩
        refine ⟨_, rfl, y, dx, _, rfl, ho, Goer_no (by decide +kernel) (by decide +kernel) (by decide +kernel) (by decide +kernel) (by decide +kernel), F1, y, d, m, M, c.r, c.s, c.l, j, row, entOf M c, rfl, g.fh, fy, fd, hm1, ga, ok.r0, er, s0, ee, by omega, fun he H6 g6 => ?_, fun p w r' he H6 g6 gb => ?_⟩
        · refine ⟨_, rfl, _, rfl, ifF rfl ?_⟩
          exact ⟨2 * (n - j), by rw [cb]; show _ < 2 * (n - j) + 1; omega, F1, j, c, false, cs, ts, rfl, rfl, g.trans (g6.weak (mu' := muP lg) fun c z => z.elim), fg, fy, fd, s3, g6.fr _ _ hlg fun z => z, ga.gr g6 (fun z => z) (fun z => z), st, lj, (fun _ => stepC_none.mpr he), hh, wR.call g6 fun z => z, wP.call g6 fun z => z, wT.call g6 fun z => z, sa⟩
        · have st1 := stepC_go he
          have st2 := (stepsC_next st).trans st1
          have ok2 := ok.step hM st1
          have gg := g.thn g6 (fun c z => .inr (by rcases z with rfl | rfl <;> assumption))
          have hlgA := g6.fr _ _ hlg (fun z => by rcases z with z | z; exact lgy z; exact lgd z)
          have wR1 := wR.call g6 (fun z => by rcases z with z | z; exact yR z; exact dR z)
          have wP1 := wP.call g6 (fun z => by rcases z with z | z; exact yP z; exact dP z)
          have wT1 := wT.call g6 (fun z => by rcases z with z | z; exact yT z; exact dT z)
          obtain ⟨⟨dxb, hob⟩, hdb⟩ := id gb
          refine ⟨_, rfl, _, rfl, ifT rfl ?_⟩
          -- self.rows.append(walk.row)
          refine ⟨_, rfl, lg, t.C_Log, dl, _, _, rfl, hlgA, t.cl_Log, t.nA_Log_rows, L3_rows, .inl ⟨rfl, _, SqL.of wR1.h⟩, _, rfl, y, t.C_Goer, dxb, _, _, rfl, hob, t.cl_Goer, t.nA_Goer_row, Goer_get_row, Ra, _, _, rfl, rfl, wR1.h, by rw [List.length_map]; exact lt_size (by omega), ?_⟩
          have lR : (cs.map fun c => V.int c.r) ++ [V.int r'] = (cs ++ [(⟨r', c.s + w, put c.l c.s p⟩ : Cfg)]).map fun c => V.int c.r := by rw [List.map_append]; rfl
          have lP : (cs.map fun c => V.int c.s) ++ [V.int (c.s + w)] = (cs ++ [(⟨r', c.s + w, put c.l c.s p⟩ : Cfg)]).map fun c => V.int c.s := by rw [List.map_append]; rfl
          rw [lR]
          have gA := gg.set (o := .lst ((cs ++ [(⟨r', c.s + w, put c.l c.s p⟩ : Cfg)]).map fun c => V.int c.r)) wR1.f (.inl wR1.n)
          have wR2 := wR1.set (u := .lst ((cs ++ [(⟨r', c.s + w, put c.l c.s p⟩ : Cfg)]).map fun c => V.int c.r))
          have wP2 := wP1.other (u := .lst ((cs ++ [(⟨r', c.s + w, put c.l c.s p⟩ : Cfg)]).map fun c => V.int c.r)) RP.symm
          have wT2 := wT1.other (u := .lst ((cs ++ [(⟨r', c.s + w, put c.l c.s p⟩ : Cfg)]).map fun c => V.int c.r)) RT.symm
          have hlgB := (upd_ne (o := .lst ((cs ++ [(⟨r', c.s + w, put c.l c.s p⟩ : Cfg)]).map fun c => V.int c.r)) lgR).trans hlgA
          have gb2 : GoAt t.C_Goer _ y d m r' (c.s + w) (put c.l c.s p) (j + 1) := ⟨⟨dxb, (upd_ne (o := .lst ((cs ++ [(⟨r', c.s + w, put c.l c.s p⟩ : Cfg)]).map fun c => V.int c.r)) yR.symm).trans hob⟩, (upd_ne dR.symm).trans hdb⟩
          generalize upd H6 Ra (.lst ((cs ++ [(⟨r', c.s + w, put c.l c.s p⟩ : Cfg)]).map fun c => V.int c.r)) = H7 at gA wR2 wP2 wT2 hlgB gb2
          obtain ⟨⟨dxc, hoc⟩, hdc'⟩ := id gb2
          -- self.places.append(walk.spot)
          refine ⟨_, rfl, lg, t.C_Log, dl, _, _, rfl, hlgB, t.cl_Log, t.nA_Log_places, L3_places, .inl ⟨rfl, _, SqL.of wP2.h⟩, _, rfl, y, t.C_Goer, dxc, _, _, rfl, hoc, t.cl_Goer, t.nA_Goer_spot, Goer_get_spot, Pa, _, _, rfl, rfl, wP2.h, by rw [List.length_map]; exact lt_size (by omega), ?_⟩
          rw [lP]
          have gB := gA.set (o := .lst ((cs ++ [(⟨r', c.s + w, put c.l c.s p⟩ : Cfg)]).map fun c => V.int c.s)) wP2.f (.inl wP2.n)
          have wP3 := wP2.set (u := .lst ((cs ++ [(⟨r', c.s + w, put c.l c.s p⟩ : Cfg)]).map fun c => V.int c.s))
          have wR3 := wR2.other (u := .lst ((cs ++ [(⟨r', c.s + w, put c.l c.s p⟩ : Cfg)]).map fun c => V.int c.s)) RP
          have wT3 := wT2.other (u := .lst ((cs ++ [(⟨r', c.s + w, put c.l c.s p⟩ : Cfg)]).map fun c => V.int c.s)) PT.symm
          have hlgC := (upd_ne (o := .lst ((cs ++ [(⟨r', c.s + w, put c.l c.s p⟩ : Cfg)]).map fun c => V.int c.s)) lgP).trans hlgB
          have gb3 : GoAt t.C_Goer _ y d m r' (c.s + w) (put c.l c.s p) (j + 1) := ⟨⟨dxc, (upd_ne (o := .lst ((cs ++ [(⟨r', c.s + w, put c.l c.s p⟩ : Cfg)]).map fun c => V.int c.s)) yP.symm).trans hoc⟩, (upd_ne dP.symm).trans hdc'⟩
          generalize upd H7 Pa (.lst ((cs ++ [(⟨r', c.s + w, put c.l c.s p⟩ : Cfg)]).map fun c => V.int c.s)) = H8 at gB wR3 wP3 wT3 hlgC gb3
          obtain ⟨⟨dxd, hod⟩, hdd⟩ := id gb3
          -- self.strips.append(plain(walk.signs))
          refine ⟨_, rfl, lg, t.C_Log, dl, _, _, rfl, hlgC, t.cl_Log, t.nA_Log_strips, L3_strips, .inl ⟨rfl, _, SqL.of wT3.h⟩, _, rfl, y, t.C_Goer, dxd, _, _, rfl, hod, t.cl_Goer, t.nA_Goer_signs, Goer_get_signs, ?_⟩
          refine ⟨F1, d, put c.l c.s p, rfl, gB.fh, hdd, ok2.nd, by have := put_len c.l c.s p; omega, fun F9 H9 e g9 we => ?_⟩
          have wT4 := wT3.call g9 fun z => z
          have wR4 := wR3.call g9 fun z => z
          have wP4 := wP3.call g9 fun z => z
          have gC := gB.trans (g9.weak (mu' := muP lg) fun c z => z.elim)
          have eT : Ta ≠ e := ne_of wT4.h we.h (by intro z; cases z)
          have eR : Ra ≠ e := ne_of wR4.h we.h (by intro z; cases z)
          have eP : Pa ≠ e := ne_of wP4.h we.h (by intro z; cases z)
          have nye := g9.fr _ _ hod fun z => z
          have nde := g9.fr _ _ hdd fun z => z
          have nlge := g9.fr _ _ hlgC fun z => z
          have nyE : y ≠ e := ne_of nye we.h (by intro z; cases z)
          have ndE : d ≠ e := ne_of_none hdd we.n
          have nlgE : lg ≠ e := ne_of nlge we.h (by intro z; cases z)
          have gD := gC.frz we.h (gB.th _ we.n) we.f
          have s9 : Same F9 (upd F9 e (.dK (dI ((put c.l c.s p).filter nz)))) := sm_new (Same.refl F9) we.f
          have up : ∀ {q : Addr} {o : HO}, q ≠ e → Ow H F9 H9 q o → Ow H (upd F9 e (.dK (dI ((put c.l c.s p).filter nz)))) H9 q o := fun ne w => ⟨w.n, by rw [upd_ne ne]; exact w.f, w.h⟩
          have wT5 := up eT wT4
          have wR5 := up eR wR4
          have wP5 := up eP wP4
          have fe : (upd F9 e (.dK (dI ((put c.l c.s p).filter nz)))) e = some (.dK (dI ((put c.l c.s p).filter nz))) := upd_same
          have fy9 : (upd F9 e (.dK (dI ((put c.l c.s p).filter nz)))) y = none := by rw [upd_ne nyE]; exact g9.pf fy hod
          have fd9 : (upd F9 e (.dK (dI ((put c.l c.s p).filter nz)))) d = none := by rw [upd_ne ndE]; exact g9.pf fd hdd
          have fg9 : (upd F9 e (.dK (dI ((put c.l c.s p).filter nz)))) lg = none := by rw [upd_ne nlgE]; exact g9.pf fg hlgC
          have sa9 := (sa.up g9.ff).up s9
          have s39 : Same F3 (upd F9 e (.dK (dI ((put c.l c.s p).filter nz)))) := fun c o h => s9 _ _ (g9.ff _ _ (s3 _ _ h))
          generalize upd F9 e (.dK (dI ((put c.l c.s p).filter nz))) = Fe at gD wT5 wR5 wP5 fe fy9 fd9 fg9 sa9 s39
          refine ⟨Ta, _, _, rfl, rfl, wT5.h, lt_size (by omega), ?_⟩
          have gE := gD.set (o := .lst (ts ++ [.ref e])) wT5.f (.inl wT5.n)
          exact ⟨2 * (n - (j + 1)) + 1, by rw [cb]; show _ < 2 * (n - j) + 1; omega, Fe, j + 1, ⟨r', c.s + w, put c.l c.s p⟩, true, cs ++ [⟨r', c.s + w, put c.l c.s p⟩], ts ++ [.ref e], rfl, rfl, gE, fg9, fy9, fd9, s39, (upd_ne lgT).trans nlge, ⟨⟨dxd, (upd_ne yT.symm).trans nye⟩, (upd_ne dT.symm).trans nde⟩, st2, by omega, (fun z => nomatch z), hh.app st2, wR5.other RT, wP5.other PT, wT5.set, sa9.app (All2.one ⟨e, _, rfl, fe, ZRel.filt ok2.nd⟩)⟩
      · have cl : ¬ (j : Int) < n := fun z => cl (decide_eq_true z)
        refine ⟨_, rfl, y, dx, _, rfl, ho, Goer_no (by decide +kernel) (by decide +kernel) (by decide +kernel) (by decide +kernel) (by decide +kernel), F1, y, d, m, M, c.r, c.s, c.l, j, row, entOf M c, rfl, g.fh, hm1, ga, ok.r0, er, s0, ee, fun v hv => ⟨nil_le, fun p np => ?_⟩⟩
        refine eq_dat (a := entOf M c) (b := Ent.emp) (hv.up (g.own np).fh) ⟨p, rfl, upd_same⟩ ⟨_, rfl, lg, t.C_Log, dl, _, rfl, ln np hlg, t.cl_Log, t.nA_Log_has_ended, by show 3 < 1000; decide, ?_⟩
        rw [Log_mk3]
        exact fin _ ((Gr.refl (mu := mu0) g.fh).own np) (.inr (by omega)) _ rfl
    · refine ifF rfl ?_
      have cb : b = false := by cases b with | false => rfl | true => exact absurd rfl cb
      refine ⟨_, rfl, y, dx, _, rfl, ho, Goer_no (by decide +kernel) (by decide +kernel) (by decide +kernel) (by decide +kernel) (by decide +kernel), F1, y, d, m, M, c.r, c.s, c.l, j, row, entOf M c, rfl, g.fh, hm1, ga, ok.r0, er, s0, ee, fun v hv => ⟨nil_le, fun p np => ?_⟩⟩
      refine eq_dat (a := entOf M c) (b := Ent.emp) (hv.up (g.own np).fh) ⟨p, rfl, upd_same⟩ ⟨_, rfl, lg, t.C_Log, dl, _, rfl, ln np hlg, t.cl_Log, t.nA_Log_has_ended, by show 3 < 1000; decide, ?_⟩
      rw [Log_mk3]
      exact fin _ ((Gr.refl (mu := mu0) g.fh).own np) (.inl (hb cb)) _ rfl
/-! ### a log's last moment, setups that are the same -/
def lastOf (M : Mach) (k : Nat) (c : Cfg) : Int := if entOf M c = Ent.emp then (k : Int) - 1 else k
def sp_Log_last (C : Addr) : Sp := fun vs H Q _ => ∃ (F : Hp) (g Ra Pa Ta : Addr) (cs : List Cfg) (b : Bool), vs = [.ref g] ∧ Same F H ∧ LogAt C F H g Ra Pa Ta cs b ∧ Q (.int ((cs.length : Int) - 1 - (if b then 1 else 0))) H
theorem ok_Log_last (t : Tx K mg) : FnOk P w K mg base CX0 1 t.a_Log_last t.fd_Log_last ["self"] (sp_Log_last t.C_Log) := by
  refine t.F_Log_last.ok sc_Log_last (fun vs H Q E h => ?_) (fun cdv A outer s H vs Q E hr h => ?_)
  · obtain ⟨F, g, Ra, Pa, Ta, cs, b, rfl, _⟩ := h
    rfl
  · obtain ⟨F, g, Ra, Pa, Ta, cs, b, rfl, sF, x, q⟩ := h
    refine ⟨_, (pss_one (ps_ret (pe_op op_sub (pe_op op_sub (pe_callB (id := "len") call_lenQ (by rfl) t.n_len (by decide +kernel) (pa_cons (pe_fld (pv 0) rfl) pa_nil)) pe_int) (pe_callTy (T := "int") call_int1 (by rfl) t.n_int (by decide +kernel) (pa_cons (pe_fld (pv 0) rfl) pa_nil))))), ?_⟩
    obtain ⟨dx, ho⟩ := x.ob
    refine ⟨_, rfl, g, t.C_Log, dx, _, _, rfl, ho, t.cl_Log, t.nA_Log_rows, Log_get_rows, Ra, _, rfl, .inl (SqL.of (sF _ _ x.rw)), _, _, rfl, rfl, ?_⟩
    refine ⟨_, rfl, g, t.C_Log, dx, _, _, rfl, ho, t.cl_Log, t.nA_Log_has_ended, Log_get_has_ended, .inr ⟨b, rfl, _, _, rfl, rfl, ?_⟩⟩
    rw [List.length_map]
    exact q
/-- how many setups are known of a run: all but the one at an empty entry -/
def known (M : Mach) (k : Nat) (c : Cfg) : Nat := if entOf M c = Ent.emp then k else k + 1
def sameC (c c' : Cfg) : Bool := decide (c.r = c'.r) && decide (c.s = c'.s) && decide (told c.l = told c'.l)
theorem same_told {l l' m m' : List PI} (h : ZRel l l') (k : ZRel m m') : sameD l' m' = decide (told l = told m) := by
  rw [Bool.eq_iff_iff, sameD_iff h.n' k.n', decide_eq_true_iff, h.told, k.told]
  constructor
  · intro e
    refine srt_uniq (srt_srt _) (srt_srt _) ((srt_perm _).trans (List.Perm.trans ?_ (srt_perm _).symm))
    refine (List.perm_ext_iff_of_nodup (nd_nodup h.n') (nd_nodup k.n')).mpr fun q => ⟨fun m => ?_, fun m => ?_⟩
    · have a := look_mem h.n' m
      rw [e] at a
      exact mem_look a
    · have a := look_mem k.n' m
      rw [← e] at a
      exact mem_look a
  · intro e x
    have p : l'.Perm m' := ((srt_perm l').symm.trans (by rw [e])).trans (srt_perm m')
    cases a : look l' x with
    | some v =>
      have := p.mem_iff.mp (mem_look a)
      exact (look_mem k.n' this).symm
    | none =>
      cases b : look m' x with
      | none => rfl
      | some v =>
        have := p.mem_iff.mpr (mem_look b)
        rw [show look l' x = some v from look_mem h.n' this] at a
        cases a
def sp_Log_same (C : Addr) : Sp := fun vs H Q _ => ∃ (F : Hp) (g Ra Pa Ta : Addr) (cs : List Cfg) (b : Bool) (i j : Nat) (ci cj : Cfg), vs = [.ref g, .int i, .int j] ∧ Same F H ∧ LogAt C F H g Ra Pa Ta cs b ∧ cs[i]? = some ci ∧ cs[j]? = some cj ∧ Q (.bl (sameC ci cj)) H
theorem ok_Log_same (t : Tx K mg) : FnOk P w K mg base CX0 1 t.a_Log_same t.fd_Log_same ["self", "one", "other"] (sp_Log_same t.C_Log) := by
  refine t.F_Log_same.ok sc_Log_same (fun vs H Q E h => ?_) (fun cdv A outer s H vs Q E hr h => ?_)
  · obtain ⟨F, g, Ra, Pa, Ta, cs, b, i, j, ci, cj, rfl, _⟩ := h
    rfl
  · obtain ⟨F, g, Ra, Pa, Ta, cs, b, i, j, ci, cj, rfl, sF, x, hi, hj, q⟩ := h
    refine ⟨_, (pss_cons (ps_if (PW.pt (pw_or (pt_cmpR op_ne (pe_ix ix_list (pe_fld (pv 0) rfl) (pv 1) (fun _ _ => rfl)) (pe_ix ix_list (pe_fld (pv 0) rfl) (pv 2) (fun _ _ => rfl)) (nomark _)) (pw_or1 (pt_cmpR op_ne (pe_ix ix_list (pe_fld (pv 0) rfl) (pv 1) (fun _ _ => rfl)) (pe_ix ix_list (pe_fld (pv 0) rfl) (pv 2) (fun _ _ => rfl)) (nomark _))))) (pss_one (ps_ret pe_bl)) pss_nil)
      (pss_one (ps_ret (pe_cmpR (op_eqDi hr.units) (pe_ix ix_list (pe_fld (pv 0) rfl) (pv 1) (fun _ _ => rfl)) (pe_ix ix_list (pe_fld (pv 0) rfl) (pv 2) (fun _ _ => rfl)) (by rfl))))), ?_⟩
    obtain ⟨dx, ho⟩ := x.ob
    obtain ⟨ts, hT, sa⟩ := x.st
    have hR := SqL.of (K := K) (sF _ _ x.rw)
    have hP := SqL.of (K := K) (sF _ _ x.pl)
    have hT' := SqL.of (K := K) (sF _ _ hT)
    have atR : ∀ {i : Nat} {c : Cfg}, cs[i]? = some c → (cs.map fun c => V.int c.r)[i]? = some (.int c.r) := fun h => by rw [List.getElem?_map, h]; rfl
    have atP : ∀ {i : Nat} {c : Cfg}, cs[i]? = some c → (cs.map fun c => V.int c.s)[i]? = some (.int c.s) := fun h => by rw [List.getElem?_map, h]; rfl
    refine ⟨_, rfl, g, t.C_Log, dx, _, _, rfl, ho, t.cl_Log, t.nA_Log_rows, Log_get_rows, _, rfl, Ra, _, _, _, rfl, rfl, hR, atI_nat (j := i) (atR hi), ?_⟩
    refine ⟨_, rfl, g, t.C_Log, dx, _, _, rfl, ho, t.cl_Log, t.nA_Log_rows, Log_get_rows, _, rfl, Ra, _, _, _, rfl, rfl, hR, atI_nat (j := j) (atR hj), rfl, _, rfl, ?_⟩
    have no : ∀ {a b : Int}, a ≠ b → decide (V.int a = V.int b) = false := fun h => decide_eq_false fun z => h (V.int.inj z)
    have yes' : ∀ {a b : Int}, (!decide (V.int a = V.int b)) = true → ¬ a = b := fun h z => by rw [z, decide_eq_true rfl] at h; exact absurd h (by decide)
    have not' : ∀ {a b : Int}, ¬ (!decide (V.int a = V.int b)) = true → a = b := fun {a b} h => by
      by_cases z : a = b
      · exact z
      · rw [no z] at h; exact absurd rfl h
    refine ite2 (fun c => ?_) (fun c => ?_)
    · have e : sameC ci cj = false := by unfold sameC; rw [decide_eq_false (yes' c)]; rfl
      rw [e] at q
      exact ifT rfl q
    · have er := not' c
      refine ⟨_, rfl, g, t.C_Log, dx, _, _, rfl, ho, t.cl_Log, t.nA_Log_places, Log_get_places, _, rfl, Pa, _, _, _, rfl, rfl, hP, atI_nat (j := i) (atP hi), ?_⟩
      refine ⟨_, rfl, g, t.C_Log, dx, _, _, rfl, ho, t.cl_Log, t.nA_Log_places, Log_get_places, _, rfl, Pa, _, _, _, rfl, rfl, hP, atI_nat (j := j) (atP hj), rfl, _, rfl, ?_⟩
      refine ite2 (fun c => ?_) (fun c => ?_)
      · have e : sameC ci cj = false := by unfold sameC; rw [decide_eq_false (yes' c), Bool.and_false]; rfl
        rw [e] at q
        exact q
      · have es := not' c
        obtain ⟨vi, hvi, di, li, rfl, hdi, zi⟩ := sa.get hi
        obtain ⟨vj, hvj, dj, lj, rfl, hdj, zj⟩ := sa.get hj
        refine ⟨_, rfl, g, t.C_Log, dx, _, _, rfl, ho, t.cl_Log, t.nA_Log_strips, Log_get_strips, _, rfl, Ta, _, _, _, rfl, rfl, hT', atI_nat (j := i) hvi, ?_⟩
        refine ⟨_, rfl, g, t.C_Log, dx, _, _, rfl, ho, t.cl_Log, t.nA_Log_strips, Log_get_strips, _, rfl, Ta, _, _, _, rfl, rfl, hT', atI_nat (j := j) hvj, ?_⟩
        refine ⟨di, dj, li, lj, rfl, rfl, sF _ _ hdi, sF _ _ hdj, zi.n', ?_⟩
        have e : sameC ci cj = sameD li lj := by
          unfold sameC
          rw [decide_eq_true er, decide_eq_true es, same_told zi zj]; rfl
        rw [e] at q
        exact q
def tRing : TStr := ⟨"ring", by decide +kernel⟩
/-! ### setups that are the same, machines that go on, machines that end -/
def SameAt (M : Mach) (f l : Nat) : Prop := ∃ ci cj, stepsC M f = some ci ∧ stepsC M l = some cj ∧ sameC ci cj = true
/-! ### the first ring among the first K setups -/
def RingOf (M : Mach) (K : Nat) : Option (Nat × Nat) → Prop
  | none => ∀ f l, f < l → l < K → ¬ SameAt M f l
  | some (f, l) => f < l ∧ l < K ∧ SameAt M f l ∧ ∀ f' l', f' < l' → (l' < l ∨ (l' = l ∧ f' < f)) → ¬ SameAt M f' l'
theorem RingOf.uniq {M : Mach} {K : Nat} : ∀ {o o' : Option (Nat × Nat)}, RingOf M K o → RingOf M K o' → o = o'
  | none, none, _, _ => rfl
  | none, some (f, l), a, ⟨h1, h2, h3, _⟩ => (a f l h1 h2 h3).elim
  | some (f, l), none, ⟨h1, h2, h3, _⟩, b => (b f l h1 h2 h3).elim
  | some (f, l), some (f', l'), ⟨h1, h2, h3, h4⟩, ⟨k1, k2, k3, k4⟩ => by
    have a : ¬ (l' < l ∨ (l' = l ∧ f' < f)) := fun z => h4 f' l' k1 z k3
    have b : ¬ (l < l' ∨ (l = l' ∧ f < f')) := fun z => k4 f l h1 z h3
    have e1 : l = l' := by omega
    subst e1
    have e2 : f = f' := by omega
    rw [e2]
abbrev RingR := Option (T3 TStr Int Int)
def ringD : Option (Nat × Nat) → RingR
  | none => none
  | some (f, l) => some ⟨tRing, f, l⟩
def sp_ring : Sp := fun vs H Q _ => ∃ (F : Hp) (m : V) (M : Mach) (R S n : Nat), vs = [m, .int n] ∧ Same F H ∧ Is F m M ∧ MOk M R S ∧ n ≤ 5000 ∧
  ∀ (F' H' : Hp) (v : V) (k : Nat) (c : Cfg) (o : Option (Nat × Nat)), Gr mu0 F H F' H' → Gone M n k c → RingOf M (known M k c) o → Is F' v (ringD o) → Q v H'
theorem ok_ring (t : Tx K mg) : FnOk P w K mg base CX0 5 t.a_ring t.fd_ring ["machine", "most"] sp_ring := by
  refine t.F_ring.ok sc_ring (fun vs H Q E h => ?_) (fun cdv A outer s H vs Q E hr h => ?_)
  · obtain ⟨F, m, M, R, S, n, rfl, _⟩ := h
    rfl
  · obtain ⟨F, m, M, R, S, n, rfl, sF, hm, hM, hn, q⟩ := h
    refine ⟨_, (pss_cons (ps_expr (pe_call (ok_must_machine t) (hr.mono (by decide)) (by rfl) t.m_must_machine t.F_must_machine.kp t.b_must_machine .nil pass0 (pa_cons (pv 0) pa_nil)))
      (pss_cons (ps_set (i := 2) sc_ring.nd rfl (by first | exact Or.inl rfl | exact Or.inr rfl) (pe_make t.M_Log (ok_Log_init t) (hr.mono (by decide)) (by rfl) t.m_Log t.b_Log_init .nil pass0 (pa_cons (pv 0) (pa_cons (pv 1) pa_nil))))
      (pss_cons (ps_for PassesOwn.never rfl (pi_range2 (by rfl) t.n_range (pa_cons pe_int (pa_cons (pe_op op_add (pe_meth0 (pv 2) t.cl_Log t.M_Log_last (ok_Log_last t) (hr.mono (by decide)) t.b_Log_last .nil pass0) pe_int) pa_nil))) (pg_name (i := 3) sc_ring.nd rfl (by first | exact Or.inl rfl | exact Or.inr rfl)) (pss_one (ps_for PassesOwn.never rfl (pi_range1 (by rfl) t.n_range (pa_cons (pv 3) pa_nil)) (pg_name (i := 4) sc_ring.nd rfl (by first | exact Or.inl rfl | exact Or.inr rfl)) (pss_one (ps_if (pt_val (pe_meth (pv 2) t.cl_Log t.M_Log_same (ok_Log_same t) (hr.mono (by decide)) t.b_Log_same .nil pass0 (pa_cons (pv 4) (pa_cons (pv 3) pa_nil)))) (pss_one (ps_ret (pe_tup (pa_cons pe_str (pa_cons (pv 4) (pa_cons (pv 3) pa_nil)))))) pss_nil)))))
      (pss_one (ps_ret pe_non))))), ?_⟩
    refine ⟨_, rfl, F, m, M, R, S, rfl, sF, hm, hM, fun Ha ga => ?_⟩
    refine ⟨_, rfl, _, rfl, fun y dy ny ndy ney => ?_⟩
    have g1 := ga.own (o := .own y) ndy
    have ny2 : (upd Ha dy (.own y)) y = none := by rw [upd_ne ney.symm]; exact ny
    have g2 := g1.own (o := .ins t.C_Log dy []) ny2
    have hy : H y = none := ga.th _ ny
    have fy : F y = none := ga.fh.free ny
    refine ⟨F, y, dy, m, M, R, S, n, rfl, upd_same, fy, g2.fh, hm, hM, hn, fun F3 H3 Ra Pa Ta k c cs g3 fy3 go hh x => ⟨rfl, ?_⟩⟩
    have g13 := g2.thn g3 fun c z => .inr (by rw [show c = y from z]; exact hy)
    obtain ⟨dx, ho⟩ := x.ob
    have gle := go.le
    have lcs := hh.1
    have kn : (cs.length : Int) - 1 - (if (decide (entOf M c = Ent.emp)) = true then 1 else 0) + 1 = known M k c := by
      unfold known
      rw [lcs]
      by_cases e : entOf M c = Ent.emp
      · rw [if_pos (decide_eq_true e), if_pos e]; omega
      · rw [if_neg (by rw [decide_eq_false e]; decide), if_neg e]; omega
    have kle : known M k c ≤ k + 1 := by unfold known; split <;> omega
    refine ⟨_, rfl, y, dx, _, rfl, ho, Log_no (by decide +kernel) (by decide +kernel) (by decide +kernel) (by decide +kernel), F3, y, Ra, Pa, Ta, cs, _, rfl, g3.fh, x, _, _, rfl, rfl, ?_⟩
    refine ⟨1, (known M k c : Int), by rw [← kn], ⟨by decide, by decide, by omega, by omega⟩, ?_⟩
    have sat : ∀ {f : Nat} {a : Cfg}, cs[f]? = some a → stepsC M f = some a := fun h => hh.2 _ _ h
    have bad : ∀ {f l : Nat} {a b : Cfg}, cs[f]? = some a → cs[l]? = some b → sameC a b = false → ¬ SameAt M f l := fun ha hb e ⟨a', b', h1, h2, h3⟩ => by
      rw [sat ha] at h1
      rw [sat hb] at h2
      cases h1; cases h2
      rw [e] at h3; cases h3
    refine for_range (lo := 1) (n := ((known M k c : Int) - 1).toNat) (fun i σ G => ∃ v3 v4 : Option V, σ = [some m, some (.int n), some (.ref y), v3, v4] ∧ H3 = G ∧ ∀ f l, f < l → l < i + 1 → ¬ SameAt M f l) ⟨none, none, rfl, rfl, fun f l h1 h2 => by omega⟩ ?_ ?_
    · rintro i σ G hi ⟨v3, v4, rfl, rfl, hno⟩
      have ik : i + 1 < known M k c := by omega
      have hci : cs[i + 1]? = some _ := List.getElem?_eq_getElem (by omega)
      refine ⟨_, rfl, (1 + (i : Int)), rfl, by omega, by omega, for_range (lo := 0) (n := (1 + (i : Int)).toNat) (fun j σ G => ∃ v4 : Option V, σ = [some m, some (.int n), some (.ref y), some (.int (1 + i)), v4] ∧ H3 = G ∧ ∀ f, f < j → ¬ SameAt M f (i + 1)) ⟨v4, rfl, rfl, fun f h => by omega⟩ ?_ ?_⟩
      · rintro j σ G hj ⟨v4, rfl, rfl, hn2⟩
        have jl : j < i + 1 := by omega
        have hcj : cs[j]? = some _ := List.getElem?_eq_getElem (by omega)
        refine ⟨_, rfl, y, dx, _, rfl, ho, Log_no (by decide +kernel) (by decide +kernel) (by decide +kernel) (by decide +kernel), _, rfl, _, rfl, F3, y, Ra, Pa, Ta, cs, _, j, i + 1, _, _, by show [V.ref y, V.int (0 + (j : Int)), V.int (1 + (i : Int))] = [V.ref y, V.int ((j : Nat) : Int), V.int ((i + 1 : Nat) : Int)]; rw [show (0 : Int) + (j : Int) = ((j : Nat) : Int) by omega, show (1 : Int) + (i : Int) = ((i + 1 : Nat) : Int) by omega], g3.fh, x, hcj, hci, _, rfl, ?_⟩
        refine ite2 (fun c1 => ?_) (fun c1 => ?_)
        · refine ⟨_, rfl, _, rfl, three_le, fun u nu => ?_⟩
          have gu := g13.new (o := .tup [.str tRing.x, .int (0 + j), .int (1 + i)]) nu
          refine q _ _ (.ref u) k c (some (j, i + 1)) gu go ⟨jl, ik, ⟨_, _, sat hcj, sat hci, c1⟩, fun f' l' h1 h2 => ?_⟩ ⟨u, _, _, _, rfl, upd_same, rfl, by show V.int (0 + j) = V.int j; rw [Int.zero_add], by show V.int (1 + i) = V.int ((i + 1 : Nat) : Int); congr 1; omega⟩
          rcases h2 with h2 | ⟨rfl, h2⟩
          · exact hno f' l' h1 h2
          · exact hn2 f' h2
        · refine ⟨_, rfl, rfl, fun f h => ?_⟩
          have e : sameC cs[j] cs[i + 1] = false := by
            cases z : sameC cs[j] cs[i + 1] with
            | false => rfl
            | true => exact absurd z c1
          rcases Nat.lt_succ_iff_lt_or_eq.mp h with h | rfl
          · exact hn2 f h
          · exact bad hcj hci e
      · rintro σ G ⟨v4, rfl, rfl, hn2⟩
        refine ⟨_, _, rfl, rfl, fun f l h1 h2 => ?_⟩
        rcases Nat.lt_succ_iff_lt_or_eq.mp h2 with h2 | rfl
        · exact hno f l h1 h2
        · exact hn2 f (by omega)
    · rintro σ G ⟨v3, v4, rfl, rfl, hno⟩
      exact q F3 _ .non k c none g13 go (fun f l h1 h2 => hno f l h1 (by omega)) rfl
/-! ### the keys of a dict of ints -/
def dk (l : List PI) : List Int := l.map (·.a)
theorem dI_keys (l : List PI) : ((dI l).map fun kv => kV kv.1) = (dk l).map V.int := by
  unfold dI dk
  rw [List.map_map, List.map_map]; rfl
/-- what is read at a place -/
def gz (l : List PI) (x : Int) : Int := (look l x).getD 0
/-! ### drifts -/
theorem gz_out {l : List PI} {x : Int} (h : x ∉ dk l) : gz l x = 0 := by
  unfold gz
  rw [look_none.mpr h]; rfl
theorem drift_all {P : Int → Prop} {li lj : List PI} {d : Int} (h : ∀ y ∈ dk li ++ (dk lj).map (fun z => z - d), P y → gz li y = gz lj (y + d)) : ∀ x, P x → gz li x = gz lj (x + d) := by
  intro x p
  by_cases m : x ∈ dk li
  · exact h x (List.mem_append_left _ m) p
  · by_cases m' : x + d ∈ dk lj
    · exact h x (List.mem_append_right _ (List.mem_map.mpr ⟨x + d, m', by omega⟩)) p
    · rw [gz_out m, gz_out m']
/-- led along, from what is read on -/
def DriftLH (a b : Cfg) (lo hi : Int) : Prop := a.r = b.r ∧ a.s ≠ b.s ∧ ∀ x, ((a.s < b.s ∧ lo ≤ x) ∨ (b.s < a.s ∧ x ≤ hi)) → gz a.l x = gz b.l (x + (b.s - a.s))
theorem LogAt.gr {C : Addr} {F H F' H' : Hp} {lg R P T : Addr} {cs : List Cfg} {b : Bool} {mu : Addr → Prop} (x : LogAt C F H lg R P T cs b) (g : Gr mu F H F' H') (m : ¬ mu lg) : LogAt C F' H' lg R P T cs b := by
  obtain ⟨⟨dx, ho⟩, h1, h2, ts, h3, h4⟩ := x
  exact ⟨⟨dx, g.fr _ _ ho m⟩, g.ff _ _ h1, g.ff _ _ h2, ts, g.ff _ _ h3, h4.up g.ff⟩
theorem gz_rel {l l' : List PI} (h : ZRel l l') (x : Int) : gz l x = gz l' x := h.lk x
def sp_Log_drifts (C : Addr) : Sp := fun vs H Q _ => ∃ (F : Hp) (g Ra Pa Ta : Addr) (cs : List Cfg) (b : Bool) (i j : Nat) (ci cj : Cfg) (lo hi : Int), vs = [.ref g, .int i, .int j, .int lo, .int hi] ∧ Same F H ∧ LogAt C F H g Ra Pa Ta cs b ∧ cs[i]? = some ci ∧ cs[j]? = some cj ∧ ci.l.length ≤ 100000 ∧ cj.l.length ≤ 100000 ∧
  ∀ (F' H' : Hp) (r : Bool), Gr mu0 F H F' H' → (r = true ↔ DriftLH ci cj lo hi) → Q (.bl r) H'
theorem ok_Log_drifts (t : Tx K mg) : FnOk P w K mg base CX0 1 t.a_Log_drifts t.fd_Log_drifts ["self", "one", "other", "low", "high"] (sp_Log_drifts t.C_Log) := by
  refine t.F_Log_drifts.ok sc_Log_drifts (fun vs H Q E h => ?_) (fun cdv A outer s H vs Q E hr h => ?_)
  · obtain ⟨F, g, Ra, Pa, Ta, cs, b, i, j, ci, cj, lo, hi, rfl, _⟩ := h
    rfl
  · obtain ⟨F, g, Ra, Pa, Ta, cs, b, i, j, ci, cj, lo, hi, rfl, sF, x, hi', hj, li1, lj1, q⟩ := h
    refine ⟨_, (pss_cons (ps_set (i := 5) sc_Log_drifts.nd rfl (by first | exact Or.inl rfl | exact Or.inr rfl) (pe_op op_sub (pe_ix ix_list (pe_fld (pv 0) rfl) (pv 2) (fun _ _ => rfl)) (pe_ix ix_list (pe_fld (pv 0) rfl) (pv 1) (fun _ _ => rfl))))
      (pss_cons (ps_if (PW.pt (pw_or (pt_cmpR op_ne (pe_ix ix_list (pe_fld (pv 0) rfl) (pv 1) (fun _ _ => rfl)) (pe_ix ix_list (pe_fld (pv 0) rfl) (pv 2) (fun _ _ => rfl)) (nomark _)) (pw_or1 (pt_cmpR op_eq (pv 5) pe_int (nomark _))))) (pss_one (ps_ret pe_bl)) pss_nil)
      (pss_cons (ps_set (i := 6) sc_Log_drifts.nd rfl (by first | exact Or.inl rfl | exact Or.inr rfl) (pe_ix ix_list (pe_fld (pv 0) rfl) (pv 1) (fun _ _ => rfl)))
      (pss_cons (ps_set (i := 7) sc_Log_drifts.nd rfl (by first | exact Or.inl rfl | exact Or.inr rfl) (pe_ix ix_list (pe_fld (pv 0) rfl) (pv 2) (fun _ _ => rfl)))
      (pss_cons (ps_for PassesOwn.never rfl (pi_list (pe_op op_cat (pe_callTy (T := "list") (call_listD rfl) (by rfl) t.n_list (by decide +kernel) (pa_cons (pv 6) pa_nil)) (pe_lock (pe_lc (own := [("place", 8)]) (g := gName 8) (tt := tYes) rfl sc_Log_drifts.nd (pi_keys (pv 7)) (blkOk_by (N := N_Log_drifts) (sc := defScope s_Log_drifts) (by decide +kernel)) (fun _ _ _ _ _ => (pg_name (i := 8) sc_Log_drifts.nd rfl (by first | exact Or.inl rfl | exact Or.inr rfl))) (fun _ _ _ _ _ => pts_nil) (fun _ _ _ _ _ => (pe_op op_sub (pv 8) (pv 5))))))) (pg_name (i := 8) sc_Log_drifts.nd rfl (by first | exact Or.inl rfl | exact Or.inr rfl)) (pss_cons (ps_set (i := 9) sc_Log_drifts.nd rfl (by first | exact Or.inl rfl | exact Or.inr rfl) (pe_or (pe_and (pe_cmpR op_gt (pv 5) pe_int (nomark _)) (pe_one (pe_cmpR op_ge (pv 8) (pv 3) (nomark _)))) (pe_one (pe_and (pe_cmpR op_lt (pv 5) pe_int (nomark _)) (pe_one (pe_cmpR op_le (pv 8) (pv 4) (nomark _)))))))
      (pss_one (ps_if (PW.pt (pw_and (pt_val (pv 9)) (pw_and1 (pt_cmpR op_ne (pe_dget2 (hu_of hr) (pv 6) (pv 8) pe_int ⟨by rfl, by rfl, by rfl, by rfl⟩) (pe_dget2 (hu_of hr) (pv 7) (pe_op op_add (pv 8) (pv 5)) pe_int ⟨by rfl, by rfl, by rfl, by rfl⟩) (nomark _))))) (pss_one (ps_ret pe_bl)) pss_nil))))
      (pss_one (ps_ret pe_bl))))))), ?_⟩
    obtain ⟨dx, ho⟩ := x.ob
    obtain ⟨ts, hT, sa⟩ := x.st
    have hR := SqL.of (K := K) (sF _ _ x.rw)
    have hP := SqL.of (K := K) (sF _ _ x.pl)
    have hT' := SqL.of (K := K) (sF _ _ hT)
    have g0 : Gr mu0 F H F H := Gr.refl sF
    have atR : ∀ {i : Nat} {c : Cfg}, cs[i]? = some c → (cs.map fun c => V.int c.r)[i]? = some (.int c.r) := fun h => by rw [List.getElem?_map, h]; rfl
    have atP : ∀ {i : Nat} {c : Cfg}, cs[i]? = some c → (cs.map fun c => V.int c.s)[i]? = some (.int c.s) := fun h => by rw [List.getElem?_map, h]; rfl
    have no : ∀ {a b : Int}, a ≠ b → decide (V.int a = V.int b) = false := fun h => decide_eq_false fun z => h (V.int.inj z)
    have yes' : ∀ {a b : Int}, (!decide (V.int a = V.int b)) = true → ¬ a = b := fun h z => by rw [z, decide_eq_true rfl] at h; exact absurd h (by decide)
    have not' : ∀ {a b : Int}, ¬ (!decide (V.int a = V.int b)) = true → a = b := fun {a b} h => by
      by_cases z : a = b
      · exact z
      · rw [no z] at h; exact absurd rfl h
    -- by = self.places[other] - self.places[one]
    refine ⟨_, rfl, g, t.C_Log, dx, _, _, rfl, ho, t.cl_Log, t.nA_Log_places, Log_get_places, _, rfl, Pa, _, _, _, rfl, rfl, hP, atI_nat (j := j) (atP hj), ?_⟩
    refine ⟨_, rfl, g, t.C_Log, dx, _, _, rfl, ho, t.cl_Log, t.nA_Log_places, Log_get_places, _, rfl, Pa, _, _, _, rfl, rfl, hP, atI_nat (j := i) (atP hi'), _, _, rfl, rfl, ?_⟩
    -- if self.rows[one] != self.rows[other] or by == 0
    refine ⟨_, rfl, g, t.C_Log, dx, _, _, rfl, ho, t.cl_Log, t.nA_Log_rows, Log_get_rows, _, rfl, Ra, _, _, _, rfl, rfl, hR, atI_nat (j := i) (atR hi'), ?_⟩
    refine ⟨_, rfl, g, t.C_Log, dx, _, _, rfl, ho, t.cl_Log, t.nA_Log_rows, Log_get_rows, _, rfl, Ra, _, _, _, rfl, rfl, hR, atI_nat (j := j) (atR hj), rfl, _, rfl, ?_⟩
    refine ite2 (fun c => ?_) (fun c => ?_)
    · exact ifT rfl (q F H false g0 ⟨(fun z => nomatch z), fun z => absurd z.1 (yes' c)⟩)
    have er := not' c
    refine ⟨_, rfl, rfl, _, rfl, ?_⟩
    refine ite2 (fun c => ?_) (fun c => ?_)
    · have z := V.int.inj (of_decide_eq_true c)
      exact q F H false g0 ⟨(fun z => nomatch z), fun y => absurd (show ci.s = cj.s by omega) y.2.1⟩
    have es : ci.s ≠ cj.s := fun z => c (decide_eq_true (by show V.int (cj.s - ci.s) = V.int 0; rw [z, Int.sub_self]))
    obtain ⟨vi, hvi, di, li, rfl, hdi, zi⟩ := sa.get hi'
    obtain ⟨vj, hvj, dj, lj, rfl, hdj, zj⟩ := sa.get hj
    have lli := zi.len
    have llj := zj.len
    -- ahead, behind
    refine ⟨_, rfl, g, t.C_Log, dx, _, _, rfl, ho, t.cl_Log, t.nA_Log_strips, Log_get_strips, _, rfl, Ta, _, _, _, rfl, rfl, hT', atI_nat (j := i) hvi, ?_⟩
    refine ⟨_, rfl, g, t.C_Log, dx, _, _, rfl, ho, t.cl_Log, t.nA_Log_strips, Log_get_strips, _, rfl, Ta, _, _, _, rfl, rfl, hT', atI_nat (j := j) hvj, ?_⟩
    -- list(ahead) + [place - by for place in behind]
    refine ⟨_, rfl, di, _, rfl, .inl (sF _ _ hdi), fun p1 np1 => ?_⟩
    rw [dI_keys]
    have g1 := g0.own (o := .lst ((dk li).map V.int)) np1
    have hp1 : (upd H p1 (.lst ((dk li).map V.int))) p1 = some (.lst ((dk li).map V.int)) := upd_same
    generalize upd H p1 (.lst ((dk li).map V.int)) = H1 at g1 hp1
    refine ⟨dj, _, g1.fh _ _ hdj, trivial, fun od => ?_⟩
    have sL := lock_in (d := dj) (o := .frz od (.dK (dI lj))) g1.fh
    have hdB : (upd H1 dj (.frz od (.dK (dI lj)))) dj = some (.frz od (.dK (dI lj))) := upd_same
    have dl : (dI lj).length = lj.length := by unfold dI; rw [List.length_map]
    have gL : Gr mu0 _ (upd H1 dj (.frz od (.dK (dI lj)))) _ (upd H1 dj (.frz od (.dK (dI lj)))) := Gr.refl sL
    refine ⟨_, rfl, dj, od, rfl, .inl ⟨_, hdB, fun D nD => lc_it walk_keys (fun k G => Gr mu0 (fun c => if c = dj then none else F c) (upd H1 dj (.frz od (.dK (dI lj)))) (fun c => if c = dj then none else F c) G ∧ Ow (upd H1 dj (.frz od (.dK (dI lj)))) (fun c => if c = dj then none else F c) G D (.lst (((dk (lj.take k)).map fun z => z - (cj.s - ci.s)).map V.int))) ⟨gL.own nD, Ow.mk1 gL nD⟩ (fun k G _ ⟨g, _⟩ => g.fr _ _ hdB fun z => z) ?_ ?_⟩⟩
    · rintro k y G G' hk ⟨gk, wk⟩ ⟨rfl, kk, v, hkv, rfl⟩
      rw [dl] at hk
      rw [dI_get hk] at hkv
      cases hkv
      refine ⟨rfl, yes ⟨_, rfl, _, rfl, _, _, rfl, rfl, _, wk.h, lt_size (by rw [List.length_map, List.length_map]; unfold dk; rw [List.length_map, List.length_take]; omega), gk.set wk.f (.inl wk.n), ?_⟩⟩
      have e : ((dk (lj.take (k + 1))).map fun z => z - (cj.s - ci.s)).map V.int = ((dk (lj.take k)).map fun z => z - (cj.s - ci.s)).map V.int ++ [V.int (lj[k].a - (cj.s - ci.s))] := by
        unfold dk
        rw [List.take_add_one, List.getElem?_eq_getElem hk, List.map_append, List.map_append, List.map_append]; rfl
      rw [e]
      exact wk.set
    rintro G ⟨gk, wk⟩
    rw [dl, List.take_length] at wk
    obtain ⟨h1, h2, h3⟩ := lock_out g1.fh (g1.fh _ _ hdj) gk
    refine ⟨h1, ?_⟩
    have Dj : D ≠ dj := ne_of wk.h h1 (by intro z; cases z)
    have hDz := (upd_ne (o := .dK (dI lj)) Dj).trans wk.h
    have g2 := g1.trans h3
    have hp2 := h3.fr _ _ hp1 fun z => z
    have hdi2 := g2.fh _ _ (g2.ff _ _ hdi)
    have hdj2 := g2.fh _ _ (g2.ff _ _ hdj)
    generalize upd G dj (.dK (dI lj)) = H2 at g2 hp2 hDz hdi2 hdj2
    generalize (fun c => if c = dj then F dj else (fun c => if c = dj then none else F c) c) = F2 at g2
    refine ⟨p1, D, _, _, rfl, rfl, hp2, hDz, le_size (by rw [List.length_map, List.length_map, List.length_map]; unfold dk; rw [List.length_map, List.length_map]; omega), fun p3 np3 => ?_⟩
    rw [← List.map_append]
    have g3 := g2.own (o := .lst ((dk li ++ (dk lj).map fun z => z - (cj.s - ci.s)).map V.int)) np3
    have hp3 : (upd H2 p3 (.lst ((dk li ++ (dk lj).map fun z => z - (cj.s - ci.s)).map V.int))) p3 = some (.lst ((dk li ++ (dk lj).map fun z => z - (cj.s - ci.s)).map V.int)) := upd_same
    have hdi3 := ln (u := .lst ((dk li ++ (dk lj).map fun z => z - (cj.s - ci.s)).map V.int)) np3 hdi2
    have hdj3 := ln (u := .lst ((dk li ++ (dk lj).map fun z => z - (cj.s - ci.s)).map V.int)) np3 hdj2
    generalize upd H2 p3 (.lst ((dk li ++ (dk lj).map fun z => z - (cj.s - ci.s)).map V.int)) = H3 at g3 hp3 hdi3 hdj3
    generalize eys : dk li ++ (dk lj).map (fun z => z - (cj.s - ci.s)) = ys at hp3
    refine ⟨p3, rfl, ⟨_, SqL.of hp3⟩, for_list (K := K) (a := p3) (xs := ys.map V.int) (fun k σ G => ∃ v8 v9 : Option V, σ = [some (.ref g), some (.int i), some (.int j), some (.int lo), some (.int hi), some (.int (cj.s - ci.s)), some (.ref di), some (.ref dj), v8, v9] ∧ H3 = G ∧ ∀ (m : Nat) y, m < k → ys[m]? = some y → ((ci.s < cj.s ∧ lo ≤ y) ∨ (cj.s < ci.s ∧ y ≤ hi)) → gz li y = gz lj (y + (cj.s - ci.s))) ⟨none, none, rfl, rfl, fun m y h => absurd h (Nat.not_lt_zero _)⟩ (fun k σ G _ ⟨_, _, _, e, _⟩ => e ▸ SqL.of hp3) ?_ ?_⟩
    · rintro k y σ G hk ⟨v8, v9, rfl, rfl, hall⟩
      obtain ⟨y, rfl, hky⟩ := inr_int hk
      by_cases hb : 0 < cj.s - ci.s
      case' pos =>
        refine ⟨_, rfl, _, _, rfl, rfl, _, rfl, ifT (decide_eq_true hb) ?_⟩
        refine ⟨_, rfl, _, rfl, _, _, rfl, rfl, _, rfl, ?_⟩
        refine ite2 (fun c => ?A) (fun c => ?B)
      case' A =>
        have hw : true = true ↔ ((ci.s < cj.s ∧ lo ≤ y) ∨ (cj.s < ci.s ∧ y ≤ hi)) := ⟨fun _ => .inl ⟨by omega, of_decide_eq_true c⟩, fun _ => rfl⟩
      case' B =>
        have c : ¬ lo ≤ y := fun z => c (decide_eq_true z)
        have hw : false = true ↔ ((ci.s < cj.s ∧ lo ≤ y) ∨ (cj.s < ci.s ∧ y ≤ hi)) := ⟨(fun z => nomatch z), fun z => by omega⟩
        refine ⟨_, rfl, _, _, rfl, rfl, _, rfl, ifF (decide_eq_false (by omega)) ?_⟩
      case' neg =>
        refine ⟨_, rfl, _, _, rfl, rfl, _, rfl, ifF (decide_eq_false hb) ?_⟩
        refine ⟨_, rfl, ifF rfl ?_⟩
        refine ⟨_, rfl, _, _, rfl, rfl, _, rfl, ifT (decide_eq_true (show cj.s - ci.s < 0 by omega)) ?_⟩
        refine ⟨_, rfl, _, rfl, _, _, rfl, rfl, ?_⟩
        have hw : decide (y ≤ hi) = true ↔ ((ci.s < cj.s ∧ lo ≤ y) ∨ (cj.s < ci.s ∧ y ≤ hi)) := ⟨fun z => .inr ⟨by omega, of_decide_eq_true z⟩, fun z => decide_eq_true (by omega)⟩
      all_goals
        refine ⟨_, rfl, _, rfl, ?_⟩
        refine ite2 (fun cw => ?_) (fun cw => ?_)
        · refine ⟨_, rfl, di, rfl, .inl ⟨_, .inl hdi3⟩, _, rfl, _, DGet.k (k := Sum.inl y) hdi3, ?_⟩
          rw [dI_val, getD_int]
          refine ⟨_, rfl, dj, rfl, .inl ⟨_, .inl hdj3⟩, _, rfl, _, rfl, _, _, rfl, rfl, _, DGet.k (k := Sum.inl (y + (cj.s - ci.s))) hdj3, ?_⟩
          rw [dI_val, getD_int]
          refine ⟨rfl, _, rfl, ?_⟩
          refine ite2 (fun c => ?_) (fun c => ?_)
          · refine q _ _ false g3 ⟨(fun z => nomatch z), fun z => ?_⟩
            have e := z.2.2 y (hw.mp cw)
            rw [gz_rel zi, gz_rel zj] at e
            exact absurd e (yes' c)
          · refine ⟨_, _, rfl, rfl, fun m z hm hz hc => ?_⟩
            rcases Nat.lt_succ_iff_lt_or_eq.mp hm with hm | rfl
            · exact hall m z hm hz hc
            · rw [hky] at hz
              cases hz
              exact not' c
        · refine ⟨_, _, rfl, rfl, fun m z hm hz hc => ?_⟩
          rcases Nat.lt_succ_iff_lt_or_eq.mp hm with hm | rfl
          · exact hall m z hm hz hc
          · rw [hky] at hz
            cases hz
            exact absurd (hw.mpr hc) cw
    · rintro σ G ⟨v8, v9, rfl, rfl, hall⟩
      rw [List.length_map] at hall
      refine q _ _ true g3 ⟨fun _ => ⟨er, es, ?_⟩, fun _ => rfl⟩
      intro x hx
      rw [gz_rel zi, gz_rel zj]
      refine drift_all (P := fun y => (ci.s < cj.s ∧ lo ≤ y) ∨ (cj.s < ci.s ∧ y ≤ hi)) (fun y hy hc => ?_) x hx
      rw [eys] at hy
      obtain ⟨m, hm⟩ := List.getElem?_of_mem hy
      exact hall m y (List.getElem?_eq_some_iff.mp hm).1 hm hc
/-! ### the first two moments: the least last one, of these the least first one -/
def FirstOf (P : Nat → Nat → Prop) (K : Nat) : Option (Nat × Nat) → Prop
  | none => ∀ f l, f < l → l < K → ¬ P f l
  | some (f, l) => f < l ∧ l < K ∧ P f l ∧ ∀ f' l', f' < l' → (l' < l ∨ (l' = l ∧ f' < f)) → ¬ P f' l'
theorem FirstOf.uniq {P : Nat → Nat → Prop} {K : Nat} : ∀ {o o' : Option (Nat × Nat)}, FirstOf P K o → FirstOf P K o' → o = o'
  | none, none, _, _ => rfl
  | none, some (f, l), a, ⟨h1, h2, h3, _⟩ => (a f l h1 h2 h3).elim
  | some (f, l), none, ⟨h1, h2, h3, _⟩, b => (b f l h1 h2 h3).elim
  | some (f, l), some (f', l'), ⟨h1, h2, h3, h4⟩, ⟨k1, k2, k3, k4⟩ => by
    have a : ¬ (l' < l ∨ (l' = l ∧ f' < f)) := fun z => h4 f' l' k1 z k3
    have b : ¬ (l < l' ∨ (l = l' ∧ f < f')) := fun z => k4 f l h1 z h3
    have e1 : l = l' := by omega
    subst e1
    have e2 : f = f' := by omega
    rw [e2]
/-- the least place read from one moment up to another; the greatest -/
def LoM (M : Mach) (f l : Nat) (x : Int) : Prop := (∃ i c, f ≤ i ∧ i < l ∧ stepsC M i = some c ∧ c.s = x) ∧ ∀ i c, f ≤ i → i < l → stepsC M i = some c → x ≤ c.s
def HiM (M : Mach) (f l : Nat) (x : Int) : Prop := (∃ i c, f ≤ i ∧ i < l ∧ stepsC M i = some c ∧ c.s = x) ∧ ∀ i c, f ≤ i → i < l → stepsC M i = some c → c.s ≤ x
theorem LoM.one {M : Mach} {f : Nat} {c : Cfg} (h : stepsC M f = some c) : LoM M f (f + 1) c.s := by
  refine ⟨⟨f, c, Nat.le_refl _, Nat.lt_succ_self _, h, rfl⟩, fun i d h1 h2 h3 => ?_⟩
  rw [show i = f by omega, h] at h3
  cases h3
  exact Int.le_refl _
theorem HiM.one {M : Mach} {f : Nat} {c : Cfg} (h : stepsC M f = some c) : HiM M f (f + 1) c.s := by
  refine ⟨⟨f, c, Nat.le_refl _, Nat.lt_succ_self _, h, rfl⟩, fun i d h1 h2 h3 => ?_⟩
  rw [show i = f by omega, h] at h3
  cases h3
  exact Int.le_refl _
theorem LoM.step {M : Mach} {f f' l : Nat} {x : Int} {c : Cfg} (h : LoM M f' l x) (hc : stepsC M f = some c) (h1 : f ≤ f') (h2 : f' ≤ f + 1) (h3 : f < l) : LoM M f l (if c.s < x then c.s else x) := by
  obtain ⟨⟨i, d, a1, a2, a3, a4⟩, b⟩ := h
  refine ⟨?_, fun j e j1 j2 j3 => ?_⟩
  · split
    · exact ⟨f, c, Nat.le_refl _, h3, hc, rfl⟩
    · exact ⟨i, d, by omega, a2, a3, a4⟩
  · by_cases z : j = f
    · rw [z, hc] at j3
      cases j3
      split <;> omega
    · have := b j e (by omega) j2 j3
      split <;> omega
theorem HiM.step {M : Mach} {f f' l : Nat} {x : Int} {c : Cfg} (h : HiM M f' l x) (hc : stepsC M f = some c) (h1 : f ≤ f') (h2 : f' ≤ f + 1) (h3 : f < l) : HiM M f l (if c.s > x then c.s else x) := by
  obtain ⟨⟨i, d, a1, a2, a3, a4⟩, b⟩ := h
  refine ⟨?_, fun j e j1 j2 j3 => ?_⟩
  · split
    · exact ⟨f, c, Nat.le_refl _, h3, hc, rfl⟩
    · exact ⟨i, d, by omega, a2, a3, a4⟩
  · by_cases z : j = f
    · rw [z, hc] at j3
      cases j3
      split <;> omega
    · have := b j e (by omega) j2 j3
      split <;> omega
def DriftAt (M : Mach) (f l : Nat) : Prop := ∃ a b, stepsC M f = some a ∧ stepsC M l = some b ∧ a.r = b.r ∧ a.s ≠ b.s ∧ ∀ x,
  ((a.s < b.s ∧ ∃ i c, f ≤ i ∧ i < l ∧ stepsC M i = some c ∧ c.s ≤ x) ∨ (b.s < a.s ∧ ∃ i c, f ≤ i ∧ i < l ∧ stepsC M i = some c ∧ x ≤ c.s)) → gz a.l x = gz b.l (x + (b.s - a.s))
theorem LoM.le {M : Mach} {f l : Nat} {lo x : Int} (h : LoM M f l lo) : (∃ i c, f ≤ i ∧ i < l ∧ stepsC M i = some c ∧ c.s ≤ x) ↔ lo ≤ x := by
  constructor
  · rintro ⟨i, c, a, b, d, e⟩
    have := h.2 i c a b d; omega
  · intro e
    obtain ⟨⟨i, c, a, b, d, z⟩, _⟩ := h
    exact ⟨i, c, a, b, d, by omega⟩
theorem HiM.le {M : Mach} {f l : Nat} {hi x : Int} (h : HiM M f l hi) : (∃ i c, f ≤ i ∧ i < l ∧ stepsC M i = some c ∧ x ≤ c.s) ↔ x ≤ hi := by
  constructor
  · rintro ⟨i, c, a, b, d, e⟩
    have := h.2 i c a b d; omega
  · intro e
    obtain ⟨⟨i, c, a, b, d, z⟩, _⟩ := h
    exact ⟨i, c, a, b, d, by omega⟩
theorem drift_iff {M : Mach} {f l : Nat} {a b : Cfg} {lo hi : Int} (ha : stepsC M f = some a) (hb : stepsC M l = some b) (h1 : LoM M f l lo) (h2 : HiM M f l hi) : DriftAt M f l ↔ DriftLH a b lo hi := by
  constructor
  · rintro ⟨a', b', e1, e2, h3, h4, h5⟩
    rw [ha] at e1; rw [hb] at e2
    cases e1; cases e2
    refine ⟨h3, h4, fun x hx => h5 x ?_⟩
    rw [h1.le, h2.le]
    exact hx
  · rintro ⟨h3, h4, h5⟩
    refine ⟨a, b, ha, hb, h3, h4, fun x hx => h5 x ?_⟩
    rw [h1.le, h2.le] at hx
    exact hx
abbrev PapR := Option (T3 TStr Int Int)
def tDrift : TStr := ⟨"drift", by decide +kernel⟩
def driftD : Option (Nat × Nat) → PapR
  | none => none
  | some (f, l) => some ⟨tDrift, f, l⟩
def sp_drift : Sp := fun vs H Q _ => ∃ (F : Hp) (m : V) (M : Mach) (R S n : Nat), vs = [m, .int n] ∧ Same F H ∧ Is F m M ∧ MOk M R S ∧ n ≤ 5000 ∧
  ∀ (F' H' : Hp) (v : V) (k : Nat) (c : Cfg) (o : Option (Nat × Nat)), Gr mu0 F H F' H' → Gone M n k c → FirstOf (DriftAt M) (known M k c) o → Is F' v (driftD o) → Q v H'
/-- the best of the moments looked at -/
def bestV : Option Nat → V
  | none => .non
  | some b => .int b
def BestOf (P : Nat → Prop) (f l : Nat) : Option Nat → Prop
  | none => ∀ g, f ≤ g → g < l → ¬ P g
  | some b => f ≤ b ∧ b < l ∧ P b ∧ ∀ g, f ≤ g → g < b → ¬ P g
theorem ok_drift (t : Tx K mg) : FnOk P w K mg base CX0 5 t.a_drift t.fd_drift ["machine", "most"] sp_drift := by
  refine t.F_drift.ok sc_drift (fun vs H Q E h => ?_) (fun cdv A outer s H vs Q E hr h => ?_)
  · obtain ⟨F, m, M, R, S, n, rfl, _⟩ := h
    rfl
  · obtain ⟨F, m, M, R, S, n, rfl, sF, hm, hM, hn, q⟩ := h
    refine ⟨_, (pss_cons (ps_expr (pe_call (ok_must_machine t) (hr.mono (by decide)) (by rfl) t.m_must_machine t.F_must_machine.kp t.b_must_machine .nil pass0 (pa_cons (pv 0) pa_nil)))
      (pss_cons (ps_set (i := 2) sc_drift.nd rfl (by first | exact Or.inl rfl | exact Or.inr rfl) (pe_make t.M_Log (ok_Log_init t) (hr.mono (by decide)) (by rfl) t.m_Log t.b_Log_init .nil pass0 (pa_cons (pv 0) (pa_cons (pv 1) pa_nil))))
      (pss_cons (ps_for PassesOwn.never rfl (pi_range2 (by rfl) t.n_range (pa_cons pe_int (pa_cons (pe_op op_add (pe_meth0 (pv 2) t.cl_Log t.M_Log_last (ok_Log_last t) (hr.mono (by decide)) t.b_Log_last .nil pass0) pe_int) pa_nil))) (pg_name (i := 3) sc_drift.nd rfl (by first | exact Or.inl rfl | exact Or.inr rfl)) (pss_cons (ps_set (i := 4) sc_drift.nd rfl (by first | exact Or.inl rfl | exact Or.inr rfl) (pe_ix ix_list (pe_fld (pv 2) rfl) (pe_op op_sub (pv 3) pe_int) (fun _ _ => rfl)))
      (pss_cons (ps_set (i := 5) sc_drift.nd rfl (by first | exact Or.inl rfl | exact Or.inr rfl) (pv 4))
      (pss_cons (ps_set (i := 6) sc_drift.nd rfl (by first | exact Or.inl rfl | exact Or.inr rfl) pe_non)
      (pss_cons (ps_for PassesOwn.never rfl (pi_range3 (by rfl) t.n_range (pa_cons (pe_op op_sub (pv 3) pe_int) (pa_cons (pe_un un_neg pe_int) (pa_cons (pe_un un_neg pe_int) pa_nil)))) (pg_name (i := 7) sc_drift.nd rfl (by first | exact Or.inl rfl | exact Or.inr rfl)) (pss_cons (ps_set (i := 4) sc_drift.nd rfl (by first | exact Or.inl rfl | exact Or.inr rfl) (pe_callB (id := "min") (call_min2 rfl) (by rfl) t.n_min (by decide +kernel) (pa_cons (pv 4) (pa_cons (pe_ix ix_list (pe_fld (pv 2) rfl) (pv 7) (fun _ _ => rfl)) pa_nil))))
      (pss_cons (ps_set (i := 5) sc_drift.nd rfl (by first | exact Or.inl rfl | exact Or.inr rfl) (pe_callB (id := "max") (call_max2 rfl) (by rfl) t.n_max (by decide +kernel) (pa_cons (pv 5) (pa_cons (pe_ix ix_list (pe_fld (pv 2) rfl) (pv 7) (fun _ _ => rfl)) pa_nil))))
      (pss_one (ps_if (pt_val (pe_meth (pv 2) t.cl_Log t.M_Log_drifts (ok_Log_drifts t) (hr.mono (by decide)) t.b_Log_drifts .nil pass0 (pa_cons (pv 7) (pa_cons (pv 3) (pa_cons (pv 4) (pa_cons (pv 5) pa_nil)))))) (pss_one (ps_set (i := 6) sc_drift.nd rfl (by first | exact Or.inl rfl | exact Or.inr rfl) (pv 7))) pss_nil)))))
      (pss_one (ps_if (pt_cmpR op_notN (pv 6) pe_non (nomark _)) (pss_one (ps_ret (pe_tup (pa_cons pe_str (pa_cons (pv 6) (pa_cons (pv 3) pa_nil)))))) pss_nil)))))))
      (pss_one (ps_ret pe_non))))), ?_⟩
    refine ⟨_, rfl, F, m, M, R, S, rfl, sF, hm, hM, fun Ha ga => ?_⟩
    refine ⟨_, rfl, _, rfl, fun y dy ny ndy ney => ?_⟩
    have g1 := ga.own (o := .own y) ndy
    have ny2 : (upd Ha dy (.own y)) y = none := by rw [upd_ne ney.symm]; exact ny
    have g2 := g1.own (o := .ins t.C_Log dy []) ny2
    have hy : H y = none := ga.th _ ny
    have fy : F y = none := ga.fh.free ny
    refine ⟨F, y, dy, m, M, R, S, n, rfl, upd_same, fy, g2.fh, hm, hM, hn, fun F3 H3 Ra Pa Ta k c cs g3 fy3 go hh x => ⟨rfl, ?_⟩⟩
    have g13 := g2.thn g3 fun c z => .inr (by rw [show c = y from z]; exact hy)
    obtain ⟨dx, ho⟩ := x.ob
    have gle := go.le
    have lcs := hh.1
    have kn : (cs.length : Int) - 1 - (if (decide (entOf M c = Ent.emp)) = true then 1 else 0) + 1 = known M k c := by
      unfold known
      rw [lcs]
      by_cases e : entOf M c = Ent.emp
      · rw [if_pos (decide_eq_true e), if_pos e]; omega
      · rw [if_neg (by rw [decide_eq_false e]; decide), if_neg e]; omega
    have kle : known M k c ≤ k + 1 := by unfold known; split <;> omega
    refine ⟨_, rfl, y, dx, _, rfl, ho, Log_no (by decide +kernel) (by decide +kernel) (by decide +kernel) (by decide +kernel), F3, y, Ra, Pa, Ta, cs, _, rfl, g3.fh, x, _, _, rfl, rfl, ?_⟩
    refine ⟨1, (known M k c : Int), by rw [← kn], ⟨by decide, by decide, by omega, by omega⟩, ?_⟩
    have sat : ∀ {f : Nat} {a : Cfg}, cs[f]? = some a → stepsC M f = some a := fun h => hh.2 _ _ h
    have atP : ∀ {i : Nat} {c : Cfg}, cs[i]? = some c → (cs.map fun c => V.int c.s)[i]? = some (.int c.s) := fun h => by rw [List.getElem?_map, h]; rfl
    have len : ∀ {f : Nat} {a : Cfg}, cs[f]? = some a → a.l.length ≤ 100000 := fun {f a} h => by
      have h1 := (stepsC_ok hM (sat h)).2
      have h2 := (List.getElem?_eq_some_iff.mp h).1
      omega
    refine for_range (lo := 1) (n := ((known M k c : Int) - 1).toNat) (fun i σ G => ∃ (F4 : Hp) (v3 v4 v5 v6 v7 : Option V), σ = [some m, some (.int n), some (.ref y), v3, v4, v5, v6, v7] ∧ Gr mu0 F3 H3 F4 G ∧ ∀ f l, f < l → l < i + 1 → ¬ DriftAt M f l) ⟨F3, none, none, none, none, none, rfl, Gr.refl g3.fh, fun f l h1 h2 => by omega⟩ ?_ ?_
    · rintro i σ G hi ⟨F4, v3, v4, v5, v6, v7, rfl, g4, hno⟩
      have ik : i + 1 < known M k c := by omega
      have hci : cs[i + 1]? = some _ := List.getElem?_eq_getElem (by omega)
      have hcp : cs[i]? = some _ := List.getElem?_eq_getElem (by omega)
      have x4 := x.gr g4 fun z => z
      obtain ⟨dx4, ho4⟩ := x4.ob
      refine ⟨_, rfl, y, t.C_Log, dx4, _, _, rfl, ho4, t.cl_Log, t.nA_Log_places, Log_get_places, _, rfl, _, _, rfl, rfl, Pa, _, _, _, rfl, rfl, SqL.of (g4.fh _ _ x4.pl), at_of (j := i) (by omega) (atP hcp), ?_⟩
      refine ⟨_, rfl, ?_⟩
      refine ⟨_, rfl, _, _, rfl, rfl, _, rfl, _, rfl, (1 + (i : Int)) - 1, -1, -1, _, rfl, RgC.neg (by omega) (by omega) (by omega) (by omega), for_rangeC (lo := (1 + (i : Int)) - 1) (c := -1) (n := ((1 + (i : Int)) - 1 - -1).toNat) (fun j σ G => ∃ (F5 : Hp) (f' : Nat) (lo hi : Int) (best : Option Nat) (v7 : Option V), σ = [some m, some (.int n), some (.ref y), some (.int (1 + (i : Int))), some (.int lo), some (.int hi), some (bestV best), v7] ∧ Gr mu0 F3 H3 F5 G ∧ i - j ≤ f' ∧ f' ≤ i + 1 - j ∧ LoM M f' (i + 1) lo ∧ HiM M f' (i + 1) hi ∧ BestOf (fun f => DriftAt M f (i + 1)) (i + 1 - j) (i + 1) best)
        ⟨F4, i, _, _, none, v7, rfl, g4, Nat.le_refl _, Nat.le_succ _, LoM.one (sat hcp), HiM.one (sat hcp), fun g h1 h2 => by omega⟩ ?_ ?_⟩
      · rintro j σ G hj ⟨F5, f', lo, hi, best, v7, rfl, g5, hf1, hf2, il, ih, hb⟩
        have jl : j < i + 1 := by omega
        have hcj : cs[i - j]? = some _ := List.getElem?_eq_getElem (by omega)
        have x5 := x.gr g5 fun z => z
        obtain ⟨dx5, ho5⟩ := x5.ob
        refine ⟨_, rfl, _, rfl, y, t.C_Log, dx5, _, _, rfl, ho5, t.cl_Log, t.nA_Log_places, Log_get_places, _, rfl, Pa, _, _, _, rfl, rfl, SqL.of (g5.fh _ _ x5.pl), at_of (j := i - j) (by omega) (atP hcj), _, _, rfl, ?_⟩
        refine ⟨_, rfl, _, rfl, y, t.C_Log, dx5, _, _, rfl, ho5, t.cl_Log, t.nA_Log_places, Log_get_places, _, rfl, Pa, _, _, _, rfl, rfl, SqL.of (g5.fh _ _ x5.pl), at_of (j := i - j) (by omega) (atP hcj), _, _, rfl, ?_⟩
        have il2 := il.step (sat hcj) (by omega) (by omega) (show i - j < i + 1 by omega)
        have ih2 := ih.step (sat hcj) (by omega) (by omega) (show i - j < i + 1 by omega)
        have e1 : (1 : Int) + (i : Int) - 1 + (j : Nat) * -1 = ((i - j : Nat) : Int) := by omega
        have e2 : (1 : Int) + (i : Int) = ((i + 1 : Nat) : Int) := by omega
        refine ⟨_, rfl, y, dx5, _, rfl, ho5, Log_no (by decide +kernel) (by decide +kernel) (by decide +kernel) (by decide +kernel), _, rfl, _, rfl, _, rfl, _, rfl, F5, y, Ra, Pa, Ta, cs, _, i - j, i + 1, _, _, _, _, by show [V.ref y, V.int (1 + (i : Int) - 1 + (j : Nat) * -1), V.int (1 + (i : Int)), _, _] = [V.ref y, V.int ((i - j : Nat) : Int), V.int ((i + 1 : Nat) : Int), _, _]; rw [e1, e2], g5.fh, x5, hcj, hci, len hcj, len hci, fun F6 H6 r g6 hr' => ⟨_, rfl, ?_⟩⟩
        have dd := drift_iff (sat hcj) (sat hci) il2 ih2
        have g56 := g5.trans g6
        refine ite2 (fun c1 => ?_) (fun c1 => ?_)
        · refine ⟨_, rfl, F6, i - j, _, _, some (i - j), some (V.int (1 + (i : Int) - 1 + (j : Nat) * -1)), ?_, g56, by omega, by omega, il2, ih2, by omega, by omega, dd.mpr (hr'.mp c1), fun g h1 h2 => by omega⟩
          show [some m, some (V.int n), some (V.ref y), some (V.int (1 + (i : Int))), _, _, some (V.int (1 + (i : Int) - 1 + (j : Nat) * -1)), _] = [some m, some (V.int n), some (V.ref y), some (V.int (1 + (i : Int))), _, _, some (V.int ((i - j : Nat) : Int)), _]
          rw [e1]
        · have nd : ¬ DriftAt M (i - j) (i + 1) := fun z => c1 (hr'.mpr (dd.mp z))
          refine ⟨F6, i - j, _, _, best, _, rfl, g56, by omega, by omega, il2, ih2, ?_⟩
          cases best with
          | none =>
            intro g h1 h2
            by_cases z : g = i - j
            · rw [z]; exact nd
            · exact hb g (by omega) h2
          | some b =>
            obtain ⟨b1, b2, b3, b4⟩ := hb
            refine ⟨by omega, b2, b3, fun g h1 h2 => ?_⟩
            by_cases z : g = i - j
            · rw [z]; exact nd
            · exact b4 g (by omega) h2
      · rintro σ G ⟨F5, f', lo, hi, best, v7, rfl, g5, hf1, hf2, il, ih, hb⟩
        rw [show i + 1 - ((1 : Int) + (i : Int) - 1 - -1).toNat = 0 by omega] at hb
        refine ⟨_, rfl, rfl, _, rfl, ?_⟩
        cases best with
        | none =>
          refine ifF (by show (!decide (V.non = V.non)) = false; rw [decide_eq_true rfl]; rfl) ?_
          refine ⟨F5, _, _, _, _, _, rfl, g5, fun f l h1 h2 => ?_⟩
          rcases Nat.lt_succ_iff_lt_or_eq.mp h2 with h2 | rfl
          · exact hno f l h1 h2
          · exact hb f (Nat.zero_le _) h1
        | some b =>
          obtain ⟨_, b2, b3, b4⟩ := hb
          refine ifT (by show (!decide (V.int b = V.non)) = true; rw [decide_eq_false (fun z => nomatch z)]; rfl) ?_
          refine ⟨_, rfl, _, rfl, three_le, fun u nu => ?_⟩
          have gu := (g13.trans g5).new (o := .tup [.str tDrift.x, .int b, .int (1 + i)]) nu
          refine q _ _ (.ref u) k c (some (b, i + 1)) gu go ⟨b2, ik, b3, fun f' l' h1 h2 => ?_⟩ ⟨u, _, _, _, rfl, upd_same, rfl, rfl, by show V.int (1 + i) = V.int ((i + 1 : Nat) : Int); congr 1; omega⟩
          rcases h2 with h2 | ⟨rfl, h2⟩
          · exact hno f' l' h1 h2
          · exact b4 f' (Nat.zero_le _) h2
    · rintro σ G ⟨F4, v3, v4, v5, v6, v7, rfl, g4, hno⟩
      exact q F4 G .non k c none (g13.trans g4) go (fun f l h1 h2 => hno f l h1 (by omega)) rfl
theorem cut_mid {xs : List V} {f l : Nat} (h1 : f ≤ l) (h2 : l ≤ xs.length) : cutV xs (some (f : Int)) (some (l : Int)) = (xs.drop f).take (l - f) := by
  unfold cutV
  have e1 : HT.sIx xs.length 0 (some (f : Int)) = f := by
    simp only [HT.sIx]
    rw [if_neg (by omega), Int.toNat_natCast]; omega
  have e2 : HT.sIx xs.length xs.length (some (l : Int)) = l := by
    simp only [HT.sIx]
    rw [if_neg (by omega), Int.toNat_natCast]; omega
  rw [e1, e2]
theorem DriftAt.iff {M : Mach} {f l : Nat} {a b : Cfg} (ha : stepsC M f = some a) (hb : stepsC M l = some b) : DriftAt M f l ↔ (a.r = b.r ∧ a.s ≠ b.s ∧ ∀ x,
  ((a.s < b.s ∧ ∃ i c, f ≤ i ∧ i < l ∧ stepsC M i = some c ∧ c.s ≤ x) ∨ (b.s < a.s ∧ ∃ i c, f ≤ i ∧ i < l ∧ stepsC M i = some c ∧ x ≤ c.s)) → gz a.l x = gz b.l (x + (b.s - a.s))) := by
  constructor
  · rintro ⟨a', b', e1, e2, h⟩
    rw [ha] at e1; rw [hb] at e2
    cases e1; cases e2
    exact h
  · exact fun h => ⟨a, b, ha, hb, h⟩
theorem filter_take_succ' {α : Type} {p : α → Bool} {l : List α} {i : Nat} {x : α} (h : l[i]? = some x) : (l.take (i + 1)).filter p = (l.take i).filter p ++ (if p x = true then [x] else []) := by
  rw [List.take_add_one, h, List.filter_append]
  congr 1
  show List.filter p [x] = _
  rw [List.filter_cons]; rfl
/-- the machine goes on from the setup behind l steps; it ends there -/
def Goes (M : Mach) (l : Nat) : Prop := ∃ c, stepsC M l = some c ∧ stepC M c ≠ none
def Ends (M : Mach) (l : Nat) : Prop := ∃ c, stepsC M l = some c ∧ stepC M c = none
theorem stepsC_le {M : Mach} {k : Nat} {c : Cfg} (h : stepsC M k = some c) : ∀ {l : Nat}, l ≤ k → ∃ c', stepsC M l = some c' := by
  induction k generalizing c with
  | zero =>
    intro l hl
    rw [show l = 0 by omega]
    exact ⟨c, h⟩
  | succ k ih =>
    intro l hl
    by_cases e : l = k + 1
    · rw [e]; exact ⟨c, h⟩
    · obtain ⟨b, hb, _⟩ := stepsC_back h
      exact ih hb (by omega)
theorem Goes.of {M : Mach} {l k : Nat} {c : Cfg} (h : stepsC M k = some c) (lk : l < k) : Goes M l := by
  obtain ⟨d, hd⟩ := stepsC_le h (show l + 1 ≤ k by omega)
  obtain ⟨b, hb, e⟩ := stepsC_back hd
  exact ⟨b, hb, by rw [e]; exact fun z => nomatch z⟩
theorem known_iff {M : Mach} {n k l : Nat} {c : Cfg} (go : Gone M n k c) (hl : l ≤ n) : l < known M k c ↔ Goes M l := by
  have sn : stepC M c = none ↔ entOf M c = Ent.emp := stepC_none
  constructor
  · intro h
    unfold known at h
    split at h
    · exact Goes.of go.stp h
    · rename_i ne
      by_cases e : l = k
      · rw [e]
        exact ⟨c, go.stp, fun z => ne (sn.mp z)⟩
      · exact Goes.of go.stp (by omega)
  · rintro ⟨d, hd, nd⟩
    unfold known
    by_cases lk : l < k
    · split <;> omega
    · have lk : k ≤ l := by omega
      have nn : l = k := by
        rcases go.fin with e | e
        · by_cases z : l = k
          · exact z
          · have := stepsC_end go.stp e (l - (k + 1))
            rw [show k + 1 + (l - (k + 1)) = l by omega, hd] at this
            cases this
        · omega
      rw [nn, go.stp] at hd
      cases hd
      rw [if_neg (fun z => nd (sn.mpr z))]
      omega
theorem ends_iff {M : Mach} {n k : Nat} {c : Cfg} (go : Gone M n k c) {l : Nat} (hl : l ≤ n) : Ends M l ↔ (entOf M c = Ent.emp ∧ k = l) := by
  have sn : stepC M c = none ↔ entOf M c = Ent.emp := stepC_none
  constructor
  · rintro ⟨d, hd, e⟩
    have := go.uniq (n := n) (k' := l) (c' := d) ⟨hl, hd, .inl e⟩
    obtain ⟨rfl, rfl⟩ := this
    exact ⟨sn.mp e, rfl⟩
  · rintro ⟨e, rfl⟩
    exact ⟨c, go.stp, sn.mpr e⟩
/-! ### papers -/
inductive Pap where
  | opn
  | ends (n : Nat)
  | ring (f l : Nat)
  | drift (f l : Nat)
def tOpen : TStr := ⟨"open", by decide +kernel⟩
def PapAt (H : Hp) (v : V) : Pap → Prop
  | .opn => ∃ a, v = .ref a ∧ H a = some (.tup [.str tOpen.x])
  | .ends n => ∃ a, v = .ref a ∧ H a = some (.tup [.str tEnds.x, .int n])
  | .ring f l => ∃ a, v = .ref a ∧ H a = some (.tup [.str tRing.x, .int f, .int l])
  | .drift f l => ∃ a, v = .ref a ∧ H a = some (.tup [.str tDrift.x, .int f, .int l])
theorem PapAt.up {F F' : Hp} {v : V} {p : Pap} (h : PapAt F v p) (s : Same F F') : PapAt F' v p := by
  cases p <;> (obtain ⟨a, e, h⟩ := h; exact ⟨a, e, s _ _ h⟩)
def Pap.ok (M : Mach) : Pap → Prop
  | .opn => False
  | .ends n => Ends M n
  | .ring f l => f < l ∧ SameAt M f l ∧ Goes M l
  | .drift f l => f < l ∧ DriftAt M f l ∧ Goes M l
/-- the moments a paper has are no more than so many -/
def Pap.small (n : Nat) : Pap → Prop
  | .opn => True
  | .ends k => k ≤ n
  | .ring f l => f ≤ n ∧ l ≤ n
  | .drift f l => f ≤ n ∧ l ≤ n
theorem not_dec {p : Prop} [Decidable p] (h : (!decide p) = true) : ¬ p := fun z => by rw [decide_eq_true z] at h; cases h
theorem of_not_dec {p : Prop} [Decidable p] (h : ¬ (!decide p) = true) : p := by
  by_cases z : p
  · exact z
  · rw [decide_eq_false z] at h; exact absurd rfl h
def sp_is_ring : Sp := fun vs H Q _ => ∃ (F : Hp) (m : V) (M : Mach) (R S f l : Nat), vs = [m, .int f, .int l] ∧ Same F H ∧ Is F m M ∧ MOk M R S ∧ l ≤ 5000 ∧
  ∀ (F' H' : Hp) (r : Bool), Gr mu0 F H F' H' → (r = true ↔ (f < l ∧ SameAt M f l ∧ Goes M l)) → Q (.bl r) H'
theorem ok_is_ring (t : Tx K mg) : FnOk P w K mg base CX0 5 t.a_is_ring t.fd_is_ring ["machine", "first", "last"] sp_is_ring := by
  refine t.F_is_ring.ok sc_is_ring (fun vs H Q E h => ?_) (fun cdv A outer s H vs Q E hr h => ?_)
  · obtain ⟨F, m, M, R, S, f, l, rfl, _⟩ := h
    rfl
  · obtain ⟨F, m, M, R, S, f, l, rfl, sF, hm, hM, hl, q⟩ := h
    refine ⟨_, (pss_cons (ps_set (i := 3) sc_is_ring.nd rfl (by first | exact Or.inl rfl | exact Or.inr rfl) (pe_make t.M_Log (ok_Log_init t) (hr.mono (by decide)) (by rfl) t.m_Log t.b_Log_init .nil pass0 (pa_cons (pv 0) (pa_cons (pv 2) pa_nil))))
      (pss_one (ps_ret (pe_and (pe_chain op_lt op_le (pv 1) (pv 2) (pe_meth0 (pv 3) t.cl_Log t.M_Log_last (ok_Log_last t) (hr.mono (by decide)) t.b_Log_last .nil pass0)) (pe_one (pe_meth (pv 3) t.cl_Log t.M_Log_same (ok_Log_same t) (hr.mono (by decide)) t.b_Log_same .nil pass0 (pa_cons (pv 1) (pa_cons (pv 2) pa_nil)))))))), ?_⟩
    have ga : Gr mu0 F H F H := Gr.refl sF
    refine ⟨_, rfl, _, rfl, fun y dy ny ndy ney => ?_⟩
    have g1 := ga.own (o := .own y) ndy
    have ny2 : (upd H dy (.own y)) y = none := by rw [upd_ne ney.symm]; exact ny
    have g2 := g1.own (o := .ins t.C_Log dy []) ny2
    have hy : H y = none := ga.th _ ny
    have fy : F y = none := ga.fh.free ny
    refine ⟨F, y, dy, m, M, R, S, l, rfl, upd_same, fy, g2.fh, hm, hM, hl, fun F3 H3 Ra Pa Ta k c cs g3 fy3 go hh x => ⟨rfl, ?_⟩⟩
    have g13 := g2.thn g3 fun c z => .inr (by rw [show c = y from z]; exact hy)
    obtain ⟨dx, ho⟩ := x.ob
    have gle := go.le
    have lcs := hh.1
    have kn : (cs.length : Int) - 1 - (if (decide (entOf M c = Ent.emp)) = true then 1 else 0) + 1 = known M k c := by
      unfold known
      rw [lcs]
      by_cases e : entOf M c = Ent.emp
      · rw [if_pos (decide_eq_true e), if_pos e]; omega
      · rw [if_neg (by rw [decide_eq_false e]; decide), if_neg e]; omega
    have kle : known M k c ≤ k + 1 := by unfold known; split <;> omega
    have ki := known_iff go (Nat.le_refl l)
    have sat : ∀ {f : Nat} {a : Cfg}, cs[f]? = some a → stepsC M f = some a := fun h => hh.2 _ _ h
    refine ⟨_, rfl, _, rfl, _, _, rfl, rfl, _, rfl, ite2 (fun c1 => ?_) (fun c1 => ?_)⟩
    · have c1 : (f : Int) < l := of_decide_eq_true c1
      refine ⟨_, rfl, y, dx, _, rfl, ho, Log_no (by decide +kernel) (by decide +kernel) (by decide +kernel) (by decide +kernel), F3, y, Ra, Pa, Ta, cs, _, rfl, g3.fh, x, _, _, rfl, rfl, _, rfl, ite2 (fun c2 => ?_) (fun c2 => ?_)⟩
      · have c2 := of_decide_eq_true c2
        have lk : l < known M k c := by omega
        have hf : cs[f]? = some _ := List.getElem?_eq_getElem (by omega)
        have hl : cs[l]? = some _ := List.getElem?_eq_getElem (by omega)
        refine ⟨_, rfl, y, dx, _, rfl, ho, Log_no (by decide +kernel) (by decide +kernel) (by decide +kernel) (by decide +kernel), _, rfl, _, rfl, F3, y, Ra, Pa, Ta, cs, _, f, l, _, _, rfl, g3.fh, x, hf, hl, ?_⟩
        refine q F3 _ _ g13 ⟨fun z => ⟨by omega, ⟨_, _, sat hf, sat hl, z⟩, ki.mp lk⟩, fun ⟨_, ⟨a, b, h1, h2, h3⟩, _⟩ => ?_⟩
        rw [sat hf] at h1
        rw [sat hl] at h2
        cases h1; cases h2
        exact h3
      · have c2 := fun z => c2 (decide_eq_true z)
        refine q F3 _ _ g13 ⟨(fun z => nomatch z), fun z => ?_⟩
        have := ki.mpr z.2.2
        exact absurd (by omega) c2
    · have c1 : ¬ (f : Int) < l := fun z => c1 (decide_eq_true z)
      exact ⟨_, rfl, ifF rfl (q F3 _ _ g13 ⟨(fun z => nomatch z), fun z => absurd z.1 (by omega)⟩)⟩
def sp_is_drift : Sp := fun vs H Q _ => ∃ (F : Hp) (m : V) (M : Mach) (R S f l : Nat), vs = [m, .int f, .int l] ∧ Same F H ∧ Is F m M ∧ MOk M R S ∧ l ≤ 5000 ∧
  ∀ (F' H' : Hp) (r : Bool), Gr mu0 F H F' H' → (r = true ↔ (f < l ∧ DriftAt M f l ∧ Goes M l)) → Q (.bl r) H'
theorem ok_is_drift (t : Tx K mg) : FnOk P w K mg base CX0 5 t.a_is_drift t.fd_is_drift ["machine", "first", "last"] sp_is_drift := by
  refine t.F_is_drift.ok sc_is_drift (fun vs H Q E h => ?_) (fun cdv A outer s H vs Q E hr h => ?_)
  · obtain ⟨F, m, M, R, S, f, l, rfl, _⟩ := h
    rfl
  · obtain ⟨F, m, M, R, S, f, l, rfl, sF, hm, hM, hl, q⟩ := h
    refine ⟨_, (pss_cons (ps_set (i := 3) sc_is_drift.nd rfl (by first | exact Or.inl rfl | exact Or.inr rfl) (pe_make t.M_Log (ok_Log_init t) (hr.mono (by decide)) (by rfl) t.m_Log t.b_Log_init .nil pass0 (pa_cons (pv 0) (pa_cons (pv 2) pa_nil))))
      (pss_cons (ps_if (pt_not (pt_chain op_lt op_le (pv 1) (pv 2) (pe_meth0 (pv 3) t.cl_Log t.M_Log_last (ok_Log_last t) (hr.mono (by decide)) t.b_Log_last .nil pass0))) (pss_one (ps_ret pe_bl)) pss_nil)
      (pss_cons (ps_set (i := 4) sc_is_drift.nd rfl (by first | exact Or.inl rfl | exact Or.inr rfl) (pe_slice sl_list (pe_fld (pv 3) rfl) (po_some (pv 1)) (po_some (pv 2))))
      (pss_one (ps_ret (pe_meth (pv 3) t.cl_Log t.M_Log_drifts (ok_Log_drifts t) (hr.mono (by decide)) t.b_Log_drifts .nil pass0 (pa_cons (pv 1) (pa_cons (pv 2) (pa_cons (pe_callB (id := "min") (cr_min rfl) (by rfl) t.n_min (by decide +kernel) (pa_cons (pv 4) pa_nil)) (pa_cons (pe_callB (id := "max") (cr_max rfl) (by rfl) t.n_max (by decide +kernel) (pa_cons (pv 4) pa_nil)) pa_nil)))))))))), ?_⟩
    have ga : Gr mu0 F H F H := Gr.refl sF
    refine ⟨_, rfl, _, rfl, fun y dy ny ndy ney => ?_⟩
    have g1 := ga.own (o := .own y) ndy
    have ny2 : (upd H dy (.own y)) y = none := by rw [upd_ne ney.symm]; exact ny
    have g2 := g1.own (o := .ins t.C_Log dy []) ny2
    have hy : H y = none := ga.th _ ny
    have fy : F y = none := ga.fh.free ny
    refine ⟨F, y, dy, m, M, R, S, l, rfl, upd_same, fy, g2.fh, hm, hM, hl, fun F3 H3 Ra Pa Ta k c cs g3 fy3 go hh x => ⟨rfl, ?_⟩⟩
    have g13 := g2.thn g3 fun c z => .inr (by rw [show c = y from z]; exact hy)
    obtain ⟨dx, ho⟩ := x.ob
    have gle := go.le
    have lcs := hh.1
    have kn : (cs.length : Int) - 1 - (if (decide (entOf M c = Ent.emp)) = true then 1 else 0) + 1 = known M k c := by
      unfold known
      rw [lcs]
      by_cases e : entOf M c = Ent.emp
      · rw [if_pos (decide_eq_true e), if_pos e]; omega
      · rw [if_neg (by rw [decide_eq_false e]; decide), if_neg e]; omega
    have kle : known M k c ≤ k + 1 := by unfold known; split <;> omega
    have ki := known_iff go (Nat.le_refl l)
    have sat : ∀ {f : Nat} {a : Cfg}, cs[f]? = some a → stepsC M f = some a := fun h => hh.2 _ _ h
    have len : ∀ {f : Nat} {a : Cfg}, cs[f]? = some a → a.l.length ≤ 100000 := fun {f a} h => by
      have h1 := (stepsC_ok hM (sat h)).2
      have h2 := (List.getElem?_eq_some_iff.mp h).1
      omega
    refine ⟨_, rfl, _, rfl, _, _, rfl, rfl, _, rfl, ite2 (fun c1 => ?_) (fun c1 => ?_)⟩
    rotate_left
    · have c1 : ¬ (f : Int) < l := fun z => c1 (decide_eq_true z)
      exact ⟨_, rfl, ifT rfl (q F3 _ false g13 ⟨(fun z => nomatch z), fun z => absurd z.1 (by omega)⟩)⟩
    have c1 : (f : Int) < l := of_decide_eq_true c1
    refine ⟨_, rfl, y, dx, _, rfl, ho, Log_no (by decide +kernel) (by decide +kernel) (by decide +kernel) (by decide +kernel), F3, y, Ra, Pa, Ta, cs, _, rfl, g3.fh, x, _, _, rfl, rfl, _, rfl, ite2 (fun c2 => ?_) (fun c2 => ?_)⟩
    · have c2 := not_dec c2
      refine q F3 _ false g13 ⟨(fun z => nomatch z), fun z => ?_⟩
      have := ki.mpr z.2.2
      exact absurd (by omega) c2
    have c2 := of_not_dec c2
    have lk : l < known M k c := by omega
    have hf : cs[f]? = some _ := List.getElem?_eq_getElem (by omega)
    have hl' : cs[l]? = some _ := List.getElem?_eq_getElem (by omega)
    refine ⟨_, rfl, y, t.C_Log, dx, _, _, rfl, ho, t.cl_Log, t.nA_Log_places, Log_get_places, _, rfl, _, rfl, _, rfl, _, rfl, Pa, _, rfl, SqL.of (g3.fh _ _ x.pl), fun P nP => ?_⟩
    rw [cut_mid (by omega) (by rw [List.length_map]; omega)]
    have ens : ((cs.map fun c => V.int c.s).drop f).take (l - f) = (((cs.drop f).take (l - f)).map (·.s)).map V.int := by
      rw [List.map_map, List.map_take, List.map_drop]; rfl
    rw [ens]
    generalize hns : ((cs.drop f).take (l - f)).map (·.s) = ns
    have lns : 0 < ns.length := by rw [← hns, List.length_map, List.length_take, List.length_drop]; omega
    have mem : ∀ x, x ∈ ns ↔ ∃ i c, f ≤ i ∧ i < l ∧ stepsC M i = some c ∧ c.s = x := by
      intro x
      rw [← hns, List.mem_map]
      constructor
      · rintro ⟨d, hd, rfl⟩
        obtain ⟨i, hi⟩ := List.getElem?_of_mem hd
        rw [List.getElem?_take] at hi
        split at hi
        · rw [List.getElem?_drop] at hi
          exact ⟨f + i, d, by omega, by omega, sat hi, rfl⟩
        · cases hi
      · rintro ⟨i, d, h1, h2, h3, rfl⟩
        have hi : cs[i]? = some _ := List.getElem?_eq_getElem (by omega)
        rw [sat hi] at h3
        cases h3
        refine ⟨_, List.mem_of_getElem? (i := i - f) ?_, rfl⟩
        rw [List.getElem?_take, if_pos (by omega), List.getElem?_drop, show f + (i - f) = i by omega]
        exact hi
    have g4 := g13.own (o := .lst (ns.map V.int)) nP
    have g3' := (Gr.refl (mu := mu0) g3.fh).own (o := .lst (ns.map V.int)) nP
    have x4 := x.gr g3' fun z => z
    obtain ⟨dx4, ho4⟩ := x4.ob
    have hP : (upd H3 P (.lst (ns.map V.int))) P = some (.lst (ns.map V.int)) := upd_same
    generalize upd H3 P (.lst (ns.map V.int)) = H4 at g4 g3' x4 ho4 hP
    refine ⟨_, rfl, y, dx4, _, rfl, ho4, Log_no (by decide +kernel) (by decide +kernel) (by decide +kernel) (by decide +kernel), _, rfl, _, rfl, ?_⟩
    refine ⟨_, rfl, P, ns, rfl, SqL.of hP, lns, fun lo lm lh => ?_⟩
    refine ⟨_, rfl, P, ns, rfl, SqL.of hP, lns, fun hi hm hh' => ?_⟩
    have il : LoM M f l lo := ⟨(mem lo).mp lm, fun i d h1 h2 h3 => lh _ ((mem _).mpr ⟨i, d, h1, h2, h3, rfl⟩)⟩
    have ih : HiM M f l hi := ⟨(mem hi).mp hm, fun i d h1 h2 h3 => hh' _ ((mem _).mpr ⟨i, d, h1, h2, h3, rfl⟩)⟩
    have dd := drift_iff (sat hf) (sat hl') il ih
    refine ⟨F3, y, Ra, Pa, Ta, cs, _, f, l, _, _, lo, hi, rfl, g4.fh, x4, hf, hl', len hf, len hl', fun F5 H5 r g5 hr' => ?_⟩
    refine q F5 H5 r (g4.trans g5) ⟨fun z => ⟨by omega, dd.mpr (hr'.mp z), ki.mp lk⟩, fun z => hr'.mpr (dd.mp z.2.1)⟩
/-! ### the count of steps to the end -/
def sp_ends_behind : Sp := fun vs H Q _ => ∃ (F : Hp) (m : V) (M : Mach) (R S n : Nat), vs = [m, .int n] ∧ Same F H ∧ Is F m M ∧ MOk M R S ∧ n ≤ 5000 ∧
  ∀ (F' H' : Hp) (k : Nat) (c : Cfg), Gr mu0 F H F' H' → Gone M n k c → Q (if entOf M c = Ent.emp then .int k else .non) H'
theorem ok_ends_behind (t : Tx K mg) : FnOk P w K mg base CX0 4 t.a_ends_behind t.fd_ends_behind ["machine", "most"] sp_ends_behind := by
  refine t.F_ends_behind.ok sc_ends_behind (fun vs H Q E h => ?_) (fun cdv A outer s H vs Q E hr h => ?_)
  · obtain ⟨F, m, M, R, S, n, rfl, _⟩ := h
    rfl
  · obtain ⟨F, m, M, R, S, n, rfl, sF, hm, hM, hn, q⟩ := h
    refine ⟨_, (pss_cons (ps_asg (pe_call (ok_gone t) (hr.mono (by decide)) (by rfl) t.m_gone t.F_gone.kp t.b_gone .nil pass0 (pa_cons (pv 0) (pa_cons (pv 1) pa_nil))) (pg_tup rfl (pgs_cons (pg_name (i := 2) sc_ends_behind.nd rfl (by first | exact Or.inl rfl | exact Or.inr rfl)) (pgs_cons (pg_name (i := 3) sc_ends_behind.nd rfl (by first | exact Or.inl rfl | exact Or.inr rfl)) pgs_nil))))
      (pss_cons (ps_if (pt_val (pv 3)) (pss_one (ps_ret (pe_fld (pv 2) rfl))) pss_nil)
      (pss_one (ps_ret pe_non)))), ?_⟩
    refine ⟨_, rfl, _, rfl, F, m, M, R, S, n, rfl, sF, hm, hM, hn, fun F1 H1 u y d k c g1 hu ny nd fy fd ga go => ?_⟩
    obtain ⟨⟨dx, ho⟩, _⟩ := id ga
    have q1 := q F1 H1 k c g1 go
    refine ⟨u, _, rfl, SqT.of (g1.fh _ _ hu), rfl, _, _, rfl, _, _, rfl, rfl, ?_⟩
    refine ⟨_, rfl, _, rfl, ite2 (fun c1 => ?_) (fun c1 => ?_)⟩
    · rw [if_pos (of_decide_eq_true c1)] at q1
      exact ⟨_, rfl, y, t.C_Goer, dx, _, _, rfl, ho, t.cl_Goer, t.nA_Goer_steps, Goer_get_steps, q1⟩
    · rw [if_neg (fun z => c1 (decide_eq_true z))] at q1
      exact q1
theorem ne_str {a b : Str} (h : ¬ a = b) : ¬ decide (V.str a = V.str b) = true := fun z => h (V.str.inj (of_decide_eq_true z))
/-! ### back papers (plain) -/
theorem addK_nd : ∀ (xs ks : List Part), ks.Nodup → (xs.foldl addK ks).Nodup
  | [], ks, h => h
  | y :: xs, ks, h => by
    refine addK_nd xs (addK ks y) ?_
    unfold addK
    split
    · exact h
    · rename_i n
      rw [List.nodup_append]
      refine ⟨h, List.nodup_cons.mpr ⟨(fun z => nomatch z), List.nodup_nil⟩, fun a ma b mb e => ?_⟩
      rw [List.mem_singleton.mp mb] at e
      exact n (e ▸ ma)
theorem mem_addK2 (xs ks : List Part) (x : Part) : x ∈ xs.foldl addK ks ↔ x ∈ ks ∨ x ∈ xs := by
  refine ⟨mem_addK xs ks x, ?_⟩
  induction xs generalizing ks with
  | nil => rintro (h | h); exact h; cases h
  | cons y xs ih =>
    intro h
    refine ih (addK ks y) ?_
    have k1 : ∀ z, z ∈ ks ∨ z = y → z ∈ addK ks y := fun z m => by
      unfold addK
      split
      · rcases m with m | rfl
        · exact m
        · assumption
      · rcases m with m | rfl
        · exact List.mem_append_left _ m
        · exact List.mem_append_right _ (List.mem_singleton.mpr rfl)
    rcases h with h | h
    · exact .inl (k1 x (.inl h))
    · rcases List.mem_cons.mp h with rfl | h
      · exact .inl (k1 x (.inr rfl))
      · exact .inr h
theorem goB_perm {M : Mach} {R S : Nat} {ps qs : List Part} (h : ps.Perm qs) : (goB M R S ps).Perm (goB M R S qs) := by
  refine (sortD_perm _).trans (List.Perm.trans ?_ (sortD_perm _).symm)
  refine (List.perm_ext_iff_of_nodup (addK_nd _ _ List.nodup_nil) (addK_nd _ _ List.nodup_nil)).mpr fun x => ?_
  rw [mem_addK2, mem_addK2]
  have e : x ∈ (ps.flatMap fun p => aheadOf M S p R) ↔ x ∈ (qs.flatMap fun p => aheadOf M S p R) := by
    rw [List.mem_flatMap, List.mem_flatMap]
    exact ⟨fun ⟨p, m, k⟩ => ⟨p, h.mem_iff.mp m, k⟩, fun ⟨p, m, k⟩ => ⟨p, h.mem_iff.mpr m, k⟩⟩
  rw [e]
theorem lvl_nil {M : Mach} {R S d : Nat} (h : lvl M R S d = []) : ∀ k, d ≤ k → lvl M R S k = []
  | 0, l => by rw [show (0 : Nat) = d by omega]; exact h
  | k + 1, l => by
    by_cases e : d = k + 1
    · rw [← e]; exact h
    · show goB M R S (lvl M R S k) = []
      rw [lvl_nil h k (by omega)]
      exact List.Perm.eq_nil (sortD_perm _)
def FewTo (M : Mach) (R S d : Nat) : Prop := lvl M R S d = [] ∧ ∀ k, k < d → (lvl M R S k).length ≤ 300
def NotEnded (M : Mach) (n : Nat) : Prop := ∀ k c, Gone M n k c → entOf M c ≠ .emp
def BackOk (M : Mach) (R S d : Nat) : Prop := 1 ≤ d ∧ d ≤ 8 ∧ FewTo M R S d ∧ NotEnded M (d - 1)
/-! ### back papers, walked -/
def sp_first_empty : Sp := fun vs H Q _ => ∃ (F : Hp) (m : V) (M : Mach) (R S n : Nat), vs = [m, .int n] ∧ Same F H ∧ Is F m M ∧ MOk M R S ∧ 1 ≤ n ∧ n ≤ 100 ∧
  ∀ (F' H' : Hp) (r : V), Gr mu0 F H F' H' → (decide (r = .non) = false ↔ FewTo M R S n) → Q r H'
theorem ok_first_empty (t : Tx K mg) : FnOk P w K mg base CX0 3 t.a_first_empty t.fd_first_empty ["machine", "most"] sp_first_empty := by
  refine t.F_first_empty.ok sc_first_empty (fun vs H Q E h => ?_) (fun cdv A outer s H vs Q E hr h => ?_)
  · obtain ⟨F, m, M, R, S, n, rfl, _⟩ := h
    rfl
  · obtain ⟨F, m, M, R, S, n, rfl, sF, hm, hM, n1, n100, q⟩ := h
    refine ⟨_, (pss_cons (ps_set (i := 2) sc_first_empty.nd rfl (by first | exact Or.inl rfl | exact Or.inr rfl) (pe_call (ok_ends_of t) (hr.mono (by decide)) (by rfl) t.m_ends_of t.F_ends_of.kp t.b_ends_of .nil pass0 (pa_cons (pv 0) pa_nil)))
      (pss_cons (ps_for PassesOwn.never rfl (pi_range2 (by rfl) t.n_range (pa_cons pe_int (pa_cons (pe_op op_add (pv 1) pe_int) pa_nil))) (pg_name (i := 3) sc_first_empty.nd rfl (by first | exact Or.inl rfl | exact Or.inr rfl)) (pss_cons (ps_if (pt_cmpR op_gt (pe_callB (id := "len") call_lenQ (by rfl) t.n_len (by decide +kernel) (pa_cons (pv 2) pa_nil)) (pe_glob (v := .int 300) (by rfl) t.m_MOST_PARTS ⟨_, rfl⟩) (nomark _)) (pss_one (ps_ret pe_non)) pss_nil)
      (pss_cons (ps_set (i := 2) sc_first_empty.nd rfl (by first | exact Or.inl rfl | exact Or.inr rfl) (pe_call (ok_gone_back t) (hr.mono (by decide)) (by rfl) t.m_gone_back t.F_gone_back.kp t.b_gone_back .nil pass0 (pa_cons (pv 0) (pa_cons (pv 2) pa_nil))))
      (pss_one (ps_if (pt_cmpR (op_eqD hr.units) (pv 2) (pe_lst pa_nil) (by rfl)) (pss_one (ps_ret (pv 3))) pss_nil)))))
      (pss_one (ps_ret pe_non)))), ?_⟩
    refine ⟨_, rfl, F, m, M, R, S, rfl, sF, hm, hM, fun F1 H1 c xs g1 hc al => ?_⟩
    refine ⟨_, rfl, _, _, rfl, rfl, 1, _, rfl, ⟨by decide, by decide, by omega, by omega⟩, for_range (lo := 1) (n := ((n : Int) + 1 - 1).toNat) (fun i σ G => ∃ (F2 : Hp) (a : Addr) (ys : List V) (ps : List Part) (v3 : Option V), σ = [some m, some (.int n), some (.ref a), v3] ∧ Gr mu0 F H F2 G ∧ F2 a = some (.lst ys) ∧ IsAll F2 ys ps ∧ ps.Perm (lvl M R S i) ∧ (∀ k, k < i → (lvl M R S k).length ≤ 300) ∧ ∀ k, 1 ≤ k → k ≤ i → lvl M R S k ≠ [])
      ⟨F1, c, xs, _, none, rfl, g1, hc, al, (sortD_perm _).symm, (fun k z => by omega), fun k z1 z2 => by omega⟩ ?_ ?_⟩
    · rintro i σ G hi ⟨F2, a, ys, ps, v3, rfl, g, ha, al, pm, few, ne⟩
      have hi : i < n := by omega
      have lps : ys.length = (lvl M R S i).length := by rw [al.1]; exact pm.length_eq
      refine ⟨_, rfl, a, ys, rfl, .inl (SqL.of (g.fh _ _ ha)), _, _, rfl, rfl, _, rfl, ?_⟩
      by_cases c1 : 300 < (lvl M R S i).length
      · refine ifT (decide_eq_true (by omega)) ?_
        exact q _ _ _ g ⟨(fun z => nomatch z), fun z => by have := z.2 i hi; omega⟩
      refine ifF (decide_eq_false (by omega)) ?_
      refine ⟨_, rfl, _, rfl, F2, m, M, R, S, i + 1, a, ys, ps, rfl, g.fh, hm.up g.ff, hM, ha, al, (fun p mp => lvl_ok i p (pm.mem_iff.mp mp)), by omega, by rw [pm.length_eq]; omega, fun F3 G3 b zs g3 hb al3 => ?_⟩
      have t3 := g.trans g3
      have pm3 : (goB M R S ps).Perm (lvl M R S (i + 1)) := goB_perm pm
      refine ⟨_, rfl, nil_le, fun l nl => ?_⟩
      have t4 := t3.own (o := .lst []) nl
      have hb4 := t4.fh _ _ hb
      refine eq_dat (a := goB M R S ps) (b := ([] : List Part)) ⟨b, zs, rfl, hb4, IsAll.up al3 t4.fh⟩ ⟨l, [], rfl, upd_same, All2.nil⟩ ⟨_, rfl, ?_⟩
      generalize upd G3 l (.lst []) = G4 at t4 ⊢
      have few' : ∀ k, k < i + 1 → (lvl M R S k).length ≤ 300 := fun k z => by
        by_cases e : k = i
        · rw [e]; omega
        · exact few k (by omega)
      by_cases c2 : goB M R S ps = []
      · refine ifT (decide_eq_true c2) ⟨_, rfl, ?_⟩
        have e : lvl M R S (i + 1) = [] := by
          rw [c2] at pm3
          exact List.Perm.eq_nil pm3.symm
        refine q _ _ _ t4 ⟨fun _ => ⟨lvl_nil e n (by omega), fun k z => ?_⟩, fun _ => rfl⟩
        by_cases z2 : k < i + 1
        · exact few' k z2
        · rw [lvl_nil e k (by omega)]; exact Nat.zero_le _
      · refine ifF (decide_eq_false c2) ?_
        refine ⟨F3, b, zs, _, _, rfl, t4, hb, al3, pm3, few', fun k z1 z2 => ?_⟩
        by_cases e : k = i + 1
        · rw [e]
          intro z
          rw [z] at pm3
          exact c2 (List.Perm.eq_nil pm3)
        · exact ne k z1 (by omega)
    · rintro σ G ⟨F2, a, ys, ps, v3, rfl, g, ha, al, pm, few, ne⟩
      exact q _ _ _ g ⟨(fun z => nomatch z), fun z => absurd z.1 (ne n n1 (by omega))⟩
def sp_is_back : Sp := fun vs H Q _ => ∃ (F : Hp) (m : V) (M : Mach) (R S n : Nat), vs = [m, .int n] ∧ Same F H ∧ Is F m M ∧ MOk M R S ∧
  ∀ (F' H' : Hp) (b : Bool), Gr mu0 F H F' H' → (b = true ↔ BackOk M R S n) → Q (.bl b) H'
theorem ok_is_back (t : Tx K mg) : FnOk P w K mg base CX0 5 t.a_is_back t.fd_is_back ["machine", "depth"] sp_is_back := by
  refine t.F_is_back.ok sc_is_back (fun vs H Q E h => ?_) (fun cdv A outer s H vs Q E hr h => ?_)
  · obtain ⟨F, m, M, R, S, n, rfl, _⟩ := h
    rfl
  · obtain ⟨F, m, M, R, S, n, rfl, sF, hm, hM, q⟩ := h
    refine ⟨_, (pss_cons (ps_if (pt_not (pt_chain op_le op_le pe_int (pv 1) (pe_glob (v := .int 8) (by rfl) t.m_MOST_DEPTH ⟨_, rfl⟩))) (pss_one (ps_ret pe_bl)) pss_nil)
      (pss_cons (ps_set (i := 2) sc_is_back.nd rfl (by first | exact Or.inl rfl | exact Or.inr rfl) (pe_call (ok_first_empty t) (hr.mono (by decide)) (by rfl) t.m_first_empty t.F_first_empty.kp t.b_first_empty .nil pass0 (pa_cons (pv 0) (pa_cons (pv 1) pa_nil))))
      (pss_one (ps_ret (pe_and (pe_cmpR op_notN (pv 2) pe_non (nomark _)) (pe_one (pe_cmpR op_isN (pe_call (ok_ends_behind t) (hr.mono (by decide)) (by rfl) t.m_ends_behind t.F_ends_behind.kp t.b_ends_behind .nil pass0 (pa_cons (pv 0) (pa_cons (pe_op op_sub (pv 1) pe_int) pa_nil))) pe_non (nomark _)))))))), ?_⟩
    have g0 : Gr mu0 F H F H := Gr.refl sF
    refine ⟨_, rfl, _, _, rfl, rfl, _, rfl, ?_⟩
    by_cases c1 : 1 ≤ n
    case neg => exact ifF (decide_eq_false (by omega)) ⟨_, rfl, ifT rfl (q _ _ false g0 ⟨(fun z => nomatch z), fun z => absurd z.1 c1⟩)⟩
    refine ifT (decide_eq_true (by omega)) ⟨_, _, rfl, rfl, _, rfl, ?_⟩
    by_cases c2 : n ≤ 8
    case neg => exact ifT (by rw [decide_eq_false (show ¬ (n : Int) ≤ 8 by omega)]; rfl) (q _ _ false g0 ⟨(fun z => nomatch z), fun z => absurd z.2.1 c2⟩)
    refine ifF (by rw [decide_eq_true (show (n : Int) ≤ 8 by omega)]; rfl) ?_
    refine ⟨_, rfl, _, rfl, F, m, M, R, S, n, rfl, sF, hm, hM, c1, by omega, fun F1 H1 r g1 hr1 => ?_⟩
    refine ⟨_, rfl, rfl, _, rfl, ?_⟩
    by_cases c3 : r = .non
    · refine ifF (by rw [decide_eq_true c3]; rfl) ?_
      refine q _ _ false g1 ⟨(fun z => nomatch z), fun z => ?_⟩
      have := hr1.mpr z.2.2.1
      rw [decide_eq_true c3] at this
      cases this
    refine ifT (by rw [decide_eq_false c3]; rfl) ?_
    have few := hr1.mp (decide_eq_false c3)
    refine ⟨_, rfl, _, rfl, _, _, rfl, rfl, F1, m, M, R, S, n - 1, by show [m, V.int ((n : Int) - 1)] = [m, V.int ((n - 1 : Nat) : Int)]; rw [show ((n : Int) - 1) = ((n - 1 : Nat) : Int) by omega], g1.fh, hm.up g1.ff, hM, by omega, fun F2 H2 k c g2 go => ⟨rfl, ?_⟩⟩
    have t2 := g1.trans g2
    by_cases e : entOf M c = .emp
    · rw [if_pos e]
      exact q _ _ false t2 ⟨(fun z => nomatch z), fun z => absurd e (z.2.2.2 k c go)⟩
    · rw [if_neg e]
      refine q _ _ true t2 ⟨fun _ => ⟨c1, c2, few, fun k' c' go' => ?_⟩, fun _ => rfl⟩
      obtain ⟨_, ec⟩ := go.uniq go'
      rw [← ec]; exact e
def tBack : TStr := ⟨"back", by decide +kernel⟩
def backD (o : Option Nat) : Option (T2 TStr Int) := o.map fun d => ⟨tBack, d⟩
/-- the least of these depths -/
structure LeastB (M : Mach) (R S n : Nat) (o : Option Nat) : Prop where
  no : o = none → ∀ d, 1 ≤ d → d ≤ n → ¬ BackOk M R S d
  yes : ∀ d, o = some d → 1 ≤ d ∧ d ≤ n ∧ BackOk M R S d ∧ ∀ e, 1 ≤ e → e < d → ¬ BackOk M R S e
theorem LeastB.uniq {M : Mach} {R S n : Nat} {o o' : Option Nat} (a : LeastB M R S n o) (b : LeastB M R S n o') : o = o' := by
  cases o with
  | none =>
    cases o' with
    | none => rfl
    | some d' =>
      obtain ⟨h1, h2, h3, _⟩ := b.yes d' rfl
      exact absurd h3 (a.no rfl d' h1 h2)
  | some d =>
    obtain ⟨h1, h2, h3, h4⟩ := a.yes d rfl
    cases o' with
    | none => exact absurd h3 (b.no rfl d h1 h2)
    | some d' =>
      obtain ⟨k1, k2, k3, k4⟩ := b.yes d' rfl
      have n1 : ¬ d < d' := fun z => k4 d h1 z h3
      have n2 : ¬ d' < d := fun z => h4 d' k1 z k3
      rw [show d = d' by omega]
def sp_no_back : Sp := fun vs H Q _ => ∃ (F : Hp) (m : V) (M : Mach) (R S n : Nat), vs = [m, .int n] ∧ Same F H ∧ Is F m M ∧ MOk M R S ∧ n ≤ 100 ∧
  ∀ (F' H' : Hp) (v : V) (o : Option Nat), Gr mu0 F H F' H' → LeastB M R S n o → Is F' v (backD o) → Q v H'
theorem ok_no_back (t : Tx K mg) : FnOk P w K mg base CX0 6 t.a_no_back t.fd_no_back ["machine", "most"] sp_no_back := by
  refine t.F_no_back.ok sc_no_back (fun vs H Q E h => ?_) (fun cdv A outer s H vs Q E hr h => ?_)
  · obtain ⟨F, m, M, R, S, n, rfl, _⟩ := h
    rfl
  · obtain ⟨F, m, M, R, S, n, rfl, sF, hm, hM, hn, q⟩ := h
    refine ⟨_, (pss_cons (ps_expr (pe_call (ok_must_machine t) (hr.mono (by decide)) (by rfl) t.m_must_machine t.F_must_machine.kp t.b_must_machine .nil pass0 (pa_cons (pv 0) pa_nil)))
      (pss_cons (ps_for PassesOwn.never rfl (pi_range2 (by rfl) t.n_range (pa_cons pe_int (pa_cons (pe_op op_add (pv 1) pe_int) pa_nil))) (pg_name (i := 2) sc_no_back.nd rfl (by first | exact Or.inl rfl | exact Or.inr rfl)) (pss_one (ps_if (pt_val (pe_call (ok_is_back t) (hr.mono (by decide)) (by rfl) t.m_is_back t.F_is_back.kp t.b_is_back .nil pass0 (pa_cons (pv 0) (pa_cons (pv 2) pa_nil)))) (pss_one (ps_ret (pe_tup (pa_cons pe_str (pa_cons (pv 2) pa_nil))))) pss_nil)))
      (pss_one (ps_ret pe_non)))), ?_⟩
    refine ⟨_, rfl, F, m, M, R, S, rfl, sF, hm, hM, fun H1 g1 => ?_⟩
    refine ⟨_, rfl, _, _, rfl, rfl, 1, _, rfl, ⟨by decide, by decide, by omega, by omega⟩, for_range (lo := 1) (n := ((n : Int) + 1 - 1).toNat) (fun i σ G => ∃ (F2 : Hp) (v2 : Option V), σ = [some m, some (.int n), v2] ∧ Gr mu0 F H F2 G ∧ ∀ d, 1 ≤ d → d ≤ i → ¬ BackOk M R S d)
      ⟨F, none, rfl, g1, fun d z1 z2 => by omega⟩ ?_ ?_⟩
    · rintro i σ G hi ⟨F2, v2, rfl, g, no⟩
      have hi : i < n := by omega
      have ei : ((1 : Int) + (i : Int)) = ((i + 1 : Nat) : Int) := by omega
      rw [ei]
      refine ⟨_, rfl, _, rfl, F2, m, M, R, S, i + 1, rfl, g.fh, hm.up g.ff, hM, fun F3 G3 b g3 hb => ⟨_, rfl, ?_⟩⟩
      have t3 := g.trans g3
      cases b with
      | true =>
        refine ifT rfl ⟨_, rfl, two_le, fun T nT => ?_⟩
        exact q _ _ (.ref T) (some (i + 1)) (t3.new nT) ⟨(fun z => nomatch z), fun d e => by
          cases e
          exact ⟨by omega, by omega, hb.mp rfl, fun e z1 z2 => no e z1 (by omega)⟩⟩ ⟨T, _, _, rfl, upd_same, rfl, rfl⟩
      | false =>
        refine ifF rfl ⟨F3, _, rfl, t3, fun d z1 z2 => ?_⟩
        by_cases e : d = i + 1
        · subst e
          exact fun z => by have := hb.mpr z; cases this
        · exact no d z1 (by omega)
    · rintro σ G ⟨F2, v2, rfl, g, no⟩
      exact q _ _ .non none g ⟨fun _ d z1 z2 => no d z1 (by omega), fun d e => nomatch e⟩ rfl
/-! ### papers that are looked at -/
inductive Pap5 where
  | ends (n : Nat)
  | ring (f l : Nat)
  | drift (f l : Nat)
  | back (d : Nat)
def Pap5.ob : Pap5 → HO
  | .ends n => .tup [.str tEnds.x, .int n]
  | .ring f l => .tup [.str tRing.x, .int f, .int l]
  | .drift f l => .tup [.str tDrift.x, .int f, .int l]
  | .back d => .tup [.str tBack.x, .int d]
def PapAt5 (H : Hp) (v : V) (p : Pap5) : Prop := ∃ a, v = .ref a ∧ H a = some p.ob
theorem PapAt5.up {F F' : Hp} {v : V} {p : Pap5} (h : PapAt5 F v p) (s : Same F F') : PapAt5 F' v p := by
  obtain ⟨a, e, h⟩ := h
  exact ⟨a, e, s _ _ h⟩
def Pap5.ok (M : Mach) (R S : Nat) : Pap5 → Prop
  | .ends n => Ends M n
  | .ring f l => f < l ∧ SameAt M f l ∧ Goes M l
  | .drift f l => f < l ∧ DriftAt M f l ∧ Goes M l
  | .back d => BackOk M R S d
def Pap5.small (n : Nat) : Pap5 → Prop
  | .ends k => k ≤ n
  | .ring f l => f ≤ n ∧ l ≤ n
  | .drift f l => f ≤ n ∧ l ≤ n
  | .back d => d ≤ n
def sp_shows : Sp := fun vs H Q _ => ∃ (F : Hp) (m v : V) (M : Mach) (R S : Nat) (p : Pap5), vs = [m, v] ∧ Same F H ∧ Is F m M ∧ MOk M R S ∧ PapAt5 F v p ∧ p.small 5000 ∧
  ∀ (F' H' : Hp) (r : Bool), Gr mu0 F H F' H' → (r = true ↔ p.ok M R S) → Q (.bl r) H'
theorem ok_shows (t : Tx K mg) : FnOk P w K mg base CX0 6 t.a_shows t.fd_shows ["machine", "paper"] sp_shows := by
  refine t.F_shows.ok sc_shows (fun vs H Q E h => ?_) (fun cdv A outer s H vs Q E hr h => ?_)
  · obtain ⟨F, m, v, M, R, S, p, rfl, _⟩ := h
    rfl
  · obtain ⟨F, m, v, M, R, S, p, rfl, sF, hm, hM, hp, hsm, q⟩ := h
    refine ⟨_, (pss_cons (ps_expr (pe_call (ok_must_machine t) (hr.mono (by decide)) (by rfl) t.m_must_machine t.F_must_machine.kp t.b_must_machine .nil pass0 (pa_cons (pv 0) pa_nil)))
      (pss_cons (ps_if (pt_cmpR op_eq (pe_ix ix_tup (pv 1) pe_int (fun _ _ => rfl)) pe_str (nomark _)) (pss_one (ps_ret (pe_cmpR op_eq (pe_call (ok_ends_behind t) (hr.mono (by decide)) (by rfl) t.m_ends_behind t.F_ends_behind.kp t.b_ends_behind .nil pass0 (pa_cons (pv 0) (pa_cons (pe_ix ix_tup (pv 1) pe_int (fun _ _ => rfl)) pa_nil))) (pe_ix ix_tup (pv 1) pe_int (fun _ _ => rfl)) (nomark _)))) pss_nil)
      (pss_cons (ps_if (pt_cmpR op_eq (pe_ix ix_tup (pv 1) pe_int (fun _ _ => rfl)) pe_str (nomark _)) (pss_one (ps_ret (pe_call (ok_is_ring t) (hr.mono (by decide)) (by rfl) t.m_is_ring t.F_is_ring.kp t.b_is_ring .nil pass0 (pa_cons (pv 0) (pa_cons (pe_ix ix_tup (pv 1) pe_int (fun _ _ => rfl)) (pa_cons (pe_ix ix_tup (pv 1) pe_int (fun _ _ => rfl)) pa_nil)))))) pss_nil)
      (pss_cons (ps_if (pt_cmpR op_eq (pe_ix ix_tup (pv 1) pe_int (fun _ _ => rfl)) pe_str (nomark _)) (pss_one (ps_ret (pe_call (ok_is_drift t) (hr.mono (by decide)) (by rfl) t.m_is_drift t.F_is_drift.kp t.b_is_drift .nil pass0 (pa_cons (pv 0) (pa_cons (pe_ix ix_tup (pv 1) pe_int (fun _ _ => rfl)) (pa_cons (pe_ix ix_tup (pv 1) pe_int (fun _ _ => rfl)) pa_nil)))))) pss_nil)
      (pss_cons (ps_if (pt_cmpR op_eq (pe_ix ix_tup (pv 1) pe_int (fun _ _ => rfl)) pe_str (nomark _)) (pss_one (ps_ret (pe_call (ok_is_back t) (hr.mono (by decide)) (by rfl) t.m_is_back t.F_is_back.kp t.b_is_back .nil pass0 (pa_cons (pv 0) (pa_cons (pe_ix ix_tup (pv 1) pe_int (fun _ _ => rfl)) pa_nil))))) pss_nil)
      (pss_cons (ps_if (pt_cmpR op_eq (pe_ix ix_tup (pv 1) pe_int (fun _ _ => rfl)) pe_str (nomark _)) (pss_one ps_never) pss_nil)
      (pss_one (ps_ret pe_bl)))))))), ?_⟩
    refine ⟨_, rfl, F, m, M, R, S, rfl, sF, hm, hM, fun Ha ga => ?_⟩
    have iF : ∀ {A B : Prop} {a b : Str}, ¬ a = b → B → if decide (V.str a = V.str b) = true then A else B := fun h b => by rw [if_neg (ne_str h)]; exact b
    have iT : ∀ {A B : Prop} {a : Str}, A → if decide (V.str a = V.str a) = true then A else B := fun a => by rw [if_pos (decide_eq_true rfl)]; exact a
    obtain ⟨a, rfl, ha⟩ := hp
    cases p with
    | ends n =>
      have ha : F a = some (.tup [.str tEnds.x, .int n]) := ha
      have hA := SqT.of (K := K) (ga.fh _ _ ha)
      refine ⟨_, rfl, a, _, _, _, rfl, rfl, hA, atI_nat (j := 0) rfl, rfl, _, rfl, iT ?_⟩
      refine ⟨_, rfl, _, rfl, a, _, _, _, rfl, rfl, hA, atI_nat (j := 1) rfl, F, m, M, R, S, n, rfl, ga.fh, hm, hM, hsm, fun F1 H1 k c g1 go => ?_⟩
      refine ⟨_, rfl, a, _, _, _, rfl, rfl, SqT.of (g1.fh _ _ (g1.ff _ _ ha)), atI_nat (j := 1) rfl, ?_⟩
      have ei := ends_iff go (Nat.le_refl n)
      by_cases e : entOf M c = Ent.emp
      · rw [if_pos e]
        refine ⟨rfl, q _ _ _ (ga.trans g1) ⟨fun z => ei.mpr ⟨e, ?_⟩, fun z => decide_eq_true ?_⟩⟩
        · have := V.int.inj (of_decide_eq_true z); omega
        · rw [(ei.mp z).2]
      · rw [if_neg e]
        refine ⟨rfl, q _ _ _ (ga.trans g1) ⟨fun z => absurd (of_decide_eq_true z) (fun z => nomatch z), fun z => absurd (ei.mp z).1 e⟩⟩
    | ring f l =>
      have ha : F a = some (.tup [.str tRing.x, .int f, .int l]) := ha
      have hA := SqT.of (K := K) (ga.fh _ _ ha)
      refine ⟨_, rfl, a, _, _, _, rfl, rfl, hA, atI_nat (j := 0) rfl, rfl, _, rfl, iF (by decide +kernel) ?_⟩
      refine ⟨_, rfl, a, _, _, _, rfl, rfl, hA, atI_nat (j := 0) rfl, rfl, _, rfl, iT ?_⟩
      refine ⟨_, rfl, _, rfl, a, _, _, _, rfl, rfl, hA, atI_nat (j := 1) rfl, _, rfl, a, _, _, _, rfl, rfl, hA, atI_nat (j := 2) rfl, F, m, M, R, S, f, l, rfl, ga.fh, hm, hM, hsm.2, fun F1 H1 r g1 hr' => ?_⟩
      exact q _ _ r (ga.trans g1) hr'
    | drift f l =>
      have ha : F a = some (.tup [.str tDrift.x, .int f, .int l]) := ha
      have hA := SqT.of (K := K) (ga.fh _ _ ha)
      refine ⟨_, rfl, a, _, _, _, rfl, rfl, hA, atI_nat (j := 0) rfl, rfl, _, rfl, iF (by decide +kernel) ?_⟩
      refine ⟨_, rfl, a, _, _, _, rfl, rfl, hA, atI_nat (j := 0) rfl, rfl, _, rfl, iF (by decide +kernel) ?_⟩
      refine ⟨_, rfl, a, _, _, _, rfl, rfl, hA, atI_nat (j := 0) rfl, rfl, _, rfl, iT ?_⟩
      refine ⟨_, rfl, _, rfl, a, _, _, _, rfl, rfl, hA, atI_nat (j := 1) rfl, _, rfl, a, _, _, _, rfl, rfl, hA, atI_nat (j := 2) rfl, F, m, M, R, S, f, l, rfl, ga.fh, hm, hM, hsm.2, fun F1 H1 r g1 hr' => ?_⟩
      exact q _ _ r (ga.trans g1) hr'
    | back d =>
      have ha : F a = some (.tup [.str tBack.x, .int d]) := ha
      have hA := SqT.of (K := K) (ga.fh _ _ ha)
      refine ⟨_, rfl, a, _, _, _, rfl, rfl, hA, atI_nat (j := 0) rfl, rfl, _, rfl, iF (by decide +kernel) ?_⟩
      refine ⟨_, rfl, a, _, _, _, rfl, rfl, hA, atI_nat (j := 0) rfl, rfl, _, rfl, iF (by decide +kernel) ?_⟩
      refine ⟨_, rfl, a, _, _, _, rfl, rfl, hA, atI_nat (j := 0) rfl, rfl, _, rfl, iF (by decide +kernel) ?_⟩
      refine ⟨_, rfl, a, _, _, _, rfl, rfl, hA, atI_nat (j := 0) rfl, rfl, _, rfl, iT ?_⟩
      exact ⟨_, rfl, _, rfl, a, _, _, _, rfl, rfl, hA, atI_nat (j := 1) rfl, F, m, M, R, S, d, rfl, ga.fh, hm, hM, fun F' H' b g hb => q F' H' b (ga.trans g) hb⟩
/-! ### max(d), d a dict of ints -/
def rMaxI : List V → Hp → VK → Prop := fun ws H Q => ∃ (d : Addr) (l : List PI), ws = [V.ref d] ∧ H d = some (.dK (dI l)) ∧ l ≠ [] ∧ ∀ m, m ∈ dk l → (∀ y, y ∈ dk l → y ≤ m) → Q (.int m) H
open PySem.Spec PyProof.Rows in
theorem cr_maxI {X : Cx} (calm : X.calm = true) : CallR X (.builtin "max") rMaxI := by
  intro pins st σ H ws us Q inv rel0 h
  obtain ⟨d, l, rfl, hd, nl, q⟩ := h
  rw [Vals.ref1 rel0]
  obtain ⟨_, sys, kv, rel, know⟩ := dk_of inv.hok hd
  obtain ⟨ends, dat⟩ := know.dictAt
  obtain ⟨o, _, ho, _, _, _, _, _⟩ := id dat
  have inside := Heap.lt_size ho
  have ks : kv.map Prod.fst = (dk l).map Sum.inl := by
    refine (KV.keys rel).symm.trans ?_
    unfold dI dk
    rw [List.map_map, List.map_map]; rfl
  generalize ei : dk l = is at q ks
  have len1 : kv.length = is.length := by
    have z := congrArg List.length ks
    simpa only [List.length_map] using z
  have len0 : 0 < kv.length := by
    rw [len1, ← ei]
    unfold dk
    rw [List.length_map]
    exact List.length_pos_iff.mpr nl
  have num : ∀ (i : Nat) (v : Value), (∃ k x, kv[i]? = some (k, x) ∧ (mixKind X.prog X.w).is k v = true) → ∃ t, v = Value.int (is.getD i 0) t := by
    rintro i v ⟨k, x, hk, hv⟩
    have z : (kv.map Prod.fst)[i]? = some k := by rw [List.getElem?_map, hk]; rfl
    rw [ks, List.getElem?_map] at z
    obtain ⟨n, hn, rfl⟩ := Option.map_eq_some_iff.mp z
    obtain ⟨t, ht⟩ := Value.isInt_shape (k := n) (v := v) hv
    exact ⟨t, by rw [ht, List.getD_eq_getElem?_getD, hn]; rfl⟩
  refine call_max_walk (wpAny_pyIter_dict (knd := mixKind X.prog X.w) sys dat ?_)
  refine ⟨_, _, _, _, _, _, _, rfl, Walks.dictKeys (knd := mixKind X.prog X.w) (A := X.A.in1) (inv.ok.hd calm) st.heap.objs.size d (Nat.ne_of_lt inside) kv ends, ⟨⟨_, Heap.get?_push_size _ rfl, rfl, rfl⟩, dat.keep fun b u e => Heap.get?_push_of_some _ e⟩, fun b hb => ?_, len0, CmpOf.ints_gt (fun i => is.getD i 0) num, fun v h' tk hP hk => ?_⟩
  · show b < (st.heap.push _).objs.size
    rw [Heap.size_push]
    rcases List.mem_cons.mp hb with z | z
    · rw [z]; exact Nat.lt_succ_self _
    · rw [List.mem_singleton.mp z]; exact Nat.lt_succ_of_lt inside
  · obtain ⟨t, rfl⟩ := num _ v hP
    obtain ⟨b1, b2⟩ := argBest_gt (fun i => is.getD i 0) (kv.length - 1)
    refine ⟨.int _, H, inv.kept (t' := tk) fun b u e => hk b u (fun z => ?_) (Heap.get?_push_of_some _ e), ⟨t, rfl⟩, q _ ?_ fun y hy => ?_⟩
    · have z1 := List.mem_singleton.mp z
      have z2 := Heap.lt_size e
      rw [z1] at z2
      exact (Nat.lt_irrefl _ z2).elim
    · have z : argBest (fun i j => decide (is.getD i 0 > is.getD j 0)) (kv.length - 1) < is.length := by omega
      rw [List.getD_eq_getElem?_getD, List.getElem?_eq_getElem z]
      exact List.getElem_mem z
    · obtain ⟨i, hi, e⟩ := List.mem_iff_getElem.mp hy
      have z : is.getD i 0 = y := by rw [List.getD_eq_getElem?_getD, List.getElem?_eq_getElem hi, ← e]; rfl
      have := b2 i (by omega)
      rw [z] at this
      exact this
/-! ### what a run meets -/
theorem u65 {A : Around} {k : Nat} (hr : Room k A) : A.units + 65 < cLine := by have := hr.un; omega
theorem notin_dat {α : Type} [Dat α] [DecidableEq α] {K : PySem.W.Frag} {H : Hp} {x y : V} {d : α} {ds : List α} {Q : VK} (hx : Is H x d) (hy : Is H y ds) (q : Q (.bl (!decide (d ∈ ds))) H) (hd : Dat.dep α + 1 ≤ 64 := by decide) : rNotInD K x y H Q := by
  obtain ⟨h1, _, _⟩ := eq_dat0 (a := d) (b := d) (by omega)
  obtain ⟨h2, _, _⟩ := eq_dat0 (a := ds) (b := ds) hd
  refine ⟨Dat.py d, ds.map Dat.py, Dat.dp hx, Dat.dp hy, h1, h2, ?_⟩
  have e : ((ds.map Dat.py).any fun z => PyData.eqv z (Dat.py d)) = decide (d ∈ ds) := by
    rw [Bool.eq_iff_iff, List.any_eq_true, decide_eq_true_iff]
    constructor
    · rintro ⟨z, m, e⟩
      obtain ⟨c, mc, rfl⟩ := List.mem_map.mp m
      rw [(Dat.eqv c d).mp e] at mc
      exact mc
    · exact fun m => ⟨_, List.mem_map.mpr ⟨d, m, rfl⟩, (Dat.eqv d d).mpr rfl⟩
  rw [e]
  exact q
/-- row and sign that are looked up -/
def lkOf (c : Cfg) : PI := ⟨c.r, gz c.l c.s⟩
def met1 (acc : List PI) (c : Cfg) : List PI := if lkOf c ∈ acc then acc else acc ++ [lkOf c]
def met (cs : List Cfg) : List PI := cs.foldl met1 []
theorem met_app (cs : List Cfg) (c : Cfg) : met (cs ++ [c]) = met1 (met cs) c := by
  unfold met; rw [List.foldl_append]; rfl
theorem met_len (cs : List Cfg) : (met cs).length ≤ cs.length := by
  have h : ∀ (cs : List Cfg) (acc : List PI), (cs.foldl met1 acc).length ≤ acc.length + cs.length := by
    intro cs
    induction cs with
    | nil => intro acc; exact Nat.le_refl _
    | cons c cs ih =>
      intro acc
      have h1 := ih (met1 acc c)
      have h2 : (met1 acc c).length ≤ acc.length + 1 := by
        unfold met1
        split
        · omega
        · rw [List.length_append]; exact Nat.le_refl _
      show ((cs.foldl met1 (met1 acc c))).length ≤ _
      rw [List.length_cons]
      omega
  have := h cs []
  rw [List.length_nil, Nat.zero_add] at this
  exact this
/-- how often each place is read -/
def cnt1 (l : List PI) (c : Cfg) : List PI := put l c.s ((look l c.s).getD 0 + 1)
def cnt (cs : List Cfg) : List PI := cs.foldl cnt1 []
theorem cnt_app (cs : List Cfg) (c : Cfg) : cnt (cs ++ [c]) = cnt1 (cnt cs) c := by
  unfold cnt; rw [List.foldl_append]; rfl
theorem dk_put (l : List PI) (x v y : Int) : y ∈ dk (put l x v) ↔ y = x ∨ y ∈ dk l := by
  have h : ∀ m : List PI, y ∈ dk m ↔ look m y ≠ none := fun m => by
    rw [show (look m y ≠ none ↔ ¬ look m y = none) from Iff.rfl, look_none]
    exact ⟨fun z w => w z, fun z => by
      by_cases w : y ∈ dk m
      · exact w
      · exact absurd w z⟩
  rw [h, h, look_put]
  by_cases e : y = x
  · rw [if_pos e]; exact ⟨fun _ => .inl e, fun _ => by exact fun z => nomatch z⟩
  · rw [if_neg e]; exact ⟨fun z => .inr z, fun z => z.elim (fun w => absurd w e) id⟩
theorem cnt_facts (cs : List Cfg) : Nd (cnt cs) ∧ (cnt cs).length ≤ cs.length ∧ ∀ y, y ∈ dk (cnt cs) ↔ y ∈ cs.map (·.s) := by
  have h : ∀ (cs : List Cfg) (l : List PI), Nd l → Nd (cs.foldl cnt1 l) ∧ (cs.foldl cnt1 l).length ≤ l.length + cs.length ∧ ∀ y, y ∈ dk (cs.foldl cnt1 l) ↔ (y ∈ cs.map (·.s) ∨ y ∈ dk l) := by
    intro cs
    induction cs with
    | nil => intro l nd; exact ⟨nd, Nat.le_refl _, fun y => ⟨fun z => .inr z, fun z => z.elim (fun w => nomatch w) id⟩⟩
    | cons c cs ih =>
      intro l nd
      obtain ⟨h1, h2, h3⟩ := ih (cnt1 l c) (nd_put nd _ _)
      have h4 : (cnt1 l c).length ≤ l.length + 1 := put_len _ _ _
      refine ⟨h1, by show (cs.foldl cnt1 (cnt1 l c)).length ≤ _; rw [List.length_cons]; omega, fun y => ?_⟩
      show y ∈ dk (cs.foldl cnt1 (cnt1 l c)) ↔ _
      rw [h3, show cnt1 l c = put l c.s ((look l c.s).getD 0 + 1) from rfl, dk_put, List.map_cons, List.mem_cons]
      constructor
      · rintro (z | z | z)
        · exact .inl (.inr z)
        · exact .inl (.inl z)
        · exact .inr z
      · rintro ((z | z) | z)
        · exact .inr (.inl z)
        · exact .inl z
        · exact .inr (.inr z)
  obtain ⟨a, b, c⟩ := h cs [] nd_nil
  refine ⟨a, by rw [List.length_nil, Nat.zero_add] at b; exact b, fun y => (c y).trans ⟨fun z => z.elim id (fun w => nomatch w), fun z => .inl z⟩⟩
/-- the moments at which a place beyond all before is read -/
def fresh (ps : List Cfg) (c : Cfg) : Bool := (ps.all fun b => decide (c.s < b.s)) || (ps.all fun b => decide (b.s < c.s))
def rec1 (st : List Cfg × List PI) (c : Cfg) : List Cfg × List PI := (st.1 ++ [c], if fresh st.1 c = true then st.2 ++ [⟨st.1.length, c.s⟩] else st.2)
def recs (cs : List Cfg) : List PI := (cs.foldl rec1 ([], [])).2
theorem rec_fst (cs : List Cfg) : (cs.foldl rec1 ([], [])).1 = cs := by
  have h : ∀ (cs : List Cfg) (st : List Cfg × List PI), (cs.foldl rec1 st).1 = st.1 ++ cs := by
    intro cs
    induction cs with
    | nil => intro st; rw [List.append_nil]; rfl
    | cons c cs ih =>
      intro st
      show (cs.foldl rec1 (rec1 st c)).1 = _
      rw [ih]
      show (st.1 ++ [c]) ++ cs = _
      rw [List.append_assoc]; rfl
  exact h cs ([], [])
theorem recs_app (cs : List Cfg) (c : Cfg) : recs (cs ++ [c]) = if fresh cs c = true then recs cs ++ [⟨cs.length, c.s⟩] else recs cs := by
  unfold recs
  rw [List.foldl_append]
  have e := rec_fst cs
  show (if fresh (cs.foldl rec1 ([], [])).1 c = true then (cs.foldl rec1 ([], [])).2 ++ [⟨(cs.foldl rec1 ([], [])).1.length, c.s⟩] else (cs.foldl rec1 ([], [])).2) = _
  rw [e]
theorem fresh_iff {cs : List Cfg} {c : Cfg} {lo hi : Int} (il : IsLo cs lo) (ih : IsHi cs hi) : fresh cs c = true ↔ (c.s < lo ∨ hi < c.s) := by
  unfold fresh
  rw [Bool.or_eq_true, List.all_eq_true, List.all_eq_true]
  constructor
  · rintro (h | h)
    · obtain ⟨b, m, e⟩ := List.mem_map.mp il.1
      have := of_decide_eq_true (h b m)
      exact .inl (by omega)
    · obtain ⟨b, m, e⟩ := List.mem_map.mp ih.1
      have := of_decide_eq_true (h b m)
      exact .inr (by omega)
  · rintro (h | h)
    · exact .inl fun b m => decide_eq_true (by have := il.2 b.s (List.mem_map.mpr ⟨b, m, rfl⟩); omega)
    · exact .inr fun b m => decide_eq_true (by have := ih.2 b.s (List.mem_map.mpr ⟨b, m, rfl⟩); omega)
theorem recs_len (cs : List Cfg) : (recs cs).length ≤ cs.length := by
  have h : ∀ (cs : List Cfg) (st : List Cfg × List PI), (cs.foldl rec1 st).2.length ≤ st.2.length + cs.length := by
    intro cs
    induction cs with
    | nil => intro st; exact Nat.le_refl _
    | cons c cs ih =>
      intro st
      have h1 := ih (rec1 st c)
      have h2 : (rec1 st c).2.length ≤ st.2.length + 1 := by
        unfold rec1
        show (if fresh st.1 c = true then st.2 ++ [⟨st.1.length, c.s⟩] else st.2).length ≤ _
        split
        · rw [List.length_append]; exact Nat.le_refl _
        · omega
      show (cs.foldl rec1 (rec1 st c)).2.length ≤ _
      rw [List.length_cons]
      omega
  have := h cs ([], [])
  rw [show ([] : List PI).length = 0 from rfl, Nat.zero_add] at this
  exact this
def sp_met : Sp := fun vs H Q _ => ∃ (F : Hp) (m : V) (M : Mach) (R S n : Nat), vs = [m, .int n] ∧ Same F H ∧ Is F m M ∧ MOk M R S ∧ n ≤ 5000 ∧
  ∀ (F' H' : Hp) (D : Addr) (xs : List V) (cs : List Cfg) (k : Nat) (c : Cfg), Gr mu0 F H F' H' → Gone M n k c → Hist M k cs → Ow H F' H' D (.lst xs) → IsAll F' xs (met cs) → Q (.ref D) H'
theorem ok_met_entries (t : Tx K mg) : FnOk P w K mg base CX0 4 t.a_met_entries t.fd_met_entries ["machine", "most"] sp_met := by
  refine t.F_met_entries.ok sc_met_entries (fun vs H Q E h => ?_) (fun cdv A outer s H vs Q E hr h => ?_)
  · obtain ⟨F, m, M, R, S, n, rfl, _⟩ := h
    rfl
  · obtain ⟨F, m, M, R, S, n, rfl, sF, hm, hM, hn, q⟩ := h
    refine ⟨_, (pss_cons (ps_expr (pe_call (ok_must_machine t) (hr.mono (by decide)) (by rfl) t.m_must_machine t.F_must_machine.kp t.b_must_machine .nil pass0 (pa_cons (pv 0) pa_nil)))
      (pss_cons (ps_set (i := 2) sc_met_entries.nd rfl (by first | exact Or.inl rfl | exact Or.inr rfl) (pe_make t.M_Goer (ok_Goer_init t) (hr.mono (by decide)) (by rfl) t.m_Goer t.b_Goer_init .nil pass0 (pa_cons (pv 0) (pa_cons (pe_tup (pa_cons pe_int (pa_cons pe_int (pa_cons (pe_lst pa_nil) pa_nil)))) pa_nil))))
      (pss_cons (ps_set (i := 3) sc_met_entries.nd rfl (by first | exact Or.inl rfl | exact Or.inr rfl) (pe_lst (pa_cons (pe_tup (pa_cons pe_int (pa_cons pe_int pa_nil))) pa_nil)))
      (pss_cons (ps_while PassesOwn.never (PW.pt (pw_and (pt_cmpR op_lt (pe_fld (pv 2) rfl) (pv 1) (nomark _)) (pw_and1 (pt_val (pe_meth0 (pv 2) t.cl_Goer t.M_Goer_step (ok_Goer_step t) (hr.mono (by decide)) t.b_Goer_step .nil pass0))))) (pss_cons (ps_set (i := 4) sc_met_entries.nd rfl (by first | exact Or.inl rfl | exact Or.inr rfl) (pe_tup (pa_cons (pe_fld (pv 2) rfl) (pa_cons (pe_dget2 (hu_of hr) (pe_fld (pv 2) rfl) (pe_fld (pv 2) rfl) pe_int ⟨by rfl, by rfl, by rfl, by rfl⟩) pa_nil))))
      (pss_one (ps_if (pt_cmpR (op_notInD (u65 hr)) (pv 4) (pv 3) (by rfl)) (pss_one (ps_expr (pe_bm PySem.F.plainAttrs_list PySem.F.slot_list_append PySem.F.type_list_append mt_append (pv 3) (pa_cons (pv 4) pa_nil)))) pss_nil))))
      (pss_one (ps_ret (pv 3))))))), ?_⟩
    refine ⟨_, rfl, F, m, M, R, S, rfl, sF, hm, hM, fun Ha ga0 => ?_⟩
    refine ⟨_, rfl, nil_le, fun l nl => ⟨three_le, fun u nu => ?_⟩⟩
    have g1 := ga0.new (o := .lst []) nl
    have g2 := g1.new (o := .tup [.int 0, .int 0, .ref l]) nu
    have hx : Is (upd (upd F l (.lst [])) u (.tup [.int 0, .int 0, .ref l])) (.ref u) (⟨0, 0, []⟩ : Setup) := ⟨u, _, _, _, rfl, upd_same, rfl, rfl, l, [], rfl, ln (g1.fh.free nu) upd_same, All2.nil⟩
    generalize upd (upd F l (.lst [])) u (.tup [.int 0, .int 0, .ref l]) = F2 at g2 hx
    generalize upd (upd Ha l (.lst [])) u (.tup [.int 0, .int 0, .ref l]) = H2 at g2
    refine fun y dy ny ndy ney => ?_
    have g3 := g2.own (o := .own y) ndy
    have ny2 : (upd H2 dy (.own y)) y = none := by rw [upd_ne ney.symm]; exact ny
    have g4 := g3.own (o := .ins t.C_Goer dy []) ny2
    have hy : H y = none := g2.th _ ny
    have fy : F2 y = none := g2.fh.free ny
    refine ⟨F2, y, dy, m, .ref u, _, rfl, upd_same, fy, g4.fh, hx, fun d H5 nd5 g5 ga => ⟨rfl, ?_⟩⟩
    have g6 := g4.thn g5 fun c z => .inr (by rw [show c = y from z]; exact hy)
    have hd : H d = none := g4.th _ nd5
    have fd : F2 d = none := g4.fh.free nd5
    have hm2 := hm.up g2.ff
    -- found = [(0, 0)]
    refine ⟨two_le, fun t0 nt0 => ⟨one_le, fun D nD => ?_⟩⟩
    have g7 := g6.new (o := .tup [.int 0, .int 0]) nt0
    have ht0 : (upd F2 t0 (.tup [.int 0, .int 0])) t0 = some (.tup [.int 0, .int 0]) := upd_same
    have s27 : Same F2 (upd F2 t0 (.tup [.int 0, .int 0])) := sm_new (Same.refl F2) (g6.fh.free nt0)
    obtain ⟨⟨dx0, ho0⟩, hdc0⟩ := id ga
    have fy7 : (upd F2 t0 (.tup [.int 0, .int 0])) y = none := by rw [upd_ne (ne_of_none ho0 nt0)]; exact fy
    have fd7 : (upd F2 t0 (.tup [.int 0, .int 0])) d = none := by rw [upd_ne (ne_of_none hdc0 nt0)]; exact fd
    have ga7 : GoAt t.C_Goer _ y d m 0 0 [] 0 := ⟨⟨dx0, ln nD (ln (u := .tup [.int 0, .int 0]) nt0 ho0)⟩, ln (u := .lst [.ref t0]) nD (ln nt0 hdc0)⟩
    have g8 := g7.own (o := .lst [.ref t0]) nD
    have w8 : Ow H _ (upd _ D (.lst [.ref t0])) D (.lst [.ref t0]) := Ow.mk1 g7 nD
    generalize upd F2 t0 (.tup [.int 0, .int 0]) = F7 at g8 w8 ht0 s27 fy7 fd7
    refine ⟨fun k σ G => ∃ (F1 : Hp) (j : Nat) (c : Cfg) (xs : List V) (cs : List Cfg) (v4 : Option V), k = n - j ∧ σ = [some m, some (.int n), some (.ref y), some (.ref D), v4] ∧ Gr mu0 F H F1 G ∧ F1 y = none ∧ F1 d = none ∧ Same F2 F1 ∧ GoAt t.C_Goer G y d m c.r c.s c.l j ∧ stepsC M j = some c ∧ j ≤ n ∧ Hist M j cs ∧ Ow H F1 G D (.lst xs) ∧ IsAll F1 xs (met cs),
      ⟨_, F7, 0, c0, _, [c0], none, rfl, rfl, g8, fy7, fd7, s27, ga7, rfl, Nat.zero_le _, Hist.one, w8, All2.one ⟨t0, _, _, rfl, ht0, rfl, rfl⟩⟩, ?_⟩
    rintro k σ G ⟨F1, j, c, xs, cs, v4, rfl, rfl, g, fy, fd, s2, ga, st, lj, hh, w, al⟩
    obtain ⟨ok, ll⟩ := stepsC_ok hM st
    obtain ⟨row, er, s0, ee, eo⟩ := ok.ent hM
    obtain ⟨⟨dx, ho⟩, hdc⟩ := id ga
    have hm1 := hm2.up s2
    have yD : D ≠ y := ne_of w.h ho (by intro z; cases z)
    have dD : D ≠ d := ne_of w.h hdc (by intro z; cases z)
    have lcs := hh.1
    have lxs : xs.length ≤ j + 1 := by rw [al.1, ← lcs]; exact met_len cs
    refine ⟨_, rfl, y, t.C_Goer, dx, _, _, rfl, ho, t.cl_Goer, t.nA_Goer_steps, Goer_get_steps, _, rfl, _, _, rfl, rfl, _, rfl, ?_⟩
    refine ite2 (fun cl => ?_) (fun cl => ?_)
    · have cl : (j : Int) < n := of_decide_eq_true cl
      refine ⟨_, rfl, y, dx, _, rfl, ho, Goer_no (by decide +kernel) (by decide +kernel) (by decide +kernel) (by decide +kernel) (by decide +kernel), F1, y, d, m, M, c.r, c.s, c.l, j, row, entOf M c, rfl, g.fh, fy, fd, hm1, ga, ok.r0, er, s0, ee, by omega, fun he H6 g6 => ⟨_, rfl, iteF ?_⟩, fun p w' r' he H6 g6 gb => ⟨_, rfl, iteT ?_⟩⟩
      · exact ⟨_, rfl, q F1 H6 D xs cs j c (g.trans g6) ⟨lj, st, .inl (stepC_none.mpr he)⟩ hh (w.call g6 fun z => z) al⟩
      · refine ⟨_, fun _ _ h => h, ?_⟩
        have st1 := stepC_go he
        have st2 := (stepsC_next st).trans st1
        obtain ⟨ok2, ll2⟩ := stepsC_ok hM st2
        have g16 := g.thn g6 (fun c z => .inr (by rcases z with rfl | rfl <;> assumption))
        obtain ⟨⟨dx6, ho6⟩, hdc6⟩ := id gb
        have w6 := w.call g6 (fun z => by rcases z with z | z; exact yD z; exact dD z)
        -- one = (goer.row, goer.signs.get(goer.spot, 0))
        refine ⟨_, rfl, y, t.C_Goer, dx6, _, _, rfl, ho6, t.cl_Goer, t.nA_Goer_row, Goer_get_row, ?_⟩
        refine ⟨_, rfl, y, t.C_Goer, dx6, _, _, rfl, ho6, t.cl_Goer, t.nA_Goer_signs, Goer_get_signs, d, rfl, .inl ⟨_, .inl hdc6⟩, ?_⟩
        refine ⟨_, rfl, y, t.C_Goer, dx6, _, _, rfl, ho6, t.cl_Goer, t.nA_Goer_spot, Goer_get_spot, _, DGet.k (k := Sum.inl (c.s + w')) hdc6, ?_⟩
        rw [dI_val, getD_int]
        refine ⟨two_le, fun u nu => ?_⟩
        obtain ⟨c2, ec2⟩ : ∃ c2 : Cfg, c2 = ⟨r', c.s + w', put c.l c.s p⟩ := ⟨_, rfl⟩
        have g7 := g16.new (o := .tup [.int r', .int ((look (put c.l c.s p) (c.s + w')).getD 0)]) nu
        have s7 : Same F1 (upd F1 u (.tup [.int r', .int ((look (put c.l c.s p) (c.s + w')).getD 0)])) := sm_new (Same.refl F1) (g16.fh.free nu)
        have w7 := w6.new (u := .tup [.int r', .int ((look (put c.l c.s p) (c.s + w')).getD 0)]) nu
        have hu : Is (upd F1 u (.tup [.int r', .int ((look (put c.l c.s p) (c.s + w')).getD 0)])) (.ref u) (lkOf ⟨r', c.s + w', put c.l c.s p⟩) := ⟨u, _, _, rfl, upd_same, rfl, rfl⟩
        have gb7 : GoAt t.C_Goer _ y d m r' (c.s + w') (put c.l c.s p) (j + 1) := ⟨⟨dx6, ln (u := .tup [.int r', .int ((look (put c.l c.s p) (c.s + w')).getD 0)]) nu ho6⟩, ln nu hdc6⟩
        have fy7 : (upd F1 u (.tup [.int r', .int ((look (put c.l c.s p) (c.s + w')).getD 0)])) y = none := by rw [upd_ne (ne_of_none ho6 nu)]; exact fy
        have fd7 : (upd F1 u (.tup [.int r', .int ((look (put c.l c.s p) (c.s + w')).getD 0)])) d = none := by rw [upd_ne (ne_of_none hdc6 nu)]; exact fd
        have al7 := al.up s7
        have s27 : Same F2 (upd F1 u (.tup [.int r', .int ((look (put c.l c.s p) (c.s + w')).getD 0)])) := fun c o h => s7 _ _ (s2 _ _ h)
        generalize upd F1 u (.tup [.int r', .int ((look (put c.l c.s p) (c.s + w')).getD 0)]) = F8 at g7 w7 hu fy7 fd7 al7 s27
        generalize upd H6 u (.tup [.int r', .int ((look (put c.l c.s p) (c.s + w')).getD 0)]) = H8 at g7 w7 gb7
        refine ⟨_, rfl, _, rfl, notin_dat (d := lkOf ⟨r', c.s + w', put c.l c.s p⟩) (ds := met cs) (hu.up g7.fh) ⟨D, xs, rfl, w7.h, al7.up g7.fh⟩ ⟨_, rfl, ?_⟩⟩
        have ha := met_app cs ⟨r', c.s + w', put c.l c.s p⟩
        refine ite2 (fun ci => ?_) (fun ci => ?_)
        · have ci : lkOf ⟨r', c.s + w', put c.l c.s p⟩ ∉ met cs := fun z => by rw [decide_eq_true z] at ci; cases ci
          unfold met1 at ha
          rw [if_neg ci] at ha
          refine ⟨_, rfl, .inl ⟨rfl, _, SqL.of w7.h⟩, _, rfl, D, _, _, rfl, rfl, w7.h, lt_size (by omega), ?_⟩
          refine ⟨n - (j + 1), by omega, F8, j + 1, ⟨r', c.s + w', put c.l c.s p⟩, _, cs ++ [⟨r', c.s + w', put c.l c.s p⟩], _, rfl, rfl, g7.set w7.f (.inl w7.n), fy7, fd7, s27, ⟨?_, (upd_ne dD.symm).trans gb7.2⟩, st2, by omega, hh.app st2, w7.set, ?_⟩
          · obtain ⟨dx7, ho7⟩ := gb7.1
            exact ⟨dx7, (upd_ne yD.symm).trans ho7⟩
          · rw [ha]
            exact al7.app (All2.one hu)
        · have ci : lkOf ⟨r', c.s + w', put c.l c.s p⟩ ∈ met cs := by
            by_cases z : lkOf ⟨r', c.s + w', put c.l c.s p⟩ ∈ met cs
            · exact z
            · rw [decide_eq_false z] at ci; exact absurd rfl ci
          unfold met1 at ha
          rw [if_pos ci] at ha
          exact ⟨n - (j + 1), by omega, F8, j + 1, ⟨r', c.s + w', put c.l c.s p⟩, xs, cs ++ [⟨r', c.s + w', put c.l c.s p⟩], _, rfl, rfl, g7, fy7, fd7, s27, gb7, st2, by omega, hh.app st2, w7, by rw [ha]; exact al7⟩
    · have cl : ¬ (j : Int) < n := fun z => cl (decide_eq_true z)
      exact ifF rfl ⟨_, rfl, q F1 G D xs cs j c g ⟨lj, st, .inr (by omega)⟩ hh w al⟩

def sp_visits : Sp := fun vs H Q _ => ∃ (F : Hp) (m : V) (M : Mach) (R S n : Nat), vs = [m, .int n] ∧ Same F H ∧ Is F m M ∧ MOk M R S ∧ n ≤ 5000 ∧
  ∀ (F' H' : Hp) (D : Addr) (xs : List V) (cs : List Cfg) (k : Nat) (c : Cfg), Gr mu0 F H F' H' → Gone M n k c → Hist M k cs → Ow H F' H' D (.lst xs) → IsAll F' xs (srt (cnt cs)) → Q (.ref D) H'
theorem ok_visits (t : Tx K mg) : FnOk P w K mg base CX0 4 t.a_visits t.fd_visits ["machine", "most"] sp_visits := by
  refine t.F_visits.ok sc_visits (fun vs H Q E h => ?_) (fun cdv A outer s H vs Q E hr h => ?_)
  · obtain ⟨F, m, M, R, S, n, rfl, _⟩ := h
    rfl
  · obtain ⟨F, m, M, R, S, n, rfl, sF, hm, hM, hn, q⟩ := h
    refine ⟨_, (pss_cons (ps_expr (pe_call (ok_must_machine t) (hr.mono (by decide)) (by rfl) t.m_must_machine t.F_must_machine.kp t.b_must_machine .nil pass0 (pa_cons (pv 0) pa_nil)))
      (pss_cons (ps_set (i := 2) sc_visits.nd rfl (by first | exact Or.inl rfl | exact Or.inr rfl) (pe_make t.M_Goer (ok_Goer_init t) (hr.mono (by decide)) (by rfl) t.m_Goer t.b_Goer_init .nil pass0 (pa_cons (pv 0) (pa_cons (pe_tup (pa_cons pe_int (pa_cons pe_int (pa_cons (pe_lst pa_nil) pa_nil)))) pa_nil))))
      (pss_cons (ps_set (i := 3) sc_visits.nd rfl (by first | exact Or.inl rfl | exact Or.inr rfl) (pe_disp (pps_cons pe_int pe_int pps_nil) (by rfl) (by rfl) (fun z => by cases z) (by decide)))
      (pss_cons (ps_while PassesOwn.never (PW.pt (pw_and (pt_cmpR op_lt (pe_fld (pv 2) rfl) (pv 1) (nomark _)) (pw_and1 (pt_val (pe_meth0 (pv 2) t.cl_Goer t.M_Goer_step (ok_Goer_step t) (hr.mono (by decide)) t.b_Goer_step .nil pass0))))) (pss_one (ps_dput (hu_of hr) (pv 3) (pe_fld (pv 2) rfl) (pe_op op_add (pe_dget2 (hu_of hr) (pv 3) (pe_fld (pv 2) rfl) pe_int ⟨by rfl, by rfl, by rfl, by rfl⟩) pe_int) rfl)))
      (pss_one (ps_ret (pe_sortedItems rfl (pv 3) (by rfl) t.n_sorted (by decide +kernel)))))))), ?_⟩
    refine ⟨_, rfl, F, m, M, R, S, rfl, sF, hm, hM, fun Ha ga0 => ?_⟩
    refine ⟨_, rfl, nil_le, fun l nl => ⟨three_le, fun u nu => ?_⟩⟩
    have g1 := ga0.new (o := .lst []) nl
    have g2 := g1.new (o := .tup [.int 0, .int 0, .ref l]) nu
    have hx : Is (upd (upd F l (.lst [])) u (.tup [.int 0, .int 0, .ref l])) (.ref u) (⟨0, 0, []⟩ : Setup) := ⟨u, _, _, _, rfl, upd_same, rfl, rfl, l, [], rfl, ln (g1.fh.free nu) upd_same, All2.nil⟩
    generalize upd (upd F l (.lst [])) u (.tup [.int 0, .int 0, .ref l]) = F2 at g2 hx
    generalize upd (upd Ha l (.lst [])) u (.tup [.int 0, .int 0, .ref l]) = H2 at g2
    refine fun y dy ny ndy ney => ?_
    have g3 := g2.own (o := .own y) ndy
    have ny2 : (upd H2 dy (.own y)) y = none := by rw [upd_ne ney.symm]; exact ny
    have g4 := g3.own (o := .ins t.C_Goer dy []) ny2
    have hy : H y = none := g2.th _ ny
    have fy : F2 y = none := g2.fh.free ny
    refine ⟨F2, y, dy, m, .ref u, _, rfl, upd_same, fy, g4.fh, hx, fun d H5 nd5 g5 ga => ⟨rfl, ?_⟩⟩
    have g6 := g4.thn g5 fun c z => .inr (by rw [show c = y from z]; exact hy)
    have hd : H d = none := g4.th _ nd5
    have fd : F2 d = none := g4.fh.free nd5
    have hm2 := hm.up g2.ff
    -- found = {0: 1}
    refine fun D nD => ⟨upd_same, [(Sum.inl 0, .int 1)], rfl, by decide, ?_⟩
    rw [upd_upd, show mergeK [] [((Sum.inl 0 : Key), V.int 1)] = dI (cnt [c0]) from rfl]
    have g7 := g6.own (o := .dK (dI (cnt [c0]))) nD
    have w7 : Ow H F2 (upd H5 D (.dK (dI (cnt [c0])))) D (.dK (dI (cnt [c0]))) := Ow.mk1 g6 nD
    obtain ⟨⟨dx0, ho0⟩, hdc0⟩ := id ga
    have dD : D ≠ d := (ne_of_none hdc0 nD).symm
    have ga7 : GoAt t.C_Goer _ y d m 0 0 [] 0 := ⟨⟨dx0, ln (u := .dK (dI (cnt [c0]))) nD ho0⟩, ln nD hdc0⟩
    refine ⟨fun k σ G => ∃ (j : Nat) (c : Cfg) (cs : List Cfg), k = n - j ∧ σ = [some m, some (.int n), some (.ref y), some (.ref D)] ∧ Gr mu0 F H F2 G ∧ GoAt t.C_Goer G y d m c.r c.s c.l j ∧ stepsC M j = some c ∧ j ≤ n ∧ Hist M j cs ∧ Ow H F2 G D (.dK (dI (cnt cs))),
      ⟨_, 0, c0, [c0], rfl, rfl, g7, ga7, rfl, Nat.zero_le _, Hist.one, w7⟩, ?_⟩
    rintro k σ G ⟨j, c, cs, rfl, rfl, g, ga, st, lj, hh, w⟩
    obtain ⟨ok, ll⟩ := stepsC_ok hM st
    obtain ⟨row, er, s0, ee, eo⟩ := ok.ent hM
    obtain ⟨⟨dx, ho⟩, hdc⟩ := id ga
    have yD : D ≠ y := ne_of w.h ho (by intro z; cases z)
    obtain ⟨cn, cl', ck⟩ := cnt_facts cs
    have lcs := hh.1
    have fin : ∀ G1, Gr mu0 F2 G F2 G1 → D ≠ d → (stepC M c = none ∨ j = n) → rSortIt (.ref D) G1 Q := fun G1 g1 dD e => by
      have w1 := w.call g1 fun z => z
      have g2 := g.trans g1
      refine sitems g2.fh w1.h fun F3 H3 p xs g3 w3 al => ?_
      exact q F3 H3 p xs cs j c (g2.trans g3) ⟨lj, st, e⟩ hh ⟨g2.th _ w3.n, w3.f, w3.h⟩ al
    refine ⟨_, rfl, y, t.C_Goer, dx, _, _, rfl, ho, t.cl_Goer, t.nA_Goer_steps, Goer_get_steps, _, rfl, _, _, rfl, rfl, _, rfl, ?_⟩
    refine ite2 (fun cl => ?_) (fun cl => ?_)
    · have cl : (j : Int) < n := of_decide_eq_true cl
      refine ⟨_, rfl, y, dx, _, rfl, ho, Goer_no (by decide +kernel) (by decide +kernel) (by decide +kernel) (by decide +kernel) (by decide +kernel), F2, y, d, m, M, c.r, c.s, c.l, j, row, entOf M c, rfl, g.fh, fy, fd, hm2, ga, ok.r0, er, s0, ee, by omega, fun he H6 g6 => ⟨_, rfl, iteF ?_⟩, fun p w' r' he H6 g6 gb => ⟨_, rfl, iteT ?_⟩⟩
      · exact ⟨_, rfl, fin H6 g6 dD (.inl (stepC_none.mpr he))⟩
      · refine ⟨_, fun _ _ h => h, ?_⟩
        have st1 := stepC_go he
        have st2 := (stepsC_next st).trans st1
        have g16 := g.thn g6 (fun c z => .inr (by rcases z with rfl | rfl <;> assumption))
        obtain ⟨⟨dx6, ho6⟩, hdc6⟩ := id gb
        have w6 := w.call g6 (fun z => by rcases z with z | z; exact yD z; exact dD z)
        -- found[goer.spot] = found.get(goer.spot, 0) + 1
        refine ⟨_, rfl, D, rfl, .inl ⟨_, .inl w6.h⟩, _, rfl, y, t.C_Goer, dx6, _, _, rfl, ho6, t.cl_Goer, t.nA_Goer_spot, Goer_get_spot, _, DGet.k (k := Sum.inl (c.s + w')) w6.h, ?_⟩
        rw [dI_val, getD_int]
        refine ⟨_, _, rfl, rfl, _, rfl, _, rfl, y, t.C_Goer, dx6, _, _, rfl, ho6, t.cl_Goer, t.nA_Goer_spot, Goer_get_spot, D, _, rfl, DPut.k (k := Sum.inl (c.s + w')) w6.h (size_dI (n := 6000) (by omega) (by decide)), ?_⟩
        rw [dI_put]
        have e : put (cnt cs) (c.s + w') ((look (cnt cs) (c.s + w')).getD 0 + 1) = cnt (cs ++ [⟨r', c.s + w', put c.l c.s p⟩]) := (cnt_app cs ⟨r', c.s + w', put c.l c.s p⟩).symm
        rw [e]
        refine ⟨n - (j + 1), by omega, j + 1, ⟨r', c.s + w', put c.l c.s p⟩, cs ++ [⟨r', c.s + w', put c.l c.s p⟩], rfl, rfl, g16.set w6.f (.inl w6.n), ⟨⟨dx6, (upd_ne yD.symm).trans ho6⟩, (upd_ne dD.symm).trans hdc6⟩, st2, by omega, hh.app st2, w6.set⟩
    · have cl : ¬ (j : Int) < n := fun z => cl (decide_eq_true z)
      exact ifF rfl ⟨_, rfl, fin G (Gr.refl g.fh) dD (.inr (by omega))⟩

def sp_records : Sp := fun vs H Q _ => ∃ (F : Hp) (m : V) (M : Mach) (R S n : Nat), vs = [m, .int n] ∧ Same F H ∧ Is F m M ∧ MOk M R S ∧ n ≤ 5000 ∧
  ∀ (F' H' : Hp) (D : Addr) (xs : List V) (cs : List Cfg) (k : Nat) (c : Cfg), Gr mu0 F H F' H' → Gone M n k c → Hist M k cs → Ow H F' H' D (.lst xs) → IsAll F' xs (recs cs) → Q (.ref D) H'
theorem ok_records (t : Tx K mg) : FnOk P w K mg base CX0 4 t.a_records t.fd_records ["machine", "most"] sp_records := by
  refine t.F_records.ok sc_records (fun vs H Q E h => ?_) (fun cdv A outer s H vs Q E hr h => ?_)
  · obtain ⟨F, m, M, R, S, n, rfl, _⟩ := h
    rfl
  · obtain ⟨F, m, M, R, S, n, rfl, sF, hm, hM, hn, q⟩ := h
    refine ⟨_, (pss_cons (ps_expr (pe_call (ok_must_machine t) (hr.mono (by decide)) (by rfl) t.m_must_machine t.F_must_machine.kp t.b_must_machine .nil pass0 (pa_cons (pv 0) pa_nil)))
      (pss_cons (ps_set (i := 2) sc_records.nd rfl (by first | exact Or.inl rfl | exact Or.inr rfl) (pe_make t.M_Goer (ok_Goer_init t) (hr.mono (by decide)) (by rfl) t.m_Goer t.b_Goer_init .nil pass0 (pa_cons (pv 0) (pa_cons (pe_tup (pa_cons pe_int (pa_cons pe_int (pa_cons (pe_lst pa_nil) pa_nil)))) pa_nil))))
      (pss_cons (ps_set (i := 3) sc_records.nd rfl (by first | exact Or.inl rfl | exact Or.inr rfl) pe_int)
      (pss_cons (ps_set (i := 4) sc_records.nd rfl (by first | exact Or.inl rfl | exact Or.inr rfl) pe_int)
      (pss_cons (ps_set (i := 5) sc_records.nd rfl (by first | exact Or.inl rfl | exact Or.inr rfl) (pe_lst (pa_cons (pe_tup (pa_cons pe_int (pa_cons pe_int pa_nil))) pa_nil)))
      (pss_cons (ps_while PassesOwn.never (PW.pt (pw_and (pt_cmpR op_lt (pe_fld (pv 2) rfl) (pv 1) (nomark _)) (pw_and1 (pt_val (pe_meth0 (pv 2) t.cl_Goer t.M_Goer_step (ok_Goer_step t) (hr.mono (by decide)) t.b_Goer_step .nil pass0))))) (pss_one (ps_if (pt_not (pt_chain op_le op_le (pv 3) (pe_fld (pv 2) rfl) (pv 4))) (pss_cons (ps_expr (pe_bm PySem.F.plainAttrs_list PySem.F.slot_list_append PySem.F.type_list_append mt_append (pv 5) (pa_cons (pe_tup (pa_cons (pe_fld (pv 2) rfl) (pa_cons (pe_fld (pv 2) rfl) pa_nil))) pa_nil)))
      (pss_cons (ps_set (i := 3) sc_records.nd rfl (by first | exact Or.inl rfl | exact Or.inr rfl) (pe_callB (id := "min") (call_min2 rfl) (by rfl) t.n_min (by decide +kernel) (pa_cons (pv 3) (pa_cons (pe_fld (pv 2) rfl) pa_nil))))
      (pss_one (ps_set (i := 4) sc_records.nd rfl (by first | exact Or.inl rfl | exact Or.inr rfl) (pe_callB (id := "max") (call_max2 rfl) (by rfl) t.n_max (by decide +kernel) (pa_cons (pv 4) (pa_cons (pe_fld (pv 2) rfl) pa_nil))))))) pss_nil)))
      (pss_one (ps_ret (pv 5))))))))), ?_⟩
    refine ⟨_, rfl, F, m, M, R, S, rfl, sF, hm, hM, fun Ha ga0 => ?_⟩
    refine ⟨_, rfl, nil_le, fun l nl => ⟨three_le, fun u nu => ?_⟩⟩
    have g1 := ga0.new (o := .lst []) nl
    have g2 := g1.new (o := .tup [.int 0, .int 0, .ref l]) nu
    have hx : Is (upd (upd F l (.lst [])) u (.tup [.int 0, .int 0, .ref l])) (.ref u) (⟨0, 0, []⟩ : Setup) := ⟨u, _, _, _, rfl, upd_same, rfl, rfl, l, [], rfl, ln (g1.fh.free nu) upd_same, All2.nil⟩
    generalize upd (upd F l (.lst [])) u (.tup [.int 0, .int 0, .ref l]) = F2 at g2 hx
    generalize upd (upd Ha l (.lst [])) u (.tup [.int 0, .int 0, .ref l]) = H2 at g2
    refine fun y dy ny ndy ney => ?_
    have g3 := g2.own (o := .own y) ndy
    have ny2 : (upd H2 dy (.own y)) y = none := by rw [upd_ne ney.symm]; exact ny
    have g4 := g3.own (o := .ins t.C_Goer dy []) ny2
    have hy : H y = none := g2.th _ ny
    have fy : F2 y = none := g2.fh.free ny
    refine ⟨F2, y, dy, m, .ref u, _, rfl, upd_same, fy, g4.fh, hx, fun d H5 nd5 g5 ga => ⟨rfl, ?_⟩⟩
    have g6 := g4.thn g5 fun c z => .inr (by rw [show c = y from z]; exact hy)
    have hd : H d = none := g4.th _ nd5
    have fd : F2 d = none := g4.fh.free nd5
    have hm2 := hm.up g2.ff
    -- found = [(0, 0)]
    refine ⟨two_le, fun t0 nt0 => ⟨one_le, fun D nD => ?_⟩⟩
    have g7 := g6.new (o := .tup [.int 0, .int 0]) nt0
    have ht0 : (upd F2 t0 (.tup [.int 0, .int 0])) t0 = some (.tup [.int 0, .int 0]) := upd_same
    have s27 : Same F2 (upd F2 t0 (.tup [.int 0, .int 0])) := sm_new (Same.refl F2) (g6.fh.free nt0)
    obtain ⟨⟨dx0, ho0⟩, hdc0⟩ := id ga
    have fy7 : (upd F2 t0 (.tup [.int 0, .int 0])) y = none := by rw [upd_ne (ne_of_none ho0 nt0)]; exact fy
    have fd7 : (upd F2 t0 (.tup [.int 0, .int 0])) d = none := by rw [upd_ne (ne_of_none hdc0 nt0)]; exact fd
    have ga7 : GoAt t.C_Goer _ y d m 0 0 [] 0 := ⟨⟨dx0, ln nD (ln (u := .tup [.int 0, .int 0]) nt0 ho0)⟩, ln (u := .lst [.ref t0]) nD (ln nt0 hdc0)⟩
    have g8 := g7.own (o := .lst [.ref t0]) nD
    have w8 : Ow H _ (upd _ D (.lst [.ref t0])) D (.lst [.ref t0]) := Ow.mk1 g7 nD
    generalize upd F2 t0 (.tup [.int 0, .int 0]) = F7 at g8 w8 ht0 s27 fy7 fd7
    refine ⟨fun k σ G => ∃ (F1 : Hp) (j : Nat) (c : Cfg) (xs : List V) (cs : List Cfg) (lo hi : Int), k = n - j ∧ σ = [some m, some (.int n), some (.ref y), some (.int lo), some (.int hi), some (.ref D)] ∧ Gr mu0 F H F1 G ∧ F1 y = none ∧ F1 d = none ∧ Same F2 F1 ∧ GoAt t.C_Goer G y d m c.r c.s c.l j ∧ stepsC M j = some c ∧ j ≤ n ∧ Hist M j cs ∧ Ow H F1 G D (.lst xs) ∧ IsAll F1 xs (recs cs) ∧ IsLo cs lo ∧ IsHi cs hi,
      ⟨_, F7, 0, c0, _, [c0], 0, 0, rfl, rfl, g8, fy7, fd7, s27, ga7, rfl, Nat.zero_le _, Hist.one, w8, All2.one ⟨t0, _, _, rfl, ht0, rfl, rfl⟩, IsLo.one, IsHi.one⟩, ?_⟩
    rintro k σ G ⟨F1, j, c, xs, cs, lo, hi, rfl, rfl, g, fy, fd, s2, ga, st, lj, hh, w, al, il, ih⟩
    obtain ⟨ok, ll⟩ := stepsC_ok hM st
    obtain ⟨row, er, s0, ee, eo⟩ := ok.ent hM
    obtain ⟨⟨dx, ho⟩, hdc⟩ := id ga
    have hm1 := hm2.up s2
    have yD : D ≠ y := ne_of w.h ho (by intro z; cases z)
    have dD : D ≠ d := ne_of w.h hdc (by intro z; cases z)
    have lcs := hh.1
    have lxs : xs.length ≤ j + 1 := by rw [al.1, ← lcs]; exact recs_len cs
    refine ⟨_, rfl, y, t.C_Goer, dx, _, _, rfl, ho, t.cl_Goer, t.nA_Goer_steps, Goer_get_steps, _, rfl, _, _, rfl, rfl, _, rfl, ?_⟩
    refine ite2 (fun cl => ?_) (fun cl => ?_)
    · have cl : (j : Int) < n := of_decide_eq_true cl
      refine ⟨_, rfl, y, dx, _, rfl, ho, Goer_no (by decide +kernel) (by decide +kernel) (by decide +kernel) (by decide +kernel) (by decide +kernel), F1, y, d, m, M, c.r, c.s, c.l, j, row, entOf M c, rfl, g.fh, fy, fd, hm1, ga, ok.r0, er, s0, ee, by omega, fun he H6 g6 => ⟨_, rfl, iteF ?_⟩, fun p w' r' he H6 g6 gb => ⟨_, rfl, iteT ?_⟩⟩
      · exact ⟨_, rfl, q F1 H6 D xs cs j c (g.trans g6) ⟨lj, st, .inl (stepC_none.mpr he)⟩ hh (w.call g6 fun z => z) al⟩
      · refine ⟨_, fun _ _ h => h, ?_⟩
        have st1 := stepC_go he
        have st2 := (stepsC_next st).trans st1
        have g16 := g.thn g6 (fun c z => .inr (by rcases z with rfl | rfl <;> assumption))
        obtain ⟨⟨dx6, ho6⟩, hdc6⟩ := id gb
        have w6 := w.call g6 (fun z => by rcases z with z | z; exact yD z; exact dD z)
        have ha := recs_app cs ⟨r', c.s + w', put c.l c.s p⟩
        have fi := fresh_iff (c := ⟨r', c.s + w', put c.l c.s p⟩) il ih
        have fi : fresh cs ⟨r', c.s + w', put c.l c.s p⟩ = true ↔ (c.s + w' < lo ∨ hi < c.s + w') := fi
        -- what comes where the place is no new one
        have stay : ¬ (c.s + w' < lo ∨ hi < c.s + w') → recs (cs ++ [⟨r', c.s + w', put c.l c.s p⟩]) = recs cs ∧ IsLo (cs ++ [⟨r', c.s + w', put c.l c.s p⟩]) lo ∧ IsHi (cs ++ [⟨r', c.s + w', put c.l c.s p⟩]) hi := fun z => by
          have h1 := il.app ⟨r', c.s + w', put c.l c.s p⟩
          have h2 := ih.app ⟨r', c.s + w', put c.l c.s p⟩
          rw [if_neg (show ¬ c.s + w' < lo by omega)] at h1
          rw [if_neg (show ¬ c.s + w' > hi by omega)] at h2
          exact ⟨by rw [ha, if_neg (fun k => z (fi.mp k))], h1, h2⟩
        have come : (c.s + w' < lo ∨ hi < c.s + w') → recs (cs ++ [⟨r', c.s + w', put c.l c.s p⟩]) = recs cs ++ [⟨j + 1, c.s + w'⟩] := fun z => by
          rw [ha, if_pos (fi.mpr z), lcs]; rfl
        -- if not least <= goer.spot <= greatest
        refine ⟨_, rfl, _, rfl, y, t.C_Goer, dx6, _, _, rfl, ho6, t.cl_Goer, t.nA_Goer_spot, Goer_get_spot, _, _, rfl, rfl, _, rfl, ite2 (fun c1 => ?A) (fun c1 => ?B)⟩
        case' A =>
          have c1 : lo ≤ c.s + w' := of_decide_eq_true c1
          refine ⟨_, rfl, _, _, rfl, rfl, _, rfl, ite2 (fun c2 => ?C) (fun c2 => ?D)⟩
        case' C =>
          have isnew : c.s + w' < lo ∨ hi < c.s + w' := by
            by_cases z : c.s + w' ≤ hi
            · rw [decide_eq_true z] at c2; cases c2
            · omega
        case' B =>
          have isnew : c.s + w' < lo ∨ hi < c.s + w' := .inl (by
            by_cases z : lo ≤ c.s + w'
            · exact absurd (decide_eq_true z) c1
            · omega)
          refine ⟨_, rfl, ifT rfl ?_⟩
        case' D =>
          have c2 : c.s + w' ≤ hi := by
            by_cases z : c.s + w' ≤ hi
            · exact z
            · exact absurd (by rw [decide_eq_false z]; rfl) c2
          obtain ⟨e1, il2, ih2⟩ := stay (by omega)
          exact ⟨n - (j + 1), by omega, F1, j + 1, ⟨r', c.s + w', put c.l c.s p⟩, xs, cs ++ [⟨r', c.s + w', put c.l c.s p⟩], lo, hi, rfl, rfl, g16, fy, fd, s2, gb, st2, by omega, hh.app st2, w6, by rw [e1]; exact al, il2, ih2⟩
        all_goals
          refine ⟨_, rfl, .inl ⟨rfl, _, SqL.of w6.h⟩, _, rfl, y, t.C_Goer, dx6, _, _, rfl, ho6, t.cl_Goer, t.nA_Goer_steps, Goer_get_steps, _, rfl, y, t.C_Goer, dx6, _, _, rfl, ho6, t.cl_Goer, t.nA_Goer_spot, Goer_get_spot, two_le, fun u nu => ?_⟩
          have g7 := g16.new (o := .tup [.int ((j + 1 : Nat) : Int), .int (c.s + w')]) nu
          have s7 : Same F1 (upd F1 u (.tup [.int ((j + 1 : Nat) : Int), .int (c.s + w')])) := sm_new (Same.refl F1) (g16.fh.free nu)
          have w7 := w6.new (u := .tup [.int ((j + 1 : Nat) : Int), .int (c.s + w')]) nu
          have hu : Is (upd F1 u (.tup [.int ((j + 1 : Nat) : Int), .int (c.s + w')])) (.ref u) (⟨((j + 1 : Nat) : Int), c.s + w'⟩ : PI) := ⟨u, _, _, rfl, upd_same, rfl, rfl⟩
          have fy7 : (upd F1 u (.tup [.int ((j + 1 : Nat) : Int), .int (c.s + w')])) y = none := by rw [upd_ne (ne_of_none ho6 nu)]; exact fy
          have fd7 : (upd F1 u (.tup [.int ((j + 1 : Nat) : Int), .int (c.s + w')])) d = none := by rw [upd_ne (ne_of_none hdc6 nu)]; exact fd
          have ho7 := ln (u := .tup [.int ((j + 1 : Nat) : Int), .int (c.s + w')]) nu ho6
          have hdc7 := ln (u := .tup [.int ((j + 1 : Nat) : Int), .int (c.s + w')]) nu hdc6
          refine ⟨D, _, _, rfl, rfl, w7.h, lt_size (by omega), ?_⟩
          have ho8 := (upd_ne (o := .lst (xs ++ [.ref u])) yD.symm).trans ho7
          have hdc8 := (upd_ne (o := .lst (xs ++ [.ref u])) dD.symm).trans hdc7
          have g8 := g7.set (o := .lst (xs ++ [.ref u])) w7.f (.inl w7.n)
          have w8 := w7.set (u := .lst (xs ++ [.ref u]))
          refine ⟨_, rfl, _, rfl, y, t.C_Goer, dx6, _, _, rfl, ho8, t.cl_Goer, t.nA_Goer_spot, Goer_get_spot, _, _, rfl, ?_⟩
          refine ⟨_, rfl, _, rfl, y, t.C_Goer, dx6, _, _, rfl, ho8, t.cl_Goer, t.nA_Goer_spot, Goer_get_spot, _, _, rfl, ?_⟩
          have e1 := come isnew
          exact ⟨n - (j + 1), by omega, _, j + 1, ⟨r', c.s + w', put c.l c.s p⟩, _, cs ++ [⟨r', c.s + w', put c.l c.s p⟩], _, _, rfl, rfl, g8, fy7, fd7, fun c o h => s7 _ _ (s2 _ _ h), ⟨⟨dx6, ho8⟩, hdc8⟩, st2, by omega, hh.app st2, w8, by rw [e1]; exact (al.up s7).app (All2.one hu), il.app _, ih.app _⟩
    · have cl : ¬ (j : Int) < n := fun z => cl (decide_eq_true z)
      exact ifF rfl ⟨_, rfl, q F1 G D xs cs j c g ⟨lj, st, .inr (by omega)⟩ hh w al⟩
/-! ### where two part -/
def DiffAt (M N : Mach) (k : Nat) : Prop := ¬ (stepsC M k).map suOf = (stepsC N k).map suOf
def PartOf (M N : Mach) (n : Nat) : Option Nat → Prop
  | none => ∀ k, k ≤ n → ¬ DiffAt M N k
  | some k => k ≤ n ∧ DiffAt M N k ∧ ∀ j, j < k → ¬ DiffAt M N j
theorem PartOf.uniq {M N : Mach} {n : Nat} : ∀ {o o' : Option Nat}, PartOf M N n o → PartOf M N n o' → o = o'
  | none, none, _, _ => rfl
  | none, some k, a, ⟨h1, h2, _⟩ => (a k h1 h2).elim
  | some k, none, ⟨h1, h2, _⟩, b => (b k h1 h2).elim
  | some k, some k', ⟨h1, h2, h3⟩, ⟨k1, k2, k3⟩ => by
    have a : ¬ k' < k := fun z => h3 k' z k2
    have b : ¬ k < k' := fun z => k3 k z h2
    rw [show k = k' by omega]
theorem PartOf.symm {M N : Mach} {n : Nat} {o : Option Nat} (h : PartOf M N n o) : PartOf N M n o := by
  have s : ∀ k, DiffAt N M k ↔ DiffAt M N k := fun k => ⟨fun z w => z w.symm, fun z w => z w.symm⟩
  cases o with
  | none => exact fun k l => by rw [s]; exact h k l
  | some k => exact ⟨h.1, (s k).mpr h.2.1, fun j l => by rw [s]; exact h.2.2 j l⟩
theorem PartOf.self {M : Mach} {n : Nat} : PartOf M M n none := fun k _ z => z rfl
def optV : Option Nat → V
  | none => .non
  | some k => .int k
theorem su_dat {H : Hp} {u p : Addr} {c : Cfg} {xs : List V} (hu : H u = some (.tup [.int c.r, .int c.s, .ref p])) (hp : H p = some (.lst xs)) (al : IsAll H xs (told c.l)) : Is H (.ref u) (suOf c) :=
  ⟨u, _, _, _, rfl, hu, rfl, rfl, p, xs, rfl, hp, al⟩
def sp_parts_from : Sp := fun vs H Q _ => ∃ (F : Hp) (v1 v2 : V) (M N : Mach) (R S R' S' n : Nat), vs = [v1, v2, .int n] ∧ Same F H ∧ Is F v1 M ∧ MOk M R S ∧ Is F v2 N ∧ MOk N R' S' ∧ n ≤ 5000 ∧
  ∀ (F' H' : Hp) (o : Option Nat), Gr mu0 F H F' H' → PartOf M N n o → Q (optV o) H'
theorem ok_parts_from (t : Tx K mg) : FnOk P w K mg base CX0 4 t.a_parts_from t.fd_parts_from ["one", "other", "most"] sp_parts_from := by
  refine t.F_parts_from.ok sc_parts_from (fun vs H Q E h => ?_) (fun cdv A outer s H vs Q E hr h => ?_)
  · obtain ⟨F, v1, v2, M, N, R, S, R', S', n, rfl, _⟩ := h
    rfl
  · obtain ⟨F, v1, v2, M, N, R, S, R', S', n, rfl, sF, hm, hM, hm', hN, hn, q⟩ := h
    refine ⟨_, (pss_cons (ps_expr (pe_call (ok_must_machine t) (hr.mono (by decide)) (by rfl) t.m_must_machine t.F_must_machine.kp t.b_must_machine .nil pass0 (pa_cons (pv 0) pa_nil)))
      (pss_cons (ps_expr (pe_call (ok_must_machine t) (hr.mono (by decide)) (by rfl) t.m_must_machine t.F_must_machine.kp t.b_must_machine .nil pass0 (pa_cons (pv 1) pa_nil)))
      (pss_cons (ps_set (i := 3) sc_parts_from.nd rfl (by first | exact Or.inl rfl | exact Or.inr rfl) (pe_make t.M_Goer (ok_Goer_init t) (hr.mono (by decide)) (by rfl) t.m_Goer t.b_Goer_init .nil pass0 (pa_cons (pv 0) (pa_cons (pe_tup (pa_cons pe_int (pa_cons pe_int (pa_cons (pe_lst pa_nil) pa_nil)))) pa_nil))))
      (pss_cons (ps_set (i := 4) sc_parts_from.nd rfl (by first | exact Or.inl rfl | exact Or.inr rfl) (pe_make t.M_Goer (ok_Goer_init t) (hr.mono (by decide)) (by rfl) t.m_Goer t.b_Goer_init .nil pass0 (pa_cons (pv 1) (pa_cons (pe_tup (pa_cons pe_int (pa_cons pe_int (pa_cons (pe_lst pa_nil) pa_nil)))) pa_nil))))
      (pss_cons (ps_while PassesOwn.never (pt_cmpR op_lt (pe_fld (pv 3) rfl) (pv 2) (nomark _)) (pss_cons (ps_set (i := 5) sc_parts_from.nd rfl (by first | exact Or.inl rfl | exact Or.inr rfl) (pe_meth0 (pv 3) t.cl_Goer t.M_Goer_step (ok_Goer_step t) (hr.mono (by decide)) t.b_Goer_step .nil pass0))
      (pss_cons (ps_if (pt_cmpR op_ne (pe_meth0 (pv 4) t.cl_Goer t.M_Goer_step (ok_Goer_step t) (hr.mono (by decide)) t.b_Goer_step .nil pass0) (pv 5) (nomark _)) (pss_one (ps_ret (pe_callB (id := "max") (call_max2 rfl) (by rfl) t.n_max (by decide +kernel) (pa_cons (pe_fld (pv 3) rfl) (pa_cons (pe_fld (pv 4) rfl) pa_nil))))) pss_nil)
      (pss_cons (ps_if (pt_not (pt_val (pv 5))) (pss_one (ps_ret pe_non)) pss_nil)
      (pss_one (ps_if (pt_cmpR (op_neD hr.units) (pe_meth0 (pv 3) t.cl_Goer t.M_Goer_setup (ok_Goer_setup t) (hr.mono (by decide)) t.b_Goer_setup .nil pass0) (pe_meth0 (pv 4) t.cl_Goer t.M_Goer_setup (ok_Goer_setup t) (hr.mono (by decide)) t.b_Goer_setup .nil pass0) (nomark _)) (pss_one (ps_ret (pe_fld (pv 3) rfl))) pss_nil))))))
      (pss_one (ps_ret pe_non))))))), ?_⟩
    refine ⟨_, rfl, F, v1, M, R, S, rfl, sF, hm, hM, fun Ha ga0 => ?_⟩
    refine ⟨_, rfl, F, v2, N, R', S', rfl, ga0.fh, hm', hN, fun Hb gb0 => ?_⟩
    have g0 := ga0.trans gb0
    -- here
    refine ⟨_, rfl, nil_le, fun l nl => ⟨three_le, fun u nu => ?_⟩⟩
    have g1 := g0.new (o := .lst []) nl
    have g2 := g1.new (o := .tup [.int 0, .int 0, .ref l]) nu
    have hx : Is (upd (upd F l (.lst [])) u (.tup [.int 0, .int 0, .ref l])) (.ref u) (⟨0, 0, []⟩ : Setup) := ⟨u, _, _, _, rfl, upd_same, rfl, rfl, l, [], rfl, ln (g1.fh.free nu) upd_same, All2.nil⟩
    generalize upd (upd F l (.lst [])) u (.tup [.int 0, .int 0, .ref l]) = F2 at g2 hx
    generalize upd (upd Hb l (.lst [])) u (.tup [.int 0, .int 0, .ref l]) = H2 at g2
    refine fun y dy ny ndy ney => ?_
    have g3 := g2.own (o := .own y) ndy
    have ny2 : (upd H2 dy (.own y)) y = none := by rw [upd_ne ney.symm]; exact ny
    have g4 := g3.own (o := .ins t.C_Goer dy []) ny2
    have hy : H y = none := g2.th _ ny
    have fy : F2 y = none := g2.fh.free ny
    refine ⟨F2, y, dy, v1, .ref u, _, rfl, upd_same, fy, g4.fh, hx, fun d H5 nd5 g5 ga => ⟨rfl, ?_⟩⟩
    have g6 := g4.thn g5 fun c z => .inr (by rw [show c = y from z]; exact hy)
    have hd : H d = none := g4.th _ nd5
    have fd : F2 d = none := g4.fh.free nd5
    have hm2 := hm.up g2.ff
    have hm2' := hm'.up g2.ff
    clear g3 g4 g5 g1 hx ny2 nd5 ny ndy ney
    -- there
    refine ⟨_, rfl, nil_le, fun l' nl' => ⟨three_le, fun u' nu' => ?_⟩⟩
    obtain ⟨⟨dx0, ho0⟩, hd0⟩ := id ga
    have g1 := g6.new (o := .lst []) nl'
    have g3 := g1.new (o := .tup [.int 0, .int 0, .ref l']) nu'
    have hx : Is (upd (upd F2 l' (.lst [])) u' (.tup [.int 0, .int 0, .ref l'])) (.ref u') (⟨0, 0, []⟩ : Setup) := ⟨u', _, _, _, rfl, upd_same, rfl, rfl, l', [], rfl, ln (g1.fh.free nu') upd_same, All2.nil⟩
    have ga3 : GoAt t.C_Goer _ y d v1 0 0 [] 0 := ⟨⟨dx0, ln (u := .tup [.int 0, .int 0, .ref l']) nu' (ln (u := .lst []) nl' ho0)⟩, ln nu' (ln nl' hd0)⟩
    have fy3 : (upd (upd F2 l' (.lst [])) u' (.tup [.int 0, .int 0, .ref l'])) y = none := by rw [upd_ne (ne_of_none (ln nl' ho0) nu'), upd_ne (ne_of_none ho0 nl')]; exact fy
    have fd3 : (upd (upd F2 l' (.lst [])) u' (.tup [.int 0, .int 0, .ref l'])) d = none := by rw [upd_ne (ne_of_none (ln nl' hd0) nu'), upd_ne (ne_of_none hd0 nl')]; exact fd
    have s23 : Same F2 (upd (upd F2 l' (.lst [])) u' (.tup [.int 0, .int 0, .ref l'])) := sm_new (sm_new (Same.refl F2) (g6.fh.free nl')) (g1.fh.free nu')
    generalize upd (upd F2 l' (.lst [])) u' (.tup [.int 0, .int 0, .ref l']) = F3 at g3 hx fy3 fd3 s23
    generalize upd (upd H5 l' (.lst [])) u' (.tup [.int 0, .int 0, .ref l']) = H3 at g3 ga3
    refine fun y' dy' ny' ndy' ney' => ?_
    have g4 := g3.own (o := .own y') ndy'
    have ny2' : (upd H3 dy' (.own y')) y' = none := by rw [upd_ne ney'.symm]; exact ny'
    have g5 := g4.own (o := .ins t.C_Goer dy' []) ny2'
    have hy' : H y' = none := g3.th _ ny'
    have fy' : F3 y' = none := g3.fh.free ny'
    obtain ⟨⟨dx3, ho3⟩, hd3⟩ := id ga3
    have yy : y ≠ y' := ne_of_none ho3 ny'
    have dy1 : d ≠ y' := ne_of_none hd3 ny'
    refine ⟨F3, y', dy', v2, .ref u', _, rfl, upd_same, fy', g5.fh, hx, fun d' H6 nd6 g7 ga' => ⟨rfl, ?_⟩⟩
    have ho5 := ln (u := .ins t.C_Goer dy' []) ny2' (ln (u := .own y') ndy' ho3)
    have hd5 := ln (u := .ins t.C_Goer dy' []) ny2' (ln (u := .own y') ndy' hd3)
    have yd : y ≠ d' := ne_of_none ho5 nd6
    have dd : d ≠ d' := ne_of_none hd5 nd6
    have g8 := g5.thn g7 fun c z => .inr (by rw [show c = y' from z]; exact hy')
    have hd' : H d' = none := g5.th _ nd6
    have fd' : F3 d' = none := g5.fh.free nd6
    have ga8 : GoAt t.C_Goer H6 y d v1 0 0 [] 0 := ⟨⟨dx3, g7.fr _ _ ho5 yy⟩, g7.fr _ _ hd5 dy1⟩
    have hm3 := hm2.up s23
    have hm3' := hm2'.up s23
    clear g1 g3 g4 g5 g6 g7 hx ga ga3 ho0 hd0 ho3 hd3 ho5 hd5
    -- while here.steps < most
    refine ⟨fun k σ G => ∃ (F1 : Hp) (j : Nat) (c c' : Cfg) (v5 : Option V), k = n - j ∧ σ = [some v1, some v2, some (.int n), some (.ref y), some (.ref y'), v5] ∧ Gr mu0 F H F1 G ∧ F1 y = none ∧ F1 d = none ∧ F1 y' = none ∧ F1 d' = none ∧ Same F3 F1 ∧ GoAt t.C_Goer G y d v1 c.r c.s c.l j ∧ GoAt t.C_Goer G y' d' v2 c'.r c'.s c'.l j ∧ stepsC M j = some c ∧ stepsC N j = some c' ∧ j ≤ n ∧ ∀ k, k ≤ j → ¬ DiffAt M N k,
      ⟨_, F3, 0, c0, c0, none, rfl, rfl, g8, fy3, fd3, fy', fd', Same.refl _, ga8, ga', rfl, rfl, Nat.zero_le _, fun k h z => z (by rw [show k = 0 by omega]; rfl)⟩, ?_⟩
    rintro k σ G ⟨F1, j, c, c', v5, rfl, rfl, g, fy1, fd1, fy1', fd1', s1, ga, ga', st, st', lj, hno⟩
    obtain ⟨ok, ll⟩ := stepsC_ok hM st
    obtain ⟨ok', ll'⟩ := stepsC_ok hN st'
    obtain ⟨row, er, s0, ee, eo⟩ := ok.ent hM
    obtain ⟨row', er', s0', ee', eo'⟩ := ok'.ent hN
    obtain ⟨⟨dx, ho⟩, hdc⟩ := id ga
    have hm1 := hm3.up s1
    have hm1' := hm3'.up s1
    refine ⟨_, rfl, y, t.C_Goer, dx, _, _, rfl, ho, t.cl_Goer, t.nA_Goer_steps, Goer_get_steps, _, rfl, _, _, rfl, rfl, _, rfl, ?_⟩
    refine ite2 (fun cl => ?_) (fun cl => ?_)
    rotate_left
    · have cl : ¬ (j : Int) < n := fun z => cl (decide_eq_true z)
      exact q F1 G none g fun k hk => hno k (by omega)
    have cl : (j : Int) < n := of_decide_eq_true cl
    refine ⟨_, fun _ _ h => h, ?_⟩
    -- goes = here.step()
    refine ⟨_, rfl, y, dx, _, rfl, ho, Goer_no (by decide +kernel) (by decide +kernel) (by decide +kernel) (by decide +kernel) (by decide +kernel), F1, y, d, v1, M, c.r, c.s, c.l, j, row, entOf M c, rfl, g.fh, fy1, fd1, hm1, ga, ok.r0, er, s0, ee, by omega, fun he H6 g6 => ?_, fun p w' r' he H6 g6 gb => ?_⟩
    · -- the one ends
      have gg := g.trans g6
      have ga2 := ga.gr g6 (fun z => z) (fun z => z)
      have ga2' := ga'.gr g6 (fun z => z) (fun z => z)
      obtain ⟨⟨dx2, ho2⟩, hdc2⟩ := id ga2
      obtain ⟨⟨dx', ho'⟩, hdc'⟩ := id ga2'
      have st2 := (stepsC_next st).trans (stepC_none.mpr he)
      refine ⟨_, rfl, y', dx', _, rfl, ho', Goer_no (by decide +kernel) (by decide +kernel) (by decide +kernel) (by decide +kernel) (by decide +kernel), F1, y', d', v2, N, c'.r, c'.s, c'.l, j, row', entOf N c', rfl, g6.fh, fy1', fd1', hm1', ga2', ok'.r0, er', s0', ee', by omega, fun he' H7 g7 => ?_, fun p2 w2 r2 he' H7 g7 gb' => ?_⟩
      · refine ⟨_, rfl, rfl, _, rfl, ifF rfl ?_⟩
        refine ⟨_, rfl, _, rfl, ifT rfl ?_⟩
        refine q F1 H7 none (gg.trans g7) fun k hk => ?_
        by_cases kj : k ≤ j
        · exact hno k kj
        · intro z
          have e1 := stepsC_end st (stepC_none.mpr he) (k - (j + 1))
          have e2 := stepsC_end st' (stepC_none.mpr he') (k - (j + 1))
          rw [show j + 1 + (k - (j + 1)) = k by omega] at e1 e2
          exact z (by rw [e1, e2])
      · have st2' := (stepsC_next st').trans (stepC_go he')
        have g17 := gg.thn g7 (fun c z => .inr (by rcases z with rfl | rfl <;> assumption))
        refine ⟨_, rfl, rfl, _, rfl, ifT rfl ?_⟩
        have ho7 := g7.fr _ _ ho2 (fun z => by rcases z with z | z; exact yy z; exact yd z)
        obtain ⟨⟨dx7, ho7'⟩, _⟩ := id gb'
        refine ⟨_, rfl, y, t.C_Goer, dx2, _, _, rfl, ho7, t.cl_Goer, t.nA_Goer_steps, Goer_get_steps, _, rfl, y', t.C_Goer, dx7, _, _, rfl, ho7', t.cl_Goer, t.nA_Goer_steps, Goer_get_steps, _, _, rfl, ?_⟩
        rw [if_pos (by omega)]
        refine q F1 H7 (some (j + 1)) g17 ⟨by omega, fun z => ?_, fun k hk => hno k (by omega)⟩
        rw [st2, st2'] at z
        cases z
    · -- the one goes on
      have gg := g.thn g6 (fun c z => .inr (by rcases z with rfl | rfl <;> assumption))
      have ga2' := ga'.gr g6 (fun z => by rcases z with z | z; exact yy z.symm; exact dy1 z.symm) (fun z => by rcases z with z | z; exact yd z.symm; exact dd z.symm)
      obtain ⟨⟨dx2, ho2⟩, hdc2⟩ := id gb
      obtain ⟨⟨dx', ho'⟩, hdc'⟩ := id ga2'
      have st2 := (stepsC_next st).trans (stepC_go he)
      refine ⟨_, rfl, y', dx', _, rfl, ho', Goer_no (by decide +kernel) (by decide +kernel) (by decide +kernel) (by decide +kernel) (by decide +kernel), F1, y', d', v2, N, c'.r, c'.s, c'.l, j, row', entOf N c', rfl, g6.fh, fy1', fd1', hm1', ga2', ok'.r0, er', s0', ee', by omega, fun he' H7 g7 => ?_, fun p2 w2 r2 he' H7 g7 gb' => ?_⟩
      · have st2' := (stepsC_next st').trans (stepC_none.mpr he')
        refine ⟨_, rfl, rfl, _, rfl, ifT rfl ?_⟩
        have ho7 := g7.fr _ _ ho2 fun z => z
        have ho7' := g7.fr _ _ ho' fun z => z
        refine ⟨_, rfl, y, t.C_Goer, dx2, _, _, rfl, ho7, t.cl_Goer, t.nA_Goer_steps, Goer_get_steps, _, rfl, y', t.C_Goer, dx', _, _, rfl, ho7', t.cl_Goer, t.nA_Goer_steps, Goer_get_steps, _, _, rfl, ?_⟩
        rw [if_neg (by omega)]
        refine q F1 H7 (some (j + 1)) (gg.trans g7) ⟨by omega, fun z => ?_, fun k hk => hno k (by omega)⟩
        rw [st2, st2'] at z
        cases z
      · have st2' := (stepsC_next st').trans (stepC_go he')
        have g17 := gg.thn g7 (fun c z => .inr (by rcases z with rfl | rfl <;> assumption))
        refine ⟨_, rfl, rfl, _, rfl, ifF rfl ?_⟩
        refine ⟨_, rfl, _, rfl, ifF rfl ?_⟩
        have ga7 := gb.gr g7 (fun z => by rcases z with z | z; exact yy z; exact yd z) (fun z => by rcases z with z | z; exact dy1 z; exact dd z)
        obtain ⟨⟨dx7, ho7⟩, hdc7⟩ := id ga7
        obtain ⟨ok2, ll2⟩ := stepsC_ok hM st2
        obtain ⟨ok2', ll2'⟩ := stepsC_ok hN st2'
        have ll2 : (put c.l c.s p).length ≤ j + 1 := ll2
        have ll2' : (put c'.l c'.s p2).length ≤ j + 1 := ll2'
        obtain ⟨⟨dxb, hob⟩, hdb⟩ := id gb'
        -- here.setup() != there.setup()
        refine ⟨_, rfl, y, dx7, _, rfl, ho7, Goer_no (by decide +kernel) (by decide +kernel) (by decide +kernel) (by decide +kernel) (by decide +kernel), F1, y, d, v1, _, _, _, _, rfl, g7.fh, ga7, by omega, fun F8 H8 q8 u8 xs8 g8 w8 al8 wu8 => ?_⟩
        have ga8 := ga7.gr g8 (fun z => z) (fun z => z)
        have gb8 := gb'.gr g8 (fun z => z) (fun z => z)
        obtain ⟨⟨dx8, ho8⟩, hdc8⟩ := id gb8
        refine ⟨_, rfl, y', dx8, _, rfl, ho8, Goer_no (by decide +kernel) (by decide +kernel) (by decide +kernel) (by decide +kernel) (by decide +kernel), F8, y', d', v2, _, _, _, _, rfl, g8.fh, gb8, by omega, fun F9 H9 q9 u9 xs9 g9 w9 al9 wu9 => ?_⟩
        have ga9 := ga8.gr g9 (fun z => z) (fun z => z)
        have gb9 := gb8.gr g9 (fun z => z) (fun z => z)
        have g19 := (g17.trans g8).trans g9
        have i1 : Is H9 (.ref u8) (suOf ⟨r', c.s + w', put c.l c.s p⟩) := su_dat (g9.fr _ _ wu8.h fun z => z) (g9.fr _ _ w8.h fun z => z) ((al8.up g9.ff).up g9.fh)
        have i2 : Is H9 (.ref u9) (suOf ⟨r2, c'.s + w2, put c'.l c'.s p2⟩) := su_dat wu9.h w9.h (al9.up g9.fh)
        refine ne_dat (a := suOf ⟨r', c.s + w', put c.l c.s p⟩) (b := suOf ⟨r2, c'.s + w2, put c'.l c'.s p2⟩) i1 i2 ⟨_, rfl, ?_⟩
        obtain ⟨⟨dx9, ho9⟩, hdc9⟩ := id ga9
        obtain ⟨⟨dx9', ho9'⟩, hdc9'⟩ := id gb9
        have dif : DiffAt M N (j + 1) ↔ ¬ suOf ⟨r', c.s + w', put c.l c.s p⟩ = suOf ⟨r2, c'.s + w2, put c'.l c'.s p2⟩ := by
          unfold DiffAt
          rw [st2, st2']
          exact ⟨fun z w => z (congrArg some w), fun z w => z (Option.some.inj w)⟩
        refine ite2 (fun cd => ?_) (fun cd => ?_)
        · refine ⟨_, rfl, y, t.C_Goer, dx9, _, _, rfl, ho9, t.cl_Goer, t.nA_Goer_steps, Goer_get_steps, ?_⟩
          exact q F9 H9 (some (j + 1)) g19 ⟨by omega, dif.mpr (fun z => by rw [decide_eq_true z] at cd; cases cd), fun k hk => hno k (by omega)⟩
        · refine ⟨n - (j + 1), by omega, F9, j + 1, _, _, _, rfl, rfl, g19, g9.pf (g8.pf fy1 ho7) (g8.fr _ _ ho7 fun z => z), g9.pf (g8.pf fd1 hdc7) (g8.fr _ _ hdc7 fun z => z), g9.pf (g8.pf fy1' hob) ho8, g9.pf (g8.pf fd1' hdb) hdc8, fun c o h => g9.ff _ _ (g8.ff _ _ (s1 _ _ h)), ga9, gb9, st2, st2', by omega, fun k hk => ?_⟩
          by_cases kj : k ≤ j
          · exact hno k kj
          · rw [show k = j + 1 by omega, dif]
            intro z
            exact cd (by rw [decide_eq_false z]; rfl)
/-! ### what is no machine, at each door of two (printed by k06.py) -/
def sp_doorN (C : Addr) : Sp := fun vs H Q E => ∃ (F : Hp) (v c : V) (M : GM), vs = [v, c] ∧ Same F H ∧ Is F v M ∧ isM M = false ∧ ∀ H', Gr mu0 F H F H' → E (.ref C) none H'
theorem okn_stepped (t : Tx K mg) : FnOk P w K mg base (L2.CX P w) 4 t.a_stepped t.fd_stepped ["machine", "setup"] (sp_doorN t.C_NoMachine) := by
  refine t.F_stepped.okX sc_stepped (fun vs H Q E h => ?_) (fun cdv A outer s H vs Q E hr h => ?_)
  · obtain ⟨F, v, c, M, rfl, _⟩ := h
    rfl
  · obtain ⟨F, v, c, M, rfl, sF, hv, hM, q⟩ := h
    refine ⟨_, (pss_cons (ps_expr (pe_callS (okx_must_machine t) (hr.mono (by decide)) (by rfl) t.m_must_machine t.F_must_machine.kp t.b_must_machine (fun σ => passAt (takes_of rfl rfl rfl rfl) σ) (pa_cons (pv 0) pa_nil)))
      (pss_cons ps_never (pss_cons ps_never (pss_one ps_never)))), ?_⟩
    exact ⟨_, rfl, F, v, M, rfl, sF, hv, (fun e => by rw [hM] at e; cases e), fun _ H' g => q H' g⟩
theorem okx_stepped (t : Tx K mg) : FnOk P w K mg base (L2.CX P w) 4 t.a_stepped t.fd_stepped ["machine", "setup"] (fun vs H Q E => sp_stepped vs H Q E ∨ sp_doorN t.C_NoMachine vs H Q E) := FnOk.or (FnOk.lift (ok_stepped t)) (okn_stepped t)
theorem okn_run (t : Tx K mg) : FnOk P w K mg base (L2.CX P w) 4 t.a_run t.fd_run ["machine", "most"] (sp_doorN t.C_NoMachine) := by
  refine t.F_run.okX sc_run (fun vs H Q E h => ?_) (fun cdv A outer s H vs Q E hr h => ?_)
  · obtain ⟨F, v, c, M, rfl, _⟩ := h
    rfl
  · obtain ⟨F, v, c, M, rfl, sF, hv, hM, q⟩ := h
    refine ⟨_, (pss_cons (ps_expr (pe_callS (okx_must_machine t) (hr.mono (by decide)) (by rfl) t.m_must_machine t.F_must_machine.kp t.b_must_machine (fun σ => passAt (takes_of rfl rfl rfl rfl) σ) (pa_cons (pv 0) pa_nil)))
      (pss_cons ps_never (pss_cons ps_never (pss_one ps_never)))), ?_⟩
    exact ⟨_, rfl, F, v, M, rfl, sF, hv, (fun e => by rw [hM] at e; cases e), fun _ H' g => q H' g⟩
theorem okx_run (t : Tx K mg) : FnOk P w K mg base (L2.CX P w) 4 t.a_run t.fd_run ["machine", "most"] (fun vs H Q E => sp_run vs H Q E ∨ sp_doorN t.C_NoMachine vs H Q E) := FnOk.or (FnOk.lift (ok_run t)) (okn_run t)
theorem okn_setups (t : Tx K mg) : FnOk P w K mg base (L2.CX P w) 4 t.a_setups t.fd_setups ["machine", "most"] (sp_doorN t.C_NoMachine) := by
  refine t.F_setups.okX sc_setups (fun vs H Q E h => ?_) (fun cdv A outer s H vs Q E hr h => ?_)
  · obtain ⟨F, v, c, M, rfl, _⟩ := h
    rfl
  · obtain ⟨F, v, c, M, rfl, sF, hv, hM, q⟩ := h
    refine ⟨_, (pss_cons (ps_expr (pe_callS (okx_must_machine t) (hr.mono (by decide)) (by rfl) t.m_must_machine t.F_must_machine.kp t.b_must_machine (fun σ => passAt (takes_of rfl rfl rfl rfl) σ) (pa_cons (pv 0) pa_nil)))
      (pss_cons ps_never (pss_cons ps_never (pss_cons ps_never (pss_one ps_never))))), ?_⟩
    exact ⟨_, rfl, F, v, M, rfl, sF, hv, (fun e => by rw [hM] at e; cases e), fun _ H' g => q H' g⟩
theorem okx_setups (t : Tx K mg) : FnOk P w K mg base (L2.CX P w) 4 t.a_setups t.fd_setups ["machine", "most"] (fun vs H Q E => sp_setups vs H Q E ∨ sp_doorN t.C_NoMachine vs H Q E) := FnOk.or (FnOk.lift (ok_setups t)) (okn_setups t)
theorem okn_touched (t : Tx K mg) : FnOk P w K mg base (L2.CX P w) 4 t.a_touched t.fd_touched ["machine", "most"] (sp_doorN t.C_NoMachine) := by
  refine t.F_touched.okX sc_touched (fun vs H Q E h => ?_) (fun cdv A outer s H vs Q E hr h => ?_)
  · obtain ⟨F, v, c, M, rfl, _⟩ := h
    rfl
  · obtain ⟨F, v, c, M, rfl, sF, hv, hM, q⟩ := h
    refine ⟨_, (pss_cons (ps_expr (pe_callS (okx_must_machine t) (hr.mono (by decide)) (by rfl) t.m_must_machine t.F_must_machine.kp t.b_must_machine (fun σ => passAt (takes_of rfl rfl rfl rfl) σ) (pa_cons (pv 0) pa_nil)))
      (pss_cons ps_never (pss_cons ps_never (pss_cons ps_never (pss_cons ps_never (pss_one ps_never)))))), ?_⟩
    exact ⟨_, rfl, F, v, M, rfl, sF, hv, (fun e => by rw [hM] at e; cases e), fun _ H' g => q H' g⟩
theorem okx_touched (t : Tx K mg) : FnOk P w K mg base (L2.CX P w) 4 t.a_touched t.fd_touched ["machine", "most"] (fun vs H Q E => sp_touched vs H Q E ∨ sp_doorN t.C_NoMachine vs H Q E) := FnOk.or (FnOk.lift (ok_touched t)) (okn_touched t)
theorem okn_ring (t : Tx K mg) : FnOk P w K mg base (L2.CX P w) 5 t.a_ring t.fd_ring ["machine", "most"] (sp_doorN t.C_NoMachine) := by
  refine t.F_ring.okX sc_ring (fun vs H Q E h => ?_) (fun cdv A outer s H vs Q E hr h => ?_)
  · obtain ⟨F, v, c, M, rfl, _⟩ := h
    rfl
  · obtain ⟨F, v, c, M, rfl, sF, hv, hM, q⟩ := h
    refine ⟨_, (pss_cons (ps_expr (pe_callS (okx_must_machine t) (hr.mono (by decide)) (by rfl) t.m_must_machine t.F_must_machine.kp t.b_must_machine (fun σ => passAt (takes_of rfl rfl rfl rfl) σ) (pa_cons (pv 0) pa_nil)))
      (pss_cons ps_never (pss_cons ps_never (pss_one ps_never)))), ?_⟩
    exact ⟨_, rfl, F, v, M, rfl, sF, hv, (fun e => by rw [hM] at e; cases e), fun _ H' g => q H' g⟩
theorem okx_ring (t : Tx K mg) : FnOk P w K mg base (L2.CX P w) 5 t.a_ring t.fd_ring ["machine", "most"] (fun vs H Q E => sp_ring vs H Q E ∨ sp_doorN t.C_NoMachine vs H Q E) := FnOk.or (FnOk.lift (ok_ring t)) (okn_ring t)
theorem okn_drift (t : Tx K mg) : FnOk P w K mg base (L2.CX P w) 5 t.a_drift t.fd_drift ["machine", "most"] (sp_doorN t.C_NoMachine) := by
  refine t.F_drift.okX sc_drift (fun vs H Q E h => ?_) (fun cdv A outer s H vs Q E hr h => ?_)
  · obtain ⟨F, v, c, M, rfl, _⟩ := h
    rfl
  · obtain ⟨F, v, c, M, rfl, sF, hv, hM, q⟩ := h
    refine ⟨_, (pss_cons (ps_expr (pe_callS (okx_must_machine t) (hr.mono (by decide)) (by rfl) t.m_must_machine t.F_must_machine.kp t.b_must_machine (fun σ => passAt (takes_of rfl rfl rfl rfl) σ) (pa_cons (pv 0) pa_nil)))
      (pss_cons ps_never (pss_cons ps_never (pss_one ps_never)))), ?_⟩
    exact ⟨_, rfl, F, v, M, rfl, sF, hv, (fun e => by rw [hM] at e; cases e), fun _ H' g => q H' g⟩
theorem okx_drift (t : Tx K mg) : FnOk P w K mg base (L2.CX P w) 5 t.a_drift t.fd_drift ["machine", "most"] (fun vs H Q E => sp_drift vs H Q E ∨ sp_doorN t.C_NoMachine vs H Q E) := FnOk.or (FnOk.lift (ok_drift t)) (okn_drift t)
theorem okn_parts_at (t : Tx K mg) : FnOk P w K mg base (L2.CX P w) 4 t.a_parts_at t.fd_parts_at ["machine", "depth"] (sp_doorN t.C_NoMachine) := by
  refine t.F_parts_at.okX sc_parts_at (fun vs H Q E h => ?_) (fun cdv A outer s H vs Q E hr h => ?_)
  · obtain ⟨F, v, c, M, rfl, _⟩ := h
    rfl
  · obtain ⟨F, v, c, M, rfl, sF, hv, hM, q⟩ := h
    refine ⟨_, (pss_cons (ps_expr (pe_callS (okx_must_machine t) (hr.mono (by decide)) (by rfl) t.m_must_machine t.F_must_machine.kp t.b_must_machine (fun σ => passAt (takes_of rfl rfl rfl rfl) σ) (pa_cons (pv 0) pa_nil)))
      (pss_cons ps_never (pss_cons ps_never (pss_one ps_never)))), ?_⟩
    exact ⟨_, rfl, F, v, M, rfl, sF, hv, (fun e => by rw [hM] at e; cases e), fun _ H' g => q H' g⟩
theorem okx_parts_at (t : Tx K mg) : FnOk P w K mg base (L2.CX P w) 4 t.a_parts_at t.fd_parts_at ["machine", "depth"] (fun vs H Q E => sp_parts_at vs H Q E ∨ sp_doorN t.C_NoMachine vs H Q E) := FnOk.or (FnOk.lift (ok_parts_at t)) (okn_parts_at t)
theorem okn_no_back (t : Tx K mg) : FnOk P w K mg base (L2.CX P w) 6 t.a_no_back t.fd_no_back ["machine", "most"] (sp_doorN t.C_NoMachine) := by
  refine t.F_no_back.okX sc_no_back (fun vs H Q E h => ?_) (fun cdv A outer s H vs Q E hr h => ?_)
  · obtain ⟨F, v, c, M, rfl, _⟩ := h
    rfl
  · obtain ⟨F, v, c, M, rfl, sF, hv, hM, q⟩ := h
    refine ⟨_, (pss_cons (ps_expr (pe_callS (okx_must_machine t) (hr.mono (by decide)) (by rfl) t.m_must_machine t.F_must_machine.kp t.b_must_machine (fun σ => passAt (takes_of rfl rfl rfl rfl) σ) (pa_cons (pv 0) pa_nil)))
      (pss_cons ps_never (pss_one ps_never))), ?_⟩
    exact ⟨_, rfl, F, v, M, rfl, sF, hv, (fun e => by rw [hM] at e; cases e), fun _ H' g => q H' g⟩
theorem okx_no_back (t : Tx K mg) : FnOk P w K mg base (L2.CX P w) 6 t.a_no_back t.fd_no_back ["machine", "most"] (fun vs H Q E => sp_no_back vs H Q E ∨ sp_doorN t.C_NoMachine vs H Q E) := FnOk.or (FnOk.lift (ok_no_back t)) (okn_no_back t)
theorem okn_shows (t : Tx K mg) : FnOk P w K mg base (L2.CX P w) 6 t.a_shows t.fd_shows ["machine", "paper"] (sp_doorN t.C_NoMachine) := by
  refine t.F_shows.okX sc_shows (fun vs H Q E h => ?_) (fun cdv A outer s H vs Q E hr h => ?_)
  · obtain ⟨F, v, c, M, rfl, _⟩ := h
    rfl
  · obtain ⟨F, v, c, M, rfl, sF, hv, hM, q⟩ := h
    refine ⟨_, (pss_cons (ps_expr (pe_callS (okx_must_machine t) (hr.mono (by decide)) (by rfl) t.m_must_machine t.F_must_machine.kp t.b_must_machine (fun σ => passAt (takes_of rfl rfl rfl rfl) σ) (pa_cons (pv 0) pa_nil)))
      (pss_cons ps_never (pss_cons ps_never (pss_cons ps_never (pss_cons ps_never (pss_cons ps_never (pss_one ps_never))))))), ?_⟩
    exact ⟨_, rfl, F, v, M, rfl, sF, hv, (fun e => by rw [hM] at e; cases e), fun _ H' g => q H' g⟩
theorem okx_shows (t : Tx K mg) : FnOk P w K mg base (L2.CX P w) 6 t.a_shows t.fd_shows ["machine", "paper"] (fun vs H Q E => sp_shows vs H Q E ∨ sp_doorN t.C_NoMachine vs H Q E) := FnOk.or (FnOk.lift (ok_shows t)) (okn_shows t)
theorem okn_met_entries (t : Tx K mg) : FnOk P w K mg base (L2.CX P w) 4 t.a_met_entries t.fd_met_entries ["machine", "most"] (sp_doorN t.C_NoMachine) := by
  refine t.F_met_entries.okX sc_met_entries (fun vs H Q E h => ?_) (fun cdv A outer s H vs Q E hr h => ?_)
  · obtain ⟨F, v, c, M, rfl, _⟩ := h
    rfl
  · obtain ⟨F, v, c, M, rfl, sF, hv, hM, q⟩ := h
    refine ⟨_, (pss_cons (ps_expr (pe_callS (okx_must_machine t) (hr.mono (by decide)) (by rfl) t.m_must_machine t.F_must_machine.kp t.b_must_machine (fun σ => passAt (takes_of rfl rfl rfl rfl) σ) (pa_cons (pv 0) pa_nil)))
      (pss_cons ps_never (pss_cons ps_never (pss_cons ps_never (pss_one ps_never))))), ?_⟩
    exact ⟨_, rfl, F, v, M, rfl, sF, hv, (fun e => by rw [hM] at e; cases e), fun _ H' g => q H' g⟩
theorem okx_met_entries (t : Tx K mg) : FnOk P w K mg base (L2.CX P w) 4 t.a_met_entries t.fd_met_entries ["machine", "most"] (fun vs H Q E => sp_met vs H Q E ∨ sp_doorN t.C_NoMachine vs H Q E) := FnOk.or (FnOk.lift (ok_met_entries t)) (okn_met_entries t)
theorem okn_visits (t : Tx K mg) : FnOk P w K mg base (L2.CX P w) 4 t.a_visits t.fd_visits ["machine", "most"] (sp_doorN t.C_NoMachine) := by
  refine t.F_visits.okX sc_visits (fun vs H Q E h => ?_) (fun cdv A outer s H vs Q E hr h => ?_)
  · obtain ⟨F, v, c, M, rfl, _⟩ := h
    rfl
  · obtain ⟨F, v, c, M, rfl, sF, hv, hM, q⟩ := h
    refine ⟨_, (pss_cons (ps_expr (pe_callS (okx_must_machine t) (hr.mono (by decide)) (by rfl) t.m_must_machine t.F_must_machine.kp t.b_must_machine (fun σ => passAt (takes_of rfl rfl rfl rfl) σ) (pa_cons (pv 0) pa_nil)))
      (pss_cons ps_never (pss_cons ps_never (pss_cons ps_never (pss_one ps_never))))), ?_⟩
    exact ⟨_, rfl, F, v, M, rfl, sF, hv, (fun e => by rw [hM] at e; cases e), fun _ H' g => q H' g⟩
theorem okx_visits (t : Tx K mg) : FnOk P w K mg base (L2.CX P w) 4 t.a_visits t.fd_visits ["machine", "most"] (fun vs H Q E => sp_visits vs H Q E ∨ sp_doorN t.C_NoMachine vs H Q E) := FnOk.or (FnOk.lift (ok_visits t)) (okn_visits t)
theorem okn_records (t : Tx K mg) : FnOk P w K mg base (L2.CX P w) 4 t.a_records t.fd_records ["machine", "most"] (sp_doorN t.C_NoMachine) := by
  refine t.F_records.okX sc_records (fun vs H Q E h => ?_) (fun cdv A outer s H vs Q E hr h => ?_)
  · obtain ⟨F, v, c, M, rfl, _⟩ := h
    rfl
  · obtain ⟨F, v, c, M, rfl, sF, hv, hM, q⟩ := h
    refine ⟨_, (pss_cons (ps_expr (pe_callS (okx_must_machine t) (hr.mono (by decide)) (by rfl) t.m_must_machine t.F_must_machine.kp t.b_must_machine (fun σ => passAt (takes_of rfl rfl rfl rfl) σ) (pa_cons (pv 0) pa_nil)))
      (pss_cons ps_never (pss_cons ps_never (pss_cons ps_never (pss_cons ps_never (pss_cons ps_never (pss_one ps_never))))))), ?_⟩
    exact ⟨_, rfl, F, v, M, rfl, sF, hv, (fun e => by rw [hM] at e; cases e), fun _ H' g => q H' g⟩
theorem okx_records (t : Tx K mg) : FnOk P w K mg base (L2.CX P w) 4 t.a_records t.fd_records ["machine", "most"] (fun vs H Q E => sp_records vs H Q E ∨ sp_doorN t.C_NoMachine vs H Q E) := FnOk.or (FnOk.lift (ok_records t)) (okn_records t)
/-! ### the doors asked: a machine is let by, what is none is refused -/
def sp_pfN (C : Addr) : Sp := fun vs H Q E => ∃ (F : Hp) (v1 v2 c : V) (M N : GM), vs = [v1, v2, c] ∧ Same F H ∧ Is F v1 M ∧ Is F v2 N ∧ (isM M = true → isM N = false) ∧ ∀ H', Gr mu0 F H F H' → E (.ref C) none H'
theorem okn_parts_from (t : Tx K mg) : FnOk P w K mg base (L2.CX P w) 4 t.a_parts_from t.fd_parts_from ["one", "other", "most"] (sp_pfN t.C_NoMachine) := by
  refine t.F_parts_from.okX sc_parts_from (fun vs H Q E h => ?_) (fun cdv A outer s H vs Q E hr h => ?_)
  · obtain ⟨F, v1, v2, c, M, N, rfl, _⟩ := h
    rfl
  · obtain ⟨F, v1, v2, c, M, N, rfl, sF, h1, h2, hx, q⟩ := h
    refine ⟨_, (pss_cons (ps_expr (pe_callS (okx_must_machine t) (hr.mono (by decide)) (by rfl) t.m_must_machine t.F_must_machine.kp t.b_must_machine (fun σ => passAt (takes_of rfl rfl rfl rfl) σ) (pa_cons (pv 0) pa_nil)))
      (pss_cons (ps_expr (pe_callS (okx_must_machine t) (hr.mono (by decide)) (by rfl) t.m_must_machine t.F_must_machine.kp t.b_must_machine (fun σ => passAt (takes_of rfl rfl rfl rfl) σ) (pa_cons (pv 1) pa_nil)))
      (pss_cons ps_never (pss_cons ps_never (pss_cons ps_never (pss_one ps_never)))))), ?_⟩
    exact ⟨_, rfl, F, v1, M, rfl, sF, h1, (fun e H1 g1 => ⟨_, rfl, F, v2, N, rfl, g1.fh, h2, (fun e2 => by rw [hx e] at e2; cases e2), fun _ H2 g2 => q H2 (g1.trans g2)⟩), fun _ H' g => q H' g⟩
theorem okx_parts_from (t : Tx K mg) : FnOk P w K mg base (L2.CX P w) 4 t.a_parts_from t.fd_parts_from ["one", "other", "most"] (fun vs H Q E => sp_parts_from vs H Q E ∨ sp_pfN t.C_NoMachine vs H Q E) := FnOk.or (FnOk.lift (ok_parts_from t)) (okn_parts_from t)
theorem eqT {a b : Int} {A B : Prop} (h : a = b) (x : A) : if decide (V.int a = V.int b) = true then A else B := by
  subst h; exact ifT (decide_eq_true rfl) x
theorem eqF {a b : Int} {A B : Prop} (h : ¬ a = b) (x : B) : if decide (V.int a = V.int b) = true then A else B := ifF (decide_eq_false fun z => h (V.int.inj z)) x
/-- [[(), ()]] -/
theorem mok_good : MOk [[.emp, .emp]] 1 2 := by
  refine ⟨by decide, by decide, by decide, by decide, rfl, fun r m => ?_, fun r m e k => ⟨fun p w r' z => ?_⟩⟩
  · rw [List.mem_singleton.mp m]; rfl
  · rw [List.mem_singleton.mp m] at k
    have : e = .emp := by
      rcases List.mem_cons.mp k with h | h
      · exact h
      · exact List.mem_singleton.mp h
    rw [this] at z; cases z
/-- a machine, and all goes on; what is none, and it is refused -/
def Door (C : Addr) (F H : Hp) (v : V) (Q : VK) (E : XK) : Prop := (∃ (M : Mach) (R S : Nat), Is F v M ∧ MOk M R S ∧ ∀ (F' H' : Hp) (u : V), Gr mu0 F H F' H' → Q u H') ∨ (∃ M : GM, Is F v M ∧ isM M = false ∧ ∀ F' H', Gr mu0 F H F' H' → E (.ref C) none H')
def sp_L_met (C : Addr) : Sp := fun vs H Q E => ∃ (F : Hp) (v : V) (z : Int), vs = [.int z, v] ∧ Same F H ∧ 0 ≤ z ∧ z ≤ 4 ∧ Door C F H v Q E
theorem okx_L_met (t : Tx K mg) : FnOk P w K mg base (L2.CX P w) 5 t.a_L_met t.fd_L_met ["_law_way", "_law_machine_here"] (sp_L_met t.C_NoMachine) := by
  refine t.F_L_met.okX sc_L_met (fun vs H Q E h => ?_) (fun cdv A outer s H vs Q E hr h => ?_)
  · obtain ⟨F, v, z, rfl, _⟩ := h
    rfl
  · obtain ⟨F, v, z, rfl, sF, z0, z4, hd⟩ := h
    refine ⟨_, (pss_cons (ps_set (i := 2) sc_L_met.nd rfl (by first | exact Or.inl rfl | exact Or.inr rfl) (pe_lst (pa_cons (pe_lst (pa_cons (pe_tup pa_nil) (pa_cons (pe_tup pa_nil) pa_nil))) pa_nil)))
      (pss_cons (ps_if (pt_cmpR op_eq (pv 0) pe_int (nomark _)) (pss_one (ps_ret (pe_callS (okx_met_entries t) (hr.mono (by decide)) (by rfl) t.m_met_entries t.F_met_entries.kp t.b_met_entries (fun σ => passAt (takes_of rfl rfl rfl rfl) σ) (pa_cons (pv 1) (pa_cons pe_int pa_nil))))) pss_nil)
      (pss_cons (ps_if (pt_cmpR op_eq (pv 0) pe_int (nomark _)) (pss_one (ps_ret (pe_callS (okx_visits t) (hr.mono (by decide)) (by rfl) t.m_visits t.F_visits.kp t.b_visits (fun σ => passAt (takes_of rfl rfl rfl rfl) σ) (pa_cons (pv 1) (pa_cons pe_int pa_nil))))) pss_nil)
      (pss_cons (ps_if (pt_cmpR op_eq (pv 0) pe_int (nomark _)) (pss_one (ps_ret (pe_callS (okx_records t) (hr.mono (by decide)) (by rfl) t.m_records t.F_records.kp t.b_records (fun σ => passAt (takes_of rfl rfl rfl rfl) σ) (pa_cons (pv 1) (pa_cons pe_int pa_nil))))) pss_nil)
      (pss_cons (ps_if (pt_cmpR op_eq (pv 0) pe_int (nomark _)) (pss_one (ps_ret (pe_callS (okx_parts_from t) (hr.mono (by decide)) (by rfl) t.m_parts_from t.F_parts_from.kp t.b_parts_from (fun σ => passAt (takes_of rfl rfl rfl rfl) σ) (pa_cons (pv 1) (pa_cons (pv 2) (pa_cons pe_int pa_nil)))))) pss_nil)
      (pss_one (ps_ret (pe_callS (okx_parts_from t) (hr.mono (by decide)) (by rfl) t.m_parts_from t.F_parts_from.kp t.b_parts_from (fun σ => passAt (takes_of rfl rfl rfl rfl) σ) (pa_cons (pv 2) (pa_cons (pv 1) (pa_cons pe_int pa_nil))))))))))), ?_⟩
    have g0 : Gr mu0 F H F H := Gr.refl sF
    refine ⟨nil_le, fun p1 n1 => ⟨nil_le, fun p2 n2 => ⟨two_le, fun p3 n3 => ⟨one_le, fun p4 n4 => ?_⟩⟩⟩⟩
    have k1 := g0.new (o := .tup []) n1
    have i1 : Is (upd F p1 (.tup [])) (.ref p1) Ent.emp := ⟨p1, rfl, upd_same⟩
    have k2 := k1.new (o := .tup []) n2
    have s2 := sm_new (o := .tup []) (Same.refl _) (k1.fh.free n2)
    have i2 : Is (upd (upd F p1 (.tup [])) p2 (.tup [])) (.ref p2) Ent.emp := ⟨p2, rfl, upd_same⟩
    have k3 := k2.new (o := .lst [.ref p1, .ref p2]) n3
    have s3 := sm_new (o := .lst [.ref p1, .ref p2]) (Same.refl _) (k2.fh.free n3)
    have i3 : Is (upd (upd (upd F p1 (.tup [])) p2 (.tup [])) p3 (.lst [.ref p1, .ref p2])) (.ref p3) [Ent.emp, Ent.emp] := ⟨p3, _, rfl, upd_same, All2.cons ((i1.up s2).up s3) (All2.one (i2.up s3))⟩
    have k4 := k3.new (o := .lst [.ref p3]) n4
    have s4 := sm_new (o := .lst [.ref p3]) (Same.refl _) (k3.fh.free n4)
    have hgd : Is (upd (upd (upd (upd F p1 (.tup [])) p2 (.tup [])) p3 (.lst [.ref p1, .ref p2])) p4 (.lst [.ref p3])) (.ref p4) ([[.emp, .emp]] : Mach) := ⟨p4, _, rfl, upd_same, All2.one (i3.up s4)⟩
    generalize (upd (upd (upd (upd F p1 (.tup [])) p2 (.tup [])) p3 (.lst [.ref p1, .ref p2])) p4 (.lst [.ref p3])) = F4 at k4 hgd
    generalize (upd (upd (upd (upd H p1 (.tup [])) p2 (.tup [])) p3 (.lst [.ref p1, .ref p2])) p4 (.lst [.ref p3])) = H4 at k4 ⊢
    have h : z = 0 ∨ z = 1 ∨ z = 2 ∨ z = 3 ∨ z = 4 := by omega
    rcases h with rfl | rfl | rfl | rfl | rfl
    · refine ⟨_, rfl, rfl, _, rfl, eqT rfl ⟨_, rfl, ?_⟩⟩
      rcases hd with ⟨M, R, S, hv, hM, q⟩ | ⟨M, hv, hM, q⟩
      · exact .inl ⟨F4, v, M, R, S, 3, rfl, k4.fh, hv.up k4.ff, hM, by decide, fun F' H' D xs cs k c g _ _ _ _ => q F' H' _ (k4.trans g)⟩
      · exact .inr ⟨F4, v, _, M, rfl, k4.fh, hv.up k4.ff, hM, fun H' g => q _ H' (k4.trans g)⟩
    · refine ⟨_, rfl, rfl, _, rfl, eqF (by decide) ⟨_, rfl, rfl, _, rfl, eqT rfl ⟨_, rfl, ?_⟩⟩⟩
      rcases hd with ⟨M, R, S, hv, hM, q⟩ | ⟨M, hv, hM, q⟩
      · exact .inl ⟨F4, v, M, R, S, 3, rfl, k4.fh, hv.up k4.ff, hM, by decide, fun F' H' D xs cs k c g _ _ _ _ => q F' H' _ (k4.trans g)⟩
      · exact .inr ⟨F4, v, _, M, rfl, k4.fh, hv.up k4.ff, hM, fun H' g => q _ H' (k4.trans g)⟩
    · refine ⟨_, rfl, rfl, _, rfl, eqF (by decide) ⟨_, rfl, rfl, _, rfl, eqF (by decide) ⟨_, rfl, rfl, _, rfl, eqT rfl ⟨_, rfl, ?_⟩⟩⟩⟩
      rcases hd with ⟨M, R, S, hv, hM, q⟩ | ⟨M, hv, hM, q⟩
      · exact .inl ⟨F4, v, M, R, S, 3, rfl, k4.fh, hv.up k4.ff, hM, by decide, fun F' H' D xs cs k c g _ _ _ _ => q F' H' _ (k4.trans g)⟩
      · exact .inr ⟨F4, v, _, M, rfl, k4.fh, hv.up k4.ff, hM, fun H' g => q _ H' (k4.trans g)⟩
    · refine ⟨_, rfl, rfl, _, rfl, eqF (by decide) ⟨_, rfl, rfl, _, rfl, eqF (by decide) ⟨_, rfl, rfl, _, rfl, eqF (by decide) ⟨_, rfl, rfl, _, rfl, eqT rfl ⟨_, rfl, _, rfl, ?_⟩⟩⟩⟩⟩
      rcases hd with ⟨M, R, S, hv, hM, q⟩ | ⟨M, hv, hM, q⟩
      · exact .inl ⟨F4, v, .ref p4, M, _, R, S, 1, 2, 3, rfl, k4.fh, hv.up k4.ff, hM, hgd, mok_good, by decide, fun F' H' o g _ => q F' H' _ (k4.trans g)⟩
      · exact .inr ⟨F4, v, _, _, M, _, rfl, k4.fh, hv.up k4.ff, gm_is hgd, (fun e => by rw [hM] at e; cases e), fun H' g => q _ H' (k4.trans g)⟩
    · refine ⟨_, rfl, rfl, _, rfl, eqF (by decide) ⟨_, rfl, rfl, _, rfl, eqF (by decide) ⟨_, rfl, rfl, _, rfl, eqF (by decide) ⟨_, rfl, rfl, _, rfl, eqF (by decide) ⟨_, rfl, _, rfl, ?_⟩⟩⟩⟩⟩
      rcases hd with ⟨M, R, S, hv, hM, q⟩ | ⟨M, hv, hM, q⟩
      · exact .inl ⟨F4, .ref p4, v, _, M, 1, 2, R, S, 3, rfl, k4.fh, hgd, mok_good, hv.up k4.ff, hM, by decide, fun F' H' o g _ => q F' H' _ (k4.trans g)⟩
      · exact .inr ⟨F4, _, v, _, _, M, rfl, k4.fh, gm_is hgd, hv.up k4.ff, (fun _ => hM), fun H' g => q _ H' (k4.trans g)⟩
def sp_L_asked (C : Addr) : Sp := fun vs H Q E => ∃ (F : Hp) (v : V) (z : Nat), vs = [.int z, v] ∧ Same F H ∧ z ≤ 15 ∧ Door C F H v Q E
theorem okx_L_asked (t : Tx K mg) : FnOk P w K mg base (L2.CX P w) 7 t.a_L_asked t.fd_L_asked ["_law_way", "_law_machine_here"] (sp_L_asked t.C_NoMachine) := by
  refine t.F_L_asked.okX sc_L_asked (fun vs H Q E h => ?_) (fun cdv A outer s H vs Q E hr h => ?_)
  · obtain ⟨F, v, z, rfl, _⟩ := h
    rfl
  · obtain ⟨F, v, z, rfl, sF, z15, hd⟩ := h
    refine ⟨_, (pss_cons (ps_if (pt_cmpR op_eq (pv 0) pe_int (nomark _)) (pss_one (ps_ret (pe_callS (okx_stepped t) (hr.mono (by decide)) (by rfl) t.m_stepped t.F_stepped.kp t.b_stepped (fun σ => passAt (takes_of rfl rfl rfl rfl) σ) (pa_cons (pv 1) (pa_cons (pe_tup (pa_cons pe_int (pa_cons pe_int (pa_cons (pe_lst pa_nil) pa_nil)))) pa_nil))))) pss_nil)
      (pss_cons (ps_if (pt_cmpR op_eq (pv 0) pe_int (nomark _)) (pss_one (ps_ret (pe_callS (okx_run t) (hr.mono (by decide)) (by rfl) t.m_run t.F_run.kp t.b_run (fun σ => passAt (takes_of rfl rfl rfl rfl) σ) (pa_cons (pv 1) (pa_cons pe_int pa_nil))))) pss_nil)
      (pss_cons (ps_if (pt_cmpR op_eq (pv 0) pe_int (nomark _)) (pss_one (ps_ret (pe_callS (okx_setups t) (hr.mono (by decide)) (by rfl) t.m_setups t.F_setups.kp t.b_setups (fun σ => passAt (takes_of rfl rfl rfl rfl) σ) (pa_cons (pv 1) (pa_cons pe_int pa_nil))))) pss_nil)
      (pss_cons (ps_if (pt_cmpR op_eq (pv 0) pe_int (nomark _)) (pss_one (ps_ret (pe_callS (okx_touched t) (hr.mono (by decide)) (by rfl) t.m_touched t.F_touched.kp t.b_touched (fun σ => passAt (takes_of rfl rfl rfl rfl) σ) (pa_cons (pv 1) (pa_cons pe_int pa_nil))))) pss_nil)
      (pss_cons (ps_if (pt_cmpR op_eq (pv 0) pe_int (nomark _)) (pss_one (ps_ret (pe_callS (okx_ring t) (hr.mono (by decide)) (by rfl) t.m_ring t.F_ring.kp t.b_ring (fun σ => passAt (takes_of rfl rfl rfl rfl) σ) (pa_cons (pv 1) (pa_cons pe_int pa_nil))))) pss_nil)
      (pss_cons (ps_if (pt_cmpR op_eq (pv 0) pe_int (nomark _)) (pss_one (ps_ret (pe_callS (okx_drift t) (hr.mono (by decide)) (by rfl) t.m_drift t.F_drift.kp t.b_drift (fun σ => passAt (takes_of rfl rfl rfl rfl) σ) (pa_cons (pv 1) (pa_cons pe_int pa_nil))))) pss_nil)
      (pss_cons (ps_if (pt_cmpR op_eq (pv 0) pe_int (nomark _)) (pss_one (ps_ret (pe_callS (okx_parts_at t) (hr.mono (by decide)) (by rfl) t.m_parts_at t.F_parts_at.kp t.b_parts_at (fun σ => passAt (takes_of rfl rfl rfl rfl) σ) (pa_cons (pv 1) (pa_cons pe_int pa_nil))))) pss_nil)
      (pss_cons (ps_if (pt_cmpR op_eq (pv 0) pe_int (nomark _)) (pss_one (ps_ret (pe_callS (okx_no_back t) (hr.mono (by decide)) (by rfl) t.m_no_back t.F_no_back.kp t.b_no_back (fun σ => passAt (takes_of rfl rfl rfl rfl) σ) (pa_cons (pv 1) (pa_cons pe_int pa_nil))))) pss_nil)
      (pss_cons (ps_if (pt_cmpR op_eq (pv 0) pe_int (nomark _)) (pss_one (ps_ret (pe_callS (okx_shows t) (hr.mono (by decide)) (by rfl) t.m_shows t.F_shows.kp t.b_shows (fun σ => passAt (takes_of rfl rfl rfl rfl) σ) (pa_cons (pv 1) (pa_cons (pe_tup (pa_cons pe_str (pa_cons pe_int pa_nil))) pa_nil))))) pss_nil)
      (pss_cons (ps_if (pt_cmpR op_eq (pv 0) pe_int (nomark _)) (pss_one (ps_ret (pe_callS (okx_shows t) (hr.mono (by decide)) (by rfl) t.m_shows t.F_shows.kp t.b_shows (fun σ => passAt (takes_of rfl rfl rfl rfl) σ) (pa_cons (pv 1) (pa_cons (pe_tup (pa_cons pe_str (pa_cons pe_int (pa_cons pe_int pa_nil)))) pa_nil))))) pss_nil)
      (pss_cons (ps_if (pt_cmpR op_eq (pv 0) pe_int (nomark _)) (pss_one (ps_ret (pe_callS (okx_show_machine t) (hr.mono (by decide)) (by rfl) t.m_show_machine t.F_show_machine.kp t.b_show_machine (fun σ => passAt (takes_of rfl rfl rfl rfl) σ) (pa_cons (pv 1) pa_nil)))) pss_nil)
      (pss_one (ps_ret (pe_callS (okx_L_met t) (hr.mono (by decide)) (by rfl) t.m_L_met t.F_L_met.kp t.b_L_met (fun σ => passAt (takes_of rfl rfl rfl rfl) σ) (pa_cons (pe_op op_sub (pv 0) pe_int) (pa_cons (pv 1) pa_nil)))))))))))))))), ?_⟩
    have g0 : Gr mu0 F H F H := Gr.refl sF
    have im : ∀ {n : Int} {A B : Prop}, (((z : Int) = n) → A) → ((¬ (z : Int) = n) → B) → if decide (V.int (z : Int) = V.int n) = true then A else B := fun {n A B} a b => by
      by_cases c : (z : Int) = n
      · exact eqT c (a c)
      · exact eqF c (b c)
    have pap : ∀ {p : Addr} {o : HO}, H p = none → Gr mu0 F H (upd F p o) (upd H p o) := fun n => g0.new n
    refine ⟨_, rfl, rfl, _, rfl, im (fun c => ?_) (fun c0 => ?_)⟩
    · refine ⟨_, rfl, nil_le, fun l nl => ⟨three_le, fun p np => ?_⟩⟩
      have k1 := g0.new (o := .lst []) nl
      have k2 := k1.new (o := .tup [.int 0, .int 0, .ref l]) np
      have s2 := sm_new (o := .tup [.int 0, .int 0, .ref l]) (Same.refl _) (k1.fh.free np)
      rcases hd with ⟨M, R, S, hv, hM, q⟩ | ⟨M, hv, hM, q⟩
      · have iu : Is (upd (upd F l (.lst [])) p (.tup [.int 0, .int 0, .ref l])) (.ref p) (⟨0, 0, []⟩ : Setup) := ⟨p, _, _, _, rfl, upd_same, rfl, rfl, l, [], rfl, s2 _ _ upd_same, All2.nil⟩
        have hlen := hM.len
        have hr1 := hM.r1
        have hR : M[0]? = some (M[0]'(by omega)) := List.getElem?_eq_getElem _
        generalize M[0]'(by omega) = row at hR
        have hrow := hM.row row (List.mem_of_getElem? hR)
        have hs2 := hM.s2
        have hE : row[0]? = some (row[0]'(by omega)) := List.getElem?_eq_getElem _
        generalize row[0]'(by omega) = e at hE
        exact .inl ⟨_, v, .ref p, M, R, S, ⟨0, 0, []⟩, row, e, rfl, k2.fh, hv.up k2.ff, hM, iu, List.nodup_nil, Nat.zero_le _, Int.le_refl _, hR, Int.le_refl _, hE, fun _ H' g => q _ H' _ (k2.trans g), fun _ _ _ _ F' H' l v xs g _ _ _ => q F' H' _ (k2.trans g)⟩
      · exact .inr ⟨_, v, _, M, rfl, k2.fh, hv.up k2.ff, hM, fun H' g => q _ H' (k2.trans g)⟩
    refine ⟨_, rfl, rfl, _, rfl, im (fun c => ?_) (fun c1 => ?_)⟩
    · refine ⟨_, rfl, ?_⟩
      rcases hd with ⟨M, R, S, hv, hM, q⟩ | ⟨M, hv, hM, q⟩
      · exact .inl ⟨F, v, M, R, S, 3, rfl, sF, hv, hM, by decide, fun F' H' l u x xs k c g _ _ _ _ _ => q F' H' _ g⟩
      · exact .inr ⟨F, v, _, M, rfl, sF, hv, hM, fun H' g => q _ H' g⟩
    refine ⟨_, rfl, rfl, _, rfl, im (fun c => ?_) (fun c2 => ?_)⟩
    · refine ⟨_, rfl, ?_⟩
      rcases hd with ⟨M, R, S, hv, hM, q⟩ | ⟨M, hv, hM, q⟩
      · exact .inl ⟨F, v, M, R, S, 3, rfl, sF, hv, hM, by decide, fun F' H' D us ps yss cs k c g _ _ _ => q F' H' _ g⟩
      · exact .inr ⟨F, v, _, M, rfl, sF, hv, hM, fun H' g => q _ H' g⟩
    refine ⟨_, rfl, rfl, _, rfl, im (fun c => ?_) (fun c3 => ?_)⟩
    · refine ⟨_, rfl, ?_⟩
      rcases hd with ⟨M, R, S, hv, hM, q⟩ | ⟨M, hv, hM, q⟩
      · exact .inl ⟨F, v, M, R, S, 3, rfl, sF, hv, hM, by decide, fun F' H' u lo hi cs k c g _ _ _ _ _ => q F' H' _ g⟩
      · exact .inr ⟨F, v, _, M, rfl, sF, hv, hM, fun H' g => q _ H' g⟩
    refine ⟨_, rfl, rfl, _, rfl, im (fun c => ?_) (fun c4 => ?_)⟩
    · refine ⟨_, rfl, ?_⟩
      rcases hd with ⟨M, R, S, hv, hM, q⟩ | ⟨M, hv, hM, q⟩
      · exact .inl ⟨F, v, M, R, S, 3, rfl, sF, hv, hM, by decide, fun F' H' u k c o g _ _ _ => q F' H' _ g⟩
      · exact .inr ⟨F, v, _, M, rfl, sF, hv, hM, fun H' g => q _ H' g⟩
    refine ⟨_, rfl, rfl, _, rfl, im (fun c => ?_) (fun c5 => ?_)⟩
    · refine ⟨_, rfl, ?_⟩
      rcases hd with ⟨M, R, S, hv, hM, q⟩ | ⟨M, hv, hM, q⟩
      · exact .inl ⟨F, v, M, R, S, 3, rfl, sF, hv, hM, by decide, fun F' H' u k c o g _ _ _ => q F' H' _ g⟩
      · exact .inr ⟨F, v, _, M, rfl, sF, hv, hM, fun H' g => q _ H' g⟩
    refine ⟨_, rfl, rfl, _, rfl, im (fun c => ?_) (fun c6 => ?_)⟩
    · refine ⟨_, rfl, ?_⟩
      rcases hd with ⟨M, R, S, hv, hM, q⟩ | ⟨M, hv, hM, q⟩
      · refine .inl ⟨F, v, M, R, S, 1, rfl, sF, hv, hM, by decide, fun k hk => ?_, fun F' H' c ts ls g _ _ _ => q F' H' _ g⟩
        have hk : k < 1 := hk
        obtain rfl : k = 0 := by omega
        exact Nat.le_trans (lvl0_len hM) (by decide)
      · exact .inr ⟨F, v, _, M, rfl, sF, hv, hM, fun H' g => q _ H' g⟩
    refine ⟨_, rfl, rfl, _, rfl, im (fun c => ?_) (fun c7 => ?_)⟩
    · refine ⟨_, rfl, ?_⟩
      rcases hd with ⟨M, R, S, hv, hM, q⟩ | ⟨M, hv, hM, q⟩
      · exact .inl ⟨F, v, M, R, S, 2, rfl, sF, hv, hM, by decide, fun F' H' u o g _ _ => q F' H' _ g⟩
      · exact .inr ⟨F, v, _, M, rfl, sF, hv, hM, fun H' g => q _ H' g⟩
    refine ⟨_, rfl, rfl, _, rfl, im (fun c => ?_) (fun c8 => ?_)⟩
    · refine ⟨_, rfl, two_le, fun p np => ?_⟩
      have k2 := g0.new (o := .tup [.str "ends", .int 2]) np
      rcases hd with ⟨M, R, S, hv, hM, q⟩ | ⟨M, hv, hM, q⟩
      · have iu : PapAt5 (upd F p (.tup [.str "ends", .int 2])) (.ref p) (.ends 2) := ⟨p, rfl, upd_same⟩
        exact .inl ⟨_, v, .ref p, M, R, S, .ends 2, rfl, k2.fh, hv.up k2.ff, hM, iu, by show 2 ≤ 5000; decide, fun F' H' r g _ => q F' H' _ (k2.trans g)⟩
      · exact .inr ⟨_, v, _, M, rfl, k2.fh, hv.up k2.ff, hM, fun H' g => q _ H' (k2.trans g)⟩
    refine ⟨_, rfl, rfl, _, rfl, im (fun c => ?_) (fun c9 => ?_)⟩
    · refine ⟨_, rfl, three_le, fun p np => ?_⟩
      have k2 := g0.new (o := .tup [.str "ring", .int 2, .int 4]) np
      rcases hd with ⟨M, R, S, hv, hM, q⟩ | ⟨M, hv, hM, q⟩
      · have iu : PapAt5 (upd F p (.tup [.str "ring", .int 2, .int 4])) (.ref p) (.ring 2 4) := ⟨p, rfl, upd_same⟩
        exact .inl ⟨_, v, .ref p, M, R, S, .ring 2 4, rfl, k2.fh, hv.up k2.ff, hM, iu, ⟨by decide, by decide⟩, fun F' H' r g _ => q F' H' _ (k2.trans g)⟩
      · exact .inr ⟨_, v, _, M, rfl, k2.fh, hv.up k2.ff, hM, fun H' g => q _ H' (k2.trans g)⟩
    refine ⟨_, rfl, rfl, _, rfl, im (fun c => ?_) (fun c10 => ?_)⟩
    · refine ⟨_, rfl, ?_⟩
      rcases hd with ⟨M, R, S, hv, hM, q⟩ | ⟨M, hv, hM, q⟩
      · exact ⟨F, v, gm M, rfl, sF, gm_is hv, (fun _ H' g => q F H' _ g), fun e => by rw [isM_gm hM] at e; cases e⟩
      · exact ⟨F, v, M, rfl, sF, hv, (fun e => by rw [hM] at e; cases e), fun _ H' g => q _ H' g⟩
    refine ⟨_, rfl, _, _, rfl, rfl, _, rfl, F, v, (z : Int) - 11, rfl, sF, by omega, by omega, hd⟩
/-! ### what is no machine, drawn -/
theorem Gr.newE {mu : Addr → Prop} {F H F1 H1 : Hp} {q : Addr} {o : HO} (a : Gr mu F H F1 H1) (n : H1 q = none) : ∃ F', Gr mu F H F' (upd H1 q o) ∧ F' q = some o ∧ Same F1 F' ∧ Gr mu0 F1 H1 F' (upd H1 q o) := ⟨_, a.new n, upd_same, sm_new (Same.refl F1) (a.fh.free n), (Gr.refl (mu := mu0) a.fh).new n⟩
def bads (R S : Int) : List GE := [⟨[0]⟩, ⟨[0, 1]⟩, ⟨[0, 1, 0, 0]⟩, ⟨[S, 1, 0]⟩, ⟨[-1, 1, 0]⟩, ⟨[0, 0, 0]⟩, ⟨[0, 2, 0]⟩, ⟨[0, -2, 0]⟩, ⟨[0, 1, R]⟩, ⟨[0, 1, -1]⟩]
theorem bads_no {R S : Nat} : ∀ e ∈ bads R S, isE R S e.l = false := by
  intro e m
  unfold bads at m
  simp only [List.mem_cons, List.not_mem_nil, or_false] at m
  rcases m with rfl | rfl | rfl | rfl | rfl | rfl | rfl | rfl | rfl | rfl <;> simp [isE]
theorem bad_isM {M : GM} {R S i j : Nat} {row : List GE} {e : GE} (h : IsM M R S) (hr : M[i]? = some row) (hj : j < row.length) (he : isE R S e.l = false) : isM (M.set i (row.set j e)) = false := by
  cases z : isM (M.set i (row.set j e)) with
  | false => rfl
  | true =>
    exfalso
    obtain ⟨R', S', h'⟩ := isM_of z
    have il : i < M.length := (List.getElem?_eq_some_iff.mp hr).1
    have e1 : R' = R := by rw [← h'.len, List.length_set, h.len]
    have hm : row.set j e ∈ M.set i (row.set j e) := List.mem_iff_getElem?.mpr ⟨i, by rw [List.getElem?_set_self il]⟩
    have e2 : S' = S := by rw [← h'.row _ hm, List.length_set, h.row row (List.mem_of_getElem? hr)]
    have z2 := h'.ent _ hm e (List.mem_iff_getElem?.mpr ⟨j, by rw [List.getElem?_set_self hj]⟩)
    rw [e1, e2, he] at z2
    cases z2
def OddAt (F : Hp) (v : V) (M : GM) : Prop := Is F v M ∧ isM M = false
theorem OddAt.up {F F' : Hp} {v : V} {M : GM} (h : OddAt F v M) (s : Same F F') : OddAt F' v M := ⟨Is.up h.1 s, h.2⟩
def sp_L_odd : Sp := fun vs H Q _ => ∃ (F : Hp) (p : Addr) (a b : Int) (v : V) (M : GM) (R S : Nat), vs = [.ref p, v] ∧ Same F H ∧ F p = none ∧ H p = some (PurseO a b) ∧ 0 ≤ a ∧ 0 ≤ b ∧ Is F v M ∧ IsM M R S ∧
  ∀ (F' H' : Hp) (l : Addr) (vs : List V) (Ms : List GM) (a' b' : Int), Gr (muP p) F H F' H' → H' p = some (PurseO a' b') → 0 ≤ a' → 0 ≤ b' → Ow H F' H' l (.lst vs) → All2 (OddAt F') vs Ms → Q (.ref l) H'
theorem ok_L_odd (t : Tx K mg) : FnOk P w K mg base CX0 2 t.a_L_odd t.fd_L_odd ["_law_purse_here", "_law_machine_here"] sp_L_odd := by
  refine t.F_L_odd.ok sc_L_odd (fun vs H Q E h => ?_) (fun cdv A outer s H vs Q E hr h => ?_)
  · obtain ⟨F, p, a, b, v, M, R, S, rfl, _⟩ := h
    rfl
  · obtain ⟨F, p, a, b, v, M, R, S, rfl, sF, fp, hp, ha, hb, hv, hM, q⟩ := h
    refine ⟨_, (pss_cons (ps_set (i := 2) sc_L_odd.nd rfl (by first | exact Or.inl rfl | exact Or.inr rfl) (pe_callB (id := "len") call_lenQ (by rfl) t.n_len (by decide +kernel) (pa_cons (pe_ix ix_list (pv 1) pe_int (fun _ _ => rfl)) pa_nil)))
      (pss_cons (ps_set (i := 3) sc_L_odd.nd rfl (by first | exact Or.inl rfl | exact Or.inr rfl) (pe_callB (id := "len") call_lenQ (by rfl) t.n_len (by decide +kernel) (pa_cons (pv 1) pa_nil)))
      (pss_cons (ps_set (i := 4) sc_L_odd.nd rfl (by first | exact Or.inl rfl | exact Or.inr rfl) (pe_lst (pa_cons (pe_lst pa_nil) (pa_cons (pe_lst (pa_cons (pe_lst pa_nil) pa_nil)) (pa_cons (pe_lst (pa_cons (pe_lst (pa_cons (pe_tup pa_nil) pa_nil)) pa_nil)) (pa_cons (pe_op op_rep (pe_lst (pa_cons (pe_lst (pa_cons (pe_tup pa_nil) (pa_cons (pe_tup pa_nil) pa_nil))) pa_nil)) pe_int) (pa_cons (pe_lst (pa_cons (pe_lst (pa_cons (pe_tup pa_nil) (pa_cons (pe_tup pa_nil) pa_nil))) (pa_cons (pe_lst (pa_cons (pe_tup pa_nil) (pa_cons (pe_tup pa_nil) (pa_cons (pe_tup pa_nil) pa_nil)))) pa_nil))) (pa_cons (pe_lst (pa_cons (pe_op op_rep (pe_lst (pa_cons (pe_tup pa_nil) pa_nil)) pe_int) pa_nil)) (pa_cons (pe_lst (pa_cons (pe_lst (pa_cons (pe_tup pa_nil) (pa_cons (pe_tup pa_nil) pa_nil))) (pa_cons (pe_lst pa_nil) pa_nil))) pa_nil)))))))))
      (pss_cons (ps_set (i := 5) sc_L_odd.nd rfl (by first | exact Or.inl rfl | exact Or.inr rfl) (pe_lst (pa_cons (pe_tup (pa_cons pe_int pa_nil)) (pa_cons (pe_tup (pa_cons pe_int (pa_cons pe_int pa_nil))) (pa_cons (pe_tup (pa_cons pe_int (pa_cons pe_int (pa_cons pe_int (pa_cons pe_int pa_nil))))) (pa_cons (pe_tup (pa_cons (pv 2) (pa_cons pe_int (pa_cons pe_int pa_nil)))) (pa_cons (pe_tup (pa_cons (pe_un un_neg pe_int) (pa_cons pe_int (pa_cons pe_int pa_nil)))) (pa_cons (pe_tup (pa_cons pe_int (pa_cons pe_int (pa_cons pe_int pa_nil)))) (pa_cons (pe_tup (pa_cons pe_int (pa_cons pe_int (pa_cons pe_int pa_nil)))) pa_nil)))))))))
      (pss_cons (ps_set (i := 5) sc_L_odd.nd rfl (by first | exact Or.inl rfl | exact Or.inr rfl) (pe_op op_cat (pv 5) (pe_lst (pa_cons (pe_tup (pa_cons pe_int (pa_cons (pe_un un_neg pe_int) (pa_cons pe_int pa_nil)))) (pa_cons (pe_tup (pa_cons pe_int (pa_cons pe_int (pa_cons (pv 3) pa_nil)))) (pa_cons (pe_tup (pa_cons pe_int (pa_cons pe_int (pa_cons (pe_un un_neg pe_int) pa_nil)))) pa_nil))))))
      (pss_cons (ps_for PassesOwn.never rfl (pi_range1 (by rfl) t.n_range (pa_cons pe_int pa_nil)) (pg_name (i := 6) sc_L_odd.nd rfl (by first | exact Or.inl rfl | exact Or.inr rfl)) (pss_cons (ps_setLc (i := 7) (own := [("_law_row", 8)]) (g := gName 8) (tt := tYes) rfl sc_L_odd.nd rfl rfl (sw_true rfl rfl rfl (by decide +kernel)) (pi_list (pv 1)) (blkOk_by (N := N_L_odd) (sc := defScope s_L_odd) (by decide +kernel)) (fun _ _ _ _ _ => (pg_name (i := 8) sc_L_odd.nd rfl (by first | exact Or.inl rfl | exact Or.inr rfl))) (fun _ _ _ _ _ => pts_nil) (fun _ _ _ _ _ => (pe_callTy (T := "list") (crK (K := K) (r := rListQ) rfl call_listQ) (by rfl) t.n_list (by decide +kernel) (pa_cons (pv 8) pa_nil))))
      (pss_cons (ps_asg (pe_ix ix_list (pv 5) (pe_call (ok_L_draw t) (hr.mono (by decide)) (by rfl) t.m_L_draw t.F_L_draw.kp t.b_L_draw .nil pass0 (pa_cons (pv 0) (pa_cons (pe_callB (id := "len") call_lenQ (by rfl) t.n_len (by decide +kernel) (pa_cons (pv 5) pa_nil)) pa_nil))) (fun _ _ => rfl)) (pg_sub (pe_ix ix_list (pv 7) (pe_call (ok_L_draw t) (hr.mono (by decide)) (by rfl) t.m_L_draw t.F_L_draw.kp t.b_L_draw .nil pass0 (pa_cons (pv 0) (pa_cons (pv 3) pa_nil))) (fun _ _ => rfl)) (pe_call (ok_L_draw t) (hr.mono (by decide)) (by rfl) t.m_L_draw t.F_L_draw.kp t.b_L_draw .nil pass0 (pa_cons (pv 0) (pa_cons (pv 2) pa_nil))) set_list))
      (pss_one (ps_expr (pe_bm PySem.F.plainAttrs_list PySem.F.slot_list_append PySem.F.type_list_append mt_append (pv 4) (pa_cons (pv 7) pa_nil)))))))
      (pss_one (ps_ret (pv 4))))))))), ?_⟩
    have g0 : Gr (muP p) F H F H := Gr.refl sF
    obtain ⟨am, rv, rfl, ham, hrs⟩ := id hv
    have lrv := hrs.1
    have lM := hM.len
    have r1 := hM.r1
    have r4 := hM.r4
    have s2 := hM.s2
    have s4 := hM.s4
    have h0 := sF _ _ ham
    have hx0 : M[0]? = some (M[0]'(by omega)) := List.getElem?_eq_getElem _
    generalize M[0]'(by omega) = row0 at hx0
    obtain ⟨_, e0, ra, re, rfl, hra, hre⟩ := hrs.get hx0
    have lre : re.length = S := by rw [show re.length = row0.length from hre.1]; exact hM.row row0 (List.mem_of_getElem? hx0)
    refine ⟨_, rfl, am, rv, _, _, rfl, rfl, SqL.of h0, atI_nat (j := 0) e0, ra, re, rfl, .inl (SqL.of (sF _ _ hra)), _, rfl, am, rv, rfl, .inl (SqL.of h0), ?_⟩
    rw [lre, lrv, lM]
    have hvv := hv
    refine ⟨nil_le, fun x1 n1 => ?_⟩
    obtain ⟨F1, g1, h1, s1, c1⟩ := g0.newE (o := .lst []) n1
    have q1 := ln (u := .lst []) n1 hp
    have i1 : Is F1 (.ref x1) ([] : GM) := ⟨x1, [], rfl, h1, All2.nil⟩
    refine ⟨nil_le, fun x2 n2 => ?_⟩
    obtain ⟨F2, g2, h2, s2, c2⟩ := g1.newE (o := .lst []) n2
    have q2 := ln (u := .lst []) n2 q1
    have i1 := Is.up i1 s2
    have i2 : Is F2 (.ref x2) ([] : List GE) := ⟨x2, [], rfl, h2, All2.nil⟩
    refine ⟨one_le, fun x3 n3 => ?_⟩
    obtain ⟨F3, g3, h3, s3, c3⟩ := g2.newE (o := .lst [.ref x2]) n3
    have q3 := ln (u := .lst [.ref x2]) n3 q2
    have i1 := Is.up i1 s3
    have i2 := Is.up i2 s3
    have i3 : Is F3 (.ref x3) ([[]] : GM) := ⟨x3, _, rfl, h3, All2.one i2⟩
    refine ⟨nil_le, fun x4 n4 => ?_⟩
    obtain ⟨F4, g4, h4, s4, c4⟩ := g3.newE (o := .tup []) n4
    have q4 := ln (u := .tup []) n4 q3
    have i1 := Is.up i1 s4
    have i3 := Is.up i3 s4
    have i4 : Is F4 (.ref x4) (⟨[]⟩ : GE) := ⟨x4, _, rfl, h4, all_intsT []⟩
    refine ⟨one_le, fun x5 n5 => ?_⟩
    obtain ⟨F5, g5, h5, s5, c5⟩ := g4.newE (o := .lst [.ref x4]) n5
    have q5 := ln (u := .lst [.ref x4]) n5 q4
    have i1 := Is.up i1 s5
    have i3 := Is.up i3 s5
    have i4 := Is.up i4 s5
    have i5 : Is F5 (.ref x5) ([⟨[]⟩] : List GE) := ⟨x5, _, rfl, h5, All2.one i4⟩
    refine ⟨one_le, fun x6 n6 => ?_⟩
    obtain ⟨F6, g6, h6, s6, c6⟩ := g5.newE (o := .lst [.ref x5]) n6
    have q6 := ln (u := .lst [.ref x5]) n6 q5
    have i1 := Is.up i1 s6
    have i3 := Is.up i3 s6
    have i5 := Is.up i5 s6
    have i6 : Is F6 (.ref x6) ([[⟨[]⟩]] : GM) := ⟨x6, _, rfl, h6, All2.one i5⟩
    refine ⟨nil_le, fun x7 n7 => ?_⟩
    obtain ⟨F7, g7, h7, s7, c7⟩ := g6.newE (o := .tup []) n7
    have q7 := ln (u := .tup []) n7 q6
    have i1 := Is.up i1 s7
    have i3 := Is.up i3 s7
    have i6 := Is.up i6 s7
    have i7 : Is F7 (.ref x7) (⟨[]⟩ : GE) := ⟨x7, _, rfl, h7, all_intsT []⟩
    refine ⟨nil_le, fun x8 n8 => ?_⟩
    obtain ⟨F8, g8, h8, s8, c8⟩ := g7.newE (o := .tup []) n8
    have q8 := ln (u := .tup []) n8 q7
    have i1 := Is.up i1 s8
    have i3 := Is.up i3 s8
    have i6 := Is.up i6 s8
    have i7 := Is.up i7 s8
    have i8 : Is F8 (.ref x8) (⟨[]⟩ : GE) := ⟨x8, _, rfl, h8, all_intsT []⟩
    refine ⟨two_le, fun x9 n9 => ?_⟩
    obtain ⟨F9, g9, h9, s9, c9⟩ := g8.newE (o := .lst [.ref x7, .ref x8]) n9
    have q9 := ln (u := .lst [.ref x7, .ref x8]) n9 q8
    have i1 := Is.up i1 s9
    have i3 := Is.up i3 s9
    have i6 := Is.up i6 s9
    have i7 := Is.up i7 s9
    have i8 := Is.up i8 s9
    have i9 : Is F9 (.ref x9) ([⟨[]⟩, ⟨[]⟩] : List GE) := ⟨x9, _, rfl, h9, All2.cons i7 (All2.one i8)⟩
    refine ⟨one_le, fun x10 n10 => ?_⟩
    obtain ⟨F10, g10, h10, s10, c10⟩ := g9.newE (o := .lst [.ref x9]) n10
    have q10 := ln (u := .lst [.ref x9]) n10 q9
    have i1 := Is.up i1 s10
    have i3 := Is.up i3 s10
    have i6 := Is.up i6 s10
    have i9 := Is.up i9 s10
    refine ⟨x10, 5, _, rfl, rfl, upd_same, by decide, by decide, le_size (by show 1 * 5 ≤ 1000000; decide), fun x11 n11 => ?_⟩
    obtain ⟨F11, g11, h11, s11, c11⟩ := g10.newE (o := .lst [.ref x9, .ref x9, .ref x9, .ref x9, .ref x9]) n11
    have q11 := ln (u := .lst [.ref x9, .ref x9, .ref x9, .ref x9, .ref x9]) n11 q10
    have i1 := Is.up i1 s11
    have i3 := Is.up i3 s11
    have i6 := Is.up i6 s11
    have i9 := Is.up i9 s11
    have i11 : Is F11 (.ref x11) ([[⟨[]⟩, ⟨[]⟩], [⟨[]⟩, ⟨[]⟩], [⟨[]⟩, ⟨[]⟩], [⟨[]⟩, ⟨[]⟩], [⟨[]⟩, ⟨[]⟩]] : GM) := ⟨x11, _, rfl, h11, All2.cons i9 (All2.cons i9 (All2.cons i9 (All2.cons i9 (All2.one i9))))⟩
    refine ⟨nil_le, fun x12 n12 => ?_⟩
    obtain ⟨F12, g12, h12, s12, c12⟩ := g11.newE (o := .tup []) n12
    have q12 := ln (u := .tup []) n12 q11
    have i1 := Is.up i1 s12
    have i3 := Is.up i3 s12
    have i6 := Is.up i6 s12
    have i11 := Is.up i11 s12
    have i12 : Is F12 (.ref x12) (⟨[]⟩ : GE) := ⟨x12, _, rfl, h12, all_intsT []⟩
    refine ⟨nil_le, fun x13 n13 => ?_⟩
    obtain ⟨F13, g13, h13, s13, c13⟩ := g12.newE (o := .tup []) n13
    have q13 := ln (u := .tup []) n13 q12
    have i1 := Is.up i1 s13
    have i3 := Is.up i3 s13
    have i6 := Is.up i6 s13
    have i11 := Is.up i11 s13
    have i12 := Is.up i12 s13
    have i13 : Is F13 (.ref x13) (⟨[]⟩ : GE) := ⟨x13, _, rfl, h13, all_intsT []⟩
    refine ⟨two_le, fun x14 n14 => ?_⟩
    obtain ⟨F14, g14, h14, s14, c14⟩ := g13.newE (o := .lst [.ref x12, .ref x13]) n14
    have q14 := ln (u := .lst [.ref x12, .ref x13]) n14 q13
    have i1 := Is.up i1 s14
    have i3 := Is.up i3 s14
    have i6 := Is.up i6 s14
    have i11 := Is.up i11 s14
    have i12 := Is.up i12 s14
    have i13 := Is.up i13 s14
    have i14 : Is F14 (.ref x14) ([⟨[]⟩, ⟨[]⟩] : List GE) := ⟨x14, _, rfl, h14, All2.cons i12 (All2.one i13)⟩
    refine ⟨nil_le, fun x15 n15 => ?_⟩
    obtain ⟨F15, g15, h15, s15, c15⟩ := g14.newE (o := .tup []) n15
    have q15 := ln (u := .tup []) n15 q14
    have i1 := Is.up i1 s15
    have i3 := Is.up i3 s15
    have i6 := Is.up i6 s15
    have i11 := Is.up i11 s15
    have i14 := Is.up i14 s15
    have i15 : Is F15 (.ref x15) (⟨[]⟩ : GE) := ⟨x15, _, rfl, h15, all_intsT []⟩
    refine ⟨nil_le, fun x16 n16 => ?_⟩
    obtain ⟨F16, g16, h16, s16, c16⟩ := g15.newE (o := .tup []) n16
    have q16 := ln (u := .tup []) n16 q15
    have i1 := Is.up i1 s16
    have i3 := Is.up i3 s16
    have i6 := Is.up i6 s16
    have i11 := Is.up i11 s16
    have i14 := Is.up i14 s16
    have i15 := Is.up i15 s16
    have i16 : Is F16 (.ref x16) (⟨[]⟩ : GE) := ⟨x16, _, rfl, h16, all_intsT []⟩
    refine ⟨nil_le, fun x17 n17 => ?_⟩
    obtain ⟨F17, g17, h17, s17, c17⟩ := g16.newE (o := .tup []) n17
    have q17 := ln (u := .tup []) n17 q16
    have i1 := Is.up i1 s17
    have i3 := Is.up i3 s17
    have i6 := Is.up i6 s17
    have i11 := Is.up i11 s17
    have i14 := Is.up i14 s17
    have i15 := Is.up i15 s17
    have i16 := Is.up i16 s17
    have i17 : Is F17 (.ref x17) (⟨[]⟩ : GE) := ⟨x17, _, rfl, h17, all_intsT []⟩
    refine ⟨three_le, fun x18 n18 => ?_⟩
    obtain ⟨F18, g18, h18, s18, c18⟩ := g17.newE (o := .lst [.ref x15, .ref x16, .ref x17]) n18
    have q18 := ln (u := .lst [.ref x15, .ref x16, .ref x17]) n18 q17
    have i1 := Is.up i1 s18
    have i3 := Is.up i3 s18
    have i6 := Is.up i6 s18
    have i11 := Is.up i11 s18
    have i14 := Is.up i14 s18
    have i15 := Is.up i15 s18
    have i16 := Is.up i16 s18
    have i17 := Is.up i17 s18
    have i18 : Is F18 (.ref x18) ([⟨[]⟩, ⟨[]⟩, ⟨[]⟩] : List GE) := ⟨x18, _, rfl, h18, All2.cons i15 (All2.cons i16 (All2.one i17))⟩
    refine ⟨two_le, fun x19 n19 => ?_⟩
    obtain ⟨F19, g19, h19, s19, c19⟩ := g18.newE (o := .lst [.ref x14, .ref x18]) n19
    have q19 := ln (u := .lst [.ref x14, .ref x18]) n19 q18
    have i1 := Is.up i1 s19
    have i3 := Is.up i3 s19
    have i6 := Is.up i6 s19
    have i11 := Is.up i11 s19
    have i14 := Is.up i14 s19
    have i18 := Is.up i18 s19
    have i19 : Is F19 (.ref x19) ([[⟨[]⟩, ⟨[]⟩], [⟨[]⟩, ⟨[]⟩, ⟨[]⟩]] : GM) := ⟨x19, _, rfl, h19, All2.cons i14 (All2.one i18)⟩
    refine ⟨nil_le, fun x20 n20 => ?_⟩
    obtain ⟨F20, g20, h20, s20, c20⟩ := g19.newE (o := .tup []) n20
    have q20 := ln (u := .tup []) n20 q19
    have i1 := Is.up i1 s20
    have i3 := Is.up i3 s20
    have i6 := Is.up i6 s20
    have i11 := Is.up i11 s20
    have i19 := Is.up i19 s20
    have i20 : Is F20 (.ref x20) (⟨[]⟩ : GE) := ⟨x20, _, rfl, h20, all_intsT []⟩
    refine ⟨one_le, fun x21 n21 => ?_⟩
    obtain ⟨F21, g21, h21, s21, c21⟩ := g20.newE (o := .lst [.ref x20]) n21
    have q21 := ln (u := .lst [.ref x20]) n21 q20
    have i1 := Is.up i1 s21
    have i3 := Is.up i3 s21
    have i6 := Is.up i6 s21
    have i11 := Is.up i11 s21
    have i19 := Is.up i19 s21
    have i20 := Is.up i20 s21
    refine ⟨x21, 5, _, rfl, rfl, upd_same, by decide, by decide, le_size (by show 1 * 5 ≤ 1000000; decide), fun x22 n22 => ?_⟩
    obtain ⟨F22, g22, h22, s22, c22⟩ := g21.newE (o := .lst [.ref x20, .ref x20, .ref x20, .ref x20, .ref x20]) n22
    have q22 := ln (u := .lst [.ref x20, .ref x20, .ref x20, .ref x20, .ref x20]) n22 q21
    have i1 := Is.up i1 s22
    have i3 := Is.up i3 s22
    have i6 := Is.up i6 s22
    have i11 := Is.up i11 s22
    have i19 := Is.up i19 s22
    have i20 := Is.up i20 s22
    have i22 : Is F22 (.ref x22) ([⟨[]⟩, ⟨[]⟩, ⟨[]⟩, ⟨[]⟩, ⟨[]⟩] : List GE) := ⟨x22, _, rfl, h22, All2.cons i20 (All2.cons i20 (All2.cons i20 (All2.cons i20 (All2.one i20))))⟩
    refine ⟨one_le, fun x23 n23 => ?_⟩
    obtain ⟨F23, g23, h23, s23, c23⟩ := g22.newE (o := .lst [.ref x22]) n23
    have q23 := ln (u := .lst [.ref x22]) n23 q22
    have i1 := Is.up i1 s23
    have i3 := Is.up i3 s23
    have i6 := Is.up i6 s23
    have i11 := Is.up i11 s23
    have i19 := Is.up i19 s23
    have i22 := Is.up i22 s23
    have i23 : Is F23 (.ref x23) ([[⟨[]⟩, ⟨[]⟩, ⟨[]⟩, ⟨[]⟩, ⟨[]⟩]] : GM) := ⟨x23, _, rfl, h23, All2.one i22⟩
    refine ⟨nil_le, fun x24 n24 => ?_⟩
    obtain ⟨F24, g24, h24, s24, c24⟩ := g23.newE (o := .tup []) n24
    have q24 := ln (u := .tup []) n24 q23
    have i1 := Is.up i1 s24
    have i3 := Is.up i3 s24
    have i6 := Is.up i6 s24
    have i11 := Is.up i11 s24
    have i19 := Is.up i19 s24
    have i23 := Is.up i23 s24
    have i24 : Is F24 (.ref x24) (⟨[]⟩ : GE) := ⟨x24, _, rfl, h24, all_intsT []⟩
    refine ⟨nil_le, fun x25 n25 => ?_⟩
    obtain ⟨F25, g25, h25, s25, c25⟩ := g24.newE (o := .tup []) n25
    have q25 := ln (u := .tup []) n25 q24
    have i1 := Is.up i1 s25
    have i3 := Is.up i3 s25
    have i6 := Is.up i6 s25
    have i11 := Is.up i11 s25
    have i19 := Is.up i19 s25
    have i23 := Is.up i23 s25
    have i24 := Is.up i24 s25
    have i25 : Is F25 (.ref x25) (⟨[]⟩ : GE) := ⟨x25, _, rfl, h25, all_intsT []⟩
    refine ⟨two_le, fun x26 n26 => ?_⟩
    obtain ⟨F26, g26, h26, s26, c26⟩ := g25.newE (o := .lst [.ref x24, .ref x25]) n26
    have q26 := ln (u := .lst [.ref x24, .ref x25]) n26 q25
    have i1 := Is.up i1 s26
    have i3 := Is.up i3 s26
    have i6 := Is.up i6 s26
    have i11 := Is.up i11 s26
    have i19 := Is.up i19 s26
    have i23 := Is.up i23 s26
    have i24 := Is.up i24 s26
    have i25 := Is.up i25 s26
    have i26 : Is F26 (.ref x26) ([⟨[]⟩, ⟨[]⟩] : List GE) := ⟨x26, _, rfl, h26, All2.cons i24 (All2.one i25)⟩
    refine ⟨nil_le, fun x27 n27 => ?_⟩
    obtain ⟨F27, g27, h27, s27, c27⟩ := g26.newE (o := .lst []) n27
    have q27 := ln (u := .lst []) n27 q26
    have i1 := Is.up i1 s27
    have i3 := Is.up i3 s27
    have i6 := Is.up i6 s27
    have i11 := Is.up i11 s27
    have i19 := Is.up i19 s27
    have i23 := Is.up i23 s27
    have i26 := Is.up i26 s27
    have i27 : Is F27 (.ref x27) ([] : List GE) := ⟨x27, [], rfl, h27, All2.nil⟩
    refine ⟨two_le, fun x28 n28 => ?_⟩
    obtain ⟨F28, g28, h28, s28, c28⟩ := g27.newE (o := .lst [.ref x26, .ref x27]) n28
    have q28 := ln (u := .lst [.ref x26, .ref x27]) n28 q27
    have i1 := Is.up i1 s28
    have i3 := Is.up i3 s28
    have i6 := Is.up i6 s28
    have i11 := Is.up i11 s28
    have i19 := Is.up i19 s28
    have i23 := Is.up i23 s28
    have i26 := Is.up i26 s28
    have i27 := Is.up i27 s28
    have i28 : Is F28 (.ref x28) ([[⟨[]⟩, ⟨[]⟩], []] : GM) := ⟨x28, _, rfl, h28, All2.cons i26 (All2.one i27)⟩
    refine ⟨le_size (by show 7 ≤ 1000000; decide), fun L nL => ?_⟩
    have gL := g28.own (o := .lst [.ref x1, .ref x3, .ref x6, .ref x11, .ref x19, .ref x23, .ref x28]) nL
    have wL : Ow H F28 (upd _ L (.lst [.ref x1, .ref x3, .ref x6, .ref x11, .ref x19, .ref x23, .ref x28])) L (.lst [.ref x1, .ref x3, .ref x6, .ref x11, .ref x19, .ref x23, .ref x28]) := Ow.mk1 g28 nL
    have qL := ln (u := .lst [.ref x1, .ref x3, .ref x6, .ref x11, .ref x19, .ref x23, .ref x28]) nL q28
    have alL : All2 (OddAt F28) [.ref x1, .ref x3, .ref x6, .ref x11, .ref x19, .ref x23, .ref x28] [([] : GM), [[]], [[⟨[]⟩]], [[⟨[]⟩, ⟨[]⟩], [⟨[]⟩, ⟨[]⟩], [⟨[]⟩, ⟨[]⟩], [⟨[]⟩, ⟨[]⟩], [⟨[]⟩, ⟨[]⟩]], [[⟨[]⟩, ⟨[]⟩], [⟨[]⟩, ⟨[]⟩, ⟨[]⟩]], [[⟨[]⟩, ⟨[]⟩, ⟨[]⟩, ⟨[]⟩, ⟨[]⟩]], [[⟨[]⟩, ⟨[]⟩], []]] := All2.cons ⟨i1, by decide +kernel⟩ (All2.cons ⟨i3, by decide +kernel⟩ (All2.cons ⟨i6, by decide +kernel⟩ (All2.cons ⟨i11, by decide +kernel⟩ (All2.cons ⟨i19, by decide +kernel⟩ (All2.cons ⟨i23, by decide +kernel⟩ (All2.one ⟨i28, by decide +kernel⟩))))))
    have hp0 := qL
    have gZ := gL
    refine ⟨one_le, fun x29 n29 => ?_⟩
    obtain ⟨F29, g29, h29, s29, c29⟩ := gL.newE (o := .tup [.int 0]) n29
    have q29 := ln (u := .tup [.int 0]) n29 qL
    have wL := wL.call c29 (fun z => z)
    have i29 : Is F29 (.ref x29) (⟨[0]⟩ : GE) := ⟨x29, _, rfl, h29, all_intsT [0]⟩
    refine ⟨two_le, fun x30 n30 => ?_⟩
    obtain ⟨F30, g30, h30, s30, c30⟩ := g29.newE (o := .tup [.int 0, .int 1]) n30
    have q30 := ln (u := .tup [.int 0, .int 1]) n30 q29
    have i29 := Is.up i29 s30
    have wL := wL.call c30 (fun z => z)
    have i30 : Is F30 (.ref x30) (⟨[0, 1]⟩ : GE) := ⟨x30, _, rfl, h30, all_intsT [0, 1]⟩
    refine ⟨le_size (by show 4 ≤ 1000000; decide), fun x31 n31 => ?_⟩
    obtain ⟨F31, g31, h31, s31, c31⟩ := g30.newE (o := .tup [.int 0, .int 1, .int 0, .int 0]) n31
    have q31 := ln (u := .tup [.int 0, .int 1, .int 0, .int 0]) n31 q30
    have i29 := Is.up i29 s31
    have i30 := Is.up i30 s31
    have wL := wL.call c31 (fun z => z)
    have i31 : Is F31 (.ref x31) (⟨[0, 1, 0, 0]⟩ : GE) := ⟨x31, _, rfl, h31, all_intsT [0, 1, 0, 0]⟩
    refine ⟨_, rfl, three_le, fun x32 n32 => ?_⟩
    obtain ⟨F32, g32, h32, s32, c32⟩ := g31.newE (o := .tup [.int (S : Int), .int 1, .int 0]) n32
    have q32 := ln (u := .tup [.int (S : Int), .int 1, .int 0]) n32 q31
    have i29 := Is.up i29 s32
    have i30 := Is.up i30 s32
    have i31 := Is.up i31 s32
    have wL := wL.call c32 (fun z => z)
    have i32 : Is F32 (.ref x32) (⟨[(S : Int), 1, 0]⟩ : GE) := ⟨x32, _, rfl, h32, all_intsT [(S : Int), 1, 0]⟩
    refine ⟨_, rfl, three_le, fun x33 n33 => ?_⟩
    obtain ⟨F33, g33, h33, s33, c33⟩ := g32.newE (o := .tup [.int (-1), .int 1, .int 0]) n33
    have q33 := ln (u := .tup [.int (-1), .int 1, .int 0]) n33 q32
    have i29 := Is.up i29 s33
    have i30 := Is.up i30 s33
    have i31 := Is.up i31 s33
    have i32 := Is.up i32 s33
    have wL := wL.call c33 (fun z => z)
    have i33 : Is F33 (.ref x33) (⟨[-1, 1, 0]⟩ : GE) := ⟨x33, _, rfl, h33, all_intsT [-1, 1, 0]⟩
    refine ⟨three_le, fun x34 n34 => ?_⟩
    obtain ⟨F34, g34, h34, s34, c34⟩ := g33.newE (o := .tup [.int 0, .int 0, .int 0]) n34
    have q34 := ln (u := .tup [.int 0, .int 0, .int 0]) n34 q33
    have i29 := Is.up i29 s34
    have i30 := Is.up i30 s34
    have i31 := Is.up i31 s34
    have i32 := Is.up i32 s34
    have i33 := Is.up i33 s34
    have wL := wL.call c34 (fun z => z)
    have i34 : Is F34 (.ref x34) (⟨[0, 0, 0]⟩ : GE) := ⟨x34, _, rfl, h34, all_intsT [0, 0, 0]⟩
    refine ⟨three_le, fun x35 n35 => ?_⟩
    obtain ⟨F35, g35, h35, s35, c35⟩ := g34.newE (o := .tup [.int 0, .int 2, .int 0]) n35
    have q35 := ln (u := .tup [.int 0, .int 2, .int 0]) n35 q34
    have i29 := Is.up i29 s35
    have i30 := Is.up i30 s35
    have i31 := Is.up i31 s35
    have i32 := Is.up i32 s35
    have i33 := Is.up i33 s35
    have i34 := Is.up i34 s35
    have wL := wL.call c35 (fun z => z)
    have i35 : Is F35 (.ref x35) (⟨[0, 2, 0]⟩ : GE) := ⟨x35, _, rfl, h35, all_intsT [0, 2, 0]⟩
    refine ⟨le_size (by show 7 ≤ 1000000; decide), fun x36 n36 => ?_⟩
    obtain ⟨F36, g36, h36, s36, c36⟩ := g35.newE (o := .lst [.ref x29, .ref x30, .ref x31, .ref x32, .ref x33, .ref x34, .ref x35]) n36
    have q36 := ln (u := .lst [.ref x29, .ref x30, .ref x31, .ref x32, .ref x33, .ref x34, .ref x35]) n36 q35
    have i29 := Is.up i29 s36
    have i30 := Is.up i30 s36
    have i31 := Is.up i31 s36
    have i32 := Is.up i32 s36
    have i33 := Is.up i33 s36
    have i34 := Is.up i34 s36
    have i35 := Is.up i35 s36
    have wL := wL.call c36 (fun z => z)
    have i36 : Is F36 (.ref x36) ([⟨[0]⟩, ⟨[0, 1]⟩, ⟨[0, 1, 0, 0]⟩, ⟨[(S : Int), 1, 0]⟩, ⟨[-1, 1, 0]⟩, ⟨[0, 0, 0]⟩, ⟨[0, 2, 0]⟩] : List GE) := ⟨x36, _, rfl, h36, All2.cons i29 (All2.cons i30 (All2.cons i31 (All2.cons i32 (All2.cons i33 (All2.cons i34 (All2.one i35))))))⟩
    refine ⟨_, rfl, _, rfl, three_le, fun x37 n37 => ?_⟩
    obtain ⟨F37, g37, h37, s37, c37⟩ := g36.newE (o := .tup [.int 0, .int (-2), .int 0]) n37
    have q37 := ln (u := .tup [.int 0, .int (-2), .int 0]) n37 q36
    have i36 := Is.up i36 s37
    have wL := wL.call c37 (fun z => z)
    have i37 : Is F37 (.ref x37) (⟨[0, -2, 0]⟩ : GE) := ⟨x37, _, rfl, h37, all_intsT [0, -2, 0]⟩
    refine ⟨_, rfl, three_le, fun x38 n38 => ?_⟩
    obtain ⟨F38, g38, h38, s38, c38⟩ := g37.newE (o := .tup [.int 0, .int 1, .int (R : Int)]) n38
    have q38 := ln (u := .tup [.int 0, .int 1, .int (R : Int)]) n38 q37
    have i36 := Is.up i36 s38
    have i37 := Is.up i37 s38
    have wL := wL.call c38 (fun z => z)
    have i38 : Is F38 (.ref x38) (⟨[0, 1, (R : Int)]⟩ : GE) := ⟨x38, _, rfl, h38, all_intsT [0, 1, (R : Int)]⟩
    refine ⟨_, rfl, three_le, fun x39 n39 => ?_⟩
    obtain ⟨F39, g39, h39, s39, c39⟩ := g38.newE (o := .tup [.int 0, .int 1, .int (-1)]) n39
    have q39 := ln (u := .tup [.int 0, .int 1, .int (-1)]) n39 q38
    have i36 := Is.up i36 s39
    have i37 := Is.up i37 s39
    have i38 := Is.up i38 s39
    have wL := wL.call c39 (fun z => z)
    have i39 : Is F39 (.ref x39) (⟨[0, 1, -1]⟩ : GE) := ⟨x39, _, rfl, h39, all_intsT [0, 1, -1]⟩
    refine ⟨three_le, fun x40 n40 => ?_⟩
    obtain ⟨F40, g40, h40, s40, c40⟩ := g39.newE (o := .lst [.ref x37, .ref x38, .ref x39]) n40
    have q40 := ln (u := .lst [.ref x37, .ref x38, .ref x39]) n40 q39
    have i36 := Is.up i36 s40
    have i37 := Is.up i37 s40
    have i38 := Is.up i38 s40
    have i39 := Is.up i39 s40
    have wL := wL.call c40 (fun z => z)
    have i40 : Is F40 (.ref x40) ([⟨[0, -2, 0]⟩, ⟨[0, 1, (R : Int)]⟩, ⟨[0, 1, -1]⟩] : List GE) := ⟨x40, _, rfl, h40, All2.cons i37 (All2.cons i38 (All2.one i39))⟩
    obtain ⟨_, xb1, e1, hb1, al1⟩ := id i36
    cases e1
    obtain ⟨_, xb2, e2, hb2, al2⟩ := id i40
    cases e2
    have lb1 : xb1.length = 7 := al1.1
    have lb2 : xb2.length = 3 := al2.1
    refine ⟨x36, x40, _, _, rfl, rfl, g40.fh _ _ hb1, g40.fh _ _ hb2, le_size (by omega), fun B nB => ?_⟩
    obtain ⟨FC, gC, hB, sC, cC⟩ := g40.newE (o := .lst (xb1 ++ xb2)) nB
    have qC := ln (u := .lst (xb1 ++ xb2)) nB q40
    have wC := wL.call cC (fun z => z)
    have alB : IsAll FC (xb1 ++ xb2) (bads R S) := IsAll.up (al1.app al2) sC
    have alL := alL.imp fun _ _ z => z.up s29
    have alL := alL.imp fun _ _ z => z.up s30
    have alL := alL.imp fun _ _ z => z.up s31
    have alL := alL.imp fun _ _ z => z.up s32
    have alL := alL.imp fun _ _ z => z.up s33
    have alL := alL.imp fun _ _ z => z.up s34
    have alL := alL.imp fun _ _ z => z.up s35
    have alL := alL.imp fun _ _ z => z.up s36
    have alL := alL.imp fun _ _ z => z.up s37
    have alL := alL.imp fun _ _ z => z.up s38
    have alL := alL.imp fun _ _ z => z.up s39
    have alL := alL.imp fun _ _ z => z.up s40
    have alL := alL.imp fun _ _ z => z.up sC
    have lB : (xb1 ++ xb2).length = 10 := by rw [List.length_append]; omega
    generalize xb1 ++ xb2 = xb at hB alB lB gC qC wC
    have hvC := hv.up gC.ff
    have pL : L ≠ p := fun z => by rw [z] at wC; rw [wC.n] at hp; cases hp
    refine ⟨4, rfl, by decide, by decide, for_range (lo := 0) (n := 4) (fun i σ G => ∃ (F1 : Hp) (u z : Int) (vs : List V) (Ms : List GM) (v6 v7 : Option V), σ = [some (.ref p), some (.ref am), some (.int (S : Int)), some (.int (R : Int)), some (.ref L), some (.ref B), v6, v7, none] ∧ Gr (muP p) F H F1 G ∧ Same FC F1 ∧ G p = some (PurseO u z) ∧ 0 ≤ u ∧ 0 ≤ z ∧ Ow H F1 G L (.lst vs) ∧ All2 (OddAt F1) vs Ms ∧ vs.length ≤ 7 + i) ⟨FC, a, b, _, _, none, none, rfl, gC, Same.refl FC, qC, ha, hb, wC, alL, by show 7 ≤ 7; decide⟩ ?_ ?_⟩
    · rintro i σ G hi ⟨F1, u, z, vs, Ms, v6, v7, rfl, g, sC1, hpG, hu, hz, w, al, lv⟩
      have f1 := g.pf fp hp
      have hB1 := sC1 _ _ hB
      have alB1 := IsAll.up alB sC1
      have ham1 := g.ff _ _ ham
      have hrs1 := IsAll.up hrs g.ff
      have t0 : Gr (muP p) F1 G F1 G := Gr.refl g.fh
      refine ⟨_, rfl, am, rfl, ⟨_, SqL.of (g.fh _ _ ham1)⟩, fun D nD => lc_list (K := K) (a := am) (xs := rv) (fun i G2 => ∃ (rs : List Addr) (ess : List (List V)), Gr (muP p) F1 G F1 G2 ∧ G2 p = some (PurseO u z) ∧ MaG G F1 G2 D rs ess (M.take i))
        ⟨[], [], t0.own nD, ln nD hpG, ⟨Ow.mk1 t0 nD, List.nodup_nil, (fun z => nomatch z), rfl, fun i r es h _ => (by cases h), All2.nil⟩⟩ (fun i G2 _ ⟨_, _, g2, _⟩ => SqL.of (g2.fh _ _ ham1)) ?_ ?_⟩
      · rintro j y G2 hj ⟨rs, ess, g2, hp2, x⟩
        obtain ⟨row, hMi, rj, es, rfl, hrj, hes⟩ := hrs1.get' hj
        have jl : j < M.length := (List.getElem?_eq_some_iff.mp hMi).1
        have lrs : rs.length = j := by rw [x.len, x.dat.1, List.length_take]; omega
        refine ⟨rfl, yes ⟨_, rfl, rj, es, rfl, .inl (SqL.of (g2.fh _ _ hrj)), fun l nl => ?_⟩⟩
        have g4 := g2.own (o := .lst es) nl
        have w4 : Ow G F1 (upd G2 l (.lst es)) l (.lst es) := Ow.mk1 g2 nl
        have x4 := x.gr ((Gr.refl (mu := mu0) g2.fh).own (o := .lst es) nl) fun c z => z.elim
        have pD : p ≠ D := fun z => by rw [z] at hpG; rw [x.ow.n] at hpG; cases hpG
        refine ⟨_, x4.ow.h, by rw [List.length_map]; exact lt_size (by omega), ?_⟩
        have e1 : rs.map V.ref ++ [V.ref l] = (rs ++ [l]).map V.ref := by rw [List.map_append]; rfl
        rw [e1]
        refine ⟨rs ++ [l], ess ++ [es], g4.set x4.ow.f (.inl x4.ow.n), by rw [upd_ne pD]; exact ln nl hp2, ?_⟩
        rw [List.take_add_one, hMi]
        exact x4.add w4 (x.offn nl) hes
      rintro G2 ⟨rs, ess, g2, hp2, x⟩
      rw [lrv, List.take_length] at x
      -- which bad one
      refine ⟨_, rfl, _, rfl, _, rfl, B, _, rfl, .inl (SqL.of (g2.fh _ _ hB1)), p, u, z, _, rfl, hp2, hu, hz, by omega, by omega, fun d1 u1 z1 d10 d11 hu1 hz1 => ?_⟩
      obtain ⟨g3, k3⟩ := g2.drw (a := u1) (b := z1) f1 hpG
      have x3 := x.gr k3 (x.off hpG)
      have hp3 : (upd G2 p (PurseO u1 z1)) p = some (PurseO u1 z1) := upd_same
      generalize upd G2 p (PurseO u1 z1) = G3 at g3 x3 hp3
      obtain ⟨k1, rfl⟩ : ∃ z : Nat, d1 = (z : Int) := Int.eq_ofNat_of_zero_le d10
      have hk1 : xb[k1]? = some (xb[k1]'(by omega)) := List.getElem?_eq_getElem _
      generalize xb[k1]'(by omega) = be at hk1
      obtain ⟨bd, hbd, ibe⟩ := alB1.get' hk1
      have hbad := bads_no bd (List.mem_of_getElem? hbd)
      refine ⟨B, _, _, _, rfl, rfl, SqL.of (g3.fh _ _ hB1), atI_nat hk1, ?_⟩
      -- the row
      refine ⟨_, rfl, _, rfl, _, rfl, p, u1, z1, _, rfl, hp3, hu1, hz1, by omega, by omega, fun d2 u2 z2 d20 d21 hu2 hz2 => ?_⟩
      obtain ⟨g4, k4⟩ := g3.drw (a := u2) (b := z2) f1 hpG
      have x4 := x3.gr k4 (x3.off hpG)
      have hp4 : (upd G3 p (PurseO u2 z2)) p = some (PurseO u2 z2) := upd_same
      generalize upd G3 p (PurseO u2 z2) = G4 at g4 x4 hp4
      obtain ⟨k2, rfl⟩ : ∃ z : Nat, d2 = (z : Int) := Int.eq_ofNat_of_zero_le d20
      obtain ⟨r0, es0, row1, hr0, he0, hw0, w0, al0, m0⟩ := x4.slot (i := k2) (by omega)
      have hrow1 := hM.row row1 (List.mem_of_getElem? hw0)
      have l0 := al0.1
      refine ⟨D, _, _, _, rfl, rfl, SqL.of x4.ow.h, atI_nat m0, ?_⟩
      -- the entry
      refine ⟨_, rfl, _, rfl, p, u2, z2, _, rfl, hp4, hu2, hz2, by omega, by omega, fun d3 u3 z3 d30 d31 hu3 hz3 => ?_⟩
      obtain ⟨g5, k5⟩ := g4.drw (a := u3) (b := z3) f1 hpG
      have x5 := x4.gr k5 (x4.off hpG)
      have hp5 : (upd G4 p (PurseO u3 z3)) p = some (PurseO u3 z3) := upd_same
      generalize upd G4 p (PurseO u3 z3) = G5 at g5 x5 hp5
      obtain ⟨k3, rfl⟩ : ∃ z : Nat, d3 = (z : Int) := Int.eq_ofNat_of_zero_le d30
      have w5 := x5.rows _ _ _ hr0 he0
      refine ⟨r0, es0, _, k3, rfl, rfl, w5.h, ?_, ?_⟩
      · unfold ixN
        rw [if_pos (by omega), if_pos (by omega), Int.toNat_natCast]
      have g6 := g5.set (o := .lst (es0.set k3 be)) w5.f (.inl w5.n)
      have x6 := x5.put (j := k3) hr0 he0 hw0 ibe
      have pr : p ≠ r0 := fun z => by rw [z] at hpG; rw [w5.n] at hpG; cases hpG
      have hp6 := (upd_ne (o := .lst (es0.set k3 be)) pr).trans hp5
      generalize upd G5 r0 (.lst (es0.set k3 be)) = G6 at g6 x6 hp6
      have hno := bad_isM (j := k3) hM hw0 (by omega) hbad
      obtain ⟨F7, g7, s7, hm7, _, _⟩ := x6.frz g6
      have wl := w.call g7 pL
      have gg := g.trans g7
      refine ⟨_, rfl, .inl ⟨rfl, _, SqL.of wl.h⟩, _, rfl, L, _, _, rfl, rfl, wl.h, lt_size (by omega), ?_⟩
      refine ⟨F7, u3, z3, vs ++ [.ref D], Ms ++ [_], _, _, rfl, gg.set wl.f (.inl wl.n), fun c o e => g7.ff _ _ (sC1 _ _ e), by rw [upd_ne pL.symm]; exact hp6, hu3, hz3, wl.set, (al.imp fun _ _ z => z.up g7.ff).app (All2.one ⟨hm7, hno⟩), by rw [List.length_append]; show vs.length + 1 ≤ _; omega⟩
    · rintro σ G ⟨F1, u, z, vs, Ms, v6, v7, rfl, g, sC1, hpG, hu, hz, w, al, lv⟩
      exact ⟨_, rfl, q F1 G L vs Ms u z g hpG hu hz w al⟩
/-! ### what is caught; the law -/
theorem all_boolsF {F : Hp} (l : List Bool) : IsAll F (l.map V.bl) l := ⟨by rw [List.length_map], fun i x y h1 h2 => by
  rw [List.getElem?_map, h2] at h1
  exact (Option.some.inj h1).symm⟩
theorem kt_none8 {K : PySem.W.Frag} {mg : Str → Option Value} (t : Tx K mg) : Paired ClsV [.ref t.C_Full, .ref t.C_NoDeed, .ref t.C_NoName, .ref t.C_NoPaper, .ref t.C_NoSize, .ref t.C_NoSuch, .ref t.C_NoText, .ref t.C_Twice] [.ref t.C_Full, .ref t.C_NoDeed, .ref t.C_NoName, .ref t.C_NoPaper, .ref t.C_NoSize, .ref t.C_NoSuch, .ref t.C_NoText, .ref t.C_Twice] :=
  .cons (.own _) (.cons (.own _) (.cons (.own _) (.cons (.own _) (.cons (.own _) (.cons (.own _) (.cons (.own _) (.cons (.own _) .nil)))))))
def sp_L_caught : Sp := fun vs H Q _ => ∃ (F : Hp) (v : V) (z : Nat) (b : Bool), vs = [.int z, v] ∧ Same F H ∧ z ≤ 15 ∧ ((b = false ∧ ∃ (M : Mach) (R S : Nat), Is F v M ∧ MOk M R S) ∨ (b = true ∧ ∃ M : GM, Is F v M ∧ isM M = false)) ∧
  ∀ (F' H' : Hp) (l : Addr), Gr mu0 F H F' H' → F' l = some (.lst [.bl b, .bl (!b)]) → Q (.ref l) H'
theorem ok_L_caught (t : Tx K mg) : FnOk P w K mg base CX0 8 t.a_L_caught t.fd_L_caught ["_law_way", "_law_machine_here"] sp_L_caught := by
  refine t.F_L_caught.ok sc_L_caught (fun vs H Q E h => ?_) (fun cdv A outer s H vs Q E hr h => ?_)
  · obtain ⟨F, v, z, b, rfl, _⟩ := h
    rfl
  · obtain ⟨F, v, z, b, rfl, sF, z15, hb, q⟩ := h
    refine ⟨_, (pss_cons (ps_set (i := 2) sc_L_caught.nd rfl (by first | exact Or.inl rfl | exact Or.inr rfl) pe_non)
      (pss_cons (ps_try_kp (i := 3) rfl rfl sc_L_caught.nd rfl rfl ⟨by rfl, by decide, .inl t.m_MillError⟩ (fun W pn xe tk _ => (pss_one (ps_expr (pe_callS (okx_L_asked t) (hr.mono (by decide)) (by rfl) t.m_L_asked t.F_L_asked.kp t.b_L_asked (fun σ => passAt tk σ) (pa_cons (pv 0) (pa_cons (pv 1) pa_nil)))))) (fun a oe cls d pn hz hf => (pss_one (ps_set (i := 2) sc_L_caught.nd rfl (by first | exact Or.inl rfl | exact Or.inr rfl) (pv 3)))))
      (pss_cons (ps_if (pt_val (pe_callB (id := "isinstance") call_isBT (by rfl) t.n_isinstance (by decide +kernel) (pa_cons (pv 2) (pa_cons (pe_tup (pa_cons (pe_glob (v := .ref t.C_Full) (by rfl) t.m_Full rfl) (pa_cons (pe_glob (v := .ref t.C_NoDeed) (by rfl) t.m_NoDeed rfl) (pa_cons (pe_glob (v := .ref t.C_NoName) (by rfl) t.m_NoName rfl) (pa_cons (pe_glob (v := .ref t.C_NoPaper) (by rfl) t.m_NoPaper rfl) (pa_cons (pe_glob (v := .ref t.C_NoSize) (by rfl) t.m_NoSize rfl) (pa_cons (pe_glob (v := .ref t.C_NoSuch) (by rfl) t.m_NoSuch rfl) (pa_cons (pe_glob (v := .ref t.C_NoText) (by rfl) t.m_NoText rfl) (pa_cons (pe_glob (v := .ref t.C_Twice) (by rfl) t.m_Twice rfl) pa_nil))))))))) pa_nil)))) (pss_one (ps_ret pe_non)) pss_nil)
      (pss_one (ps_ret (pe_lst (pa_cons (pe_callB (id := "isinstance") call_isB (by rfl) t.n_isinstance (by decide +kernel) (pa_cons (pv 2) (pa_cons (pe_glob (v := .ref t.C_NoMachine) (by rfl) t.m_NoMachine rfl) pa_nil))) (pa_cons (pe_cmpR op_isN (pv 2) pe_non (nomark _)) pa_nil)))))))), ?_⟩
    refine ⟨_, rfl, _, rfl, F, v, z, rfl, sF, z15, ?_⟩
    rcases hb with ⟨rfl, M, R, S, hv, hM⟩ | ⟨rfl, M, hv, hM⟩
    · refine .inl ⟨M, R, S, hv, hM, fun F1 H1 u g1 => ?_⟩
      refine ⟨_, rfl, (by show 8 ≤ sizeLine; exact le_size (by decide)), fun tp ntp => rIsBT.i ⟨_, tp, _, _, _, false, rfl, upd_same, kt_none8 t, .base .non, ka_non t, _, rfl, ifF rfl ?_⟩⟩
      have g2 := g1.own (o := .tup [.ref t.C_Full, .ref t.C_NoDeed, .ref t.C_NoName, .ref t.C_NoPaper, .ref t.C_NoSize, .ref t.C_NoSuch, .ref t.C_NoText, .ref t.C_Twice]) ntp
      refine ⟨_, rfl, rIsB.i ⟨_, _, _, _, false, rfl, .own _, .base .non, kit_own t.i_NoMachine t.t_NoMachine t.sn_NoMachine t.se_NoMachine, ?_⟩⟩
      refine ⟨_, rfl, rfl, two_le, fun l nl => ?_⟩
      exact q _ _ l (g2.new nl) upd_same
    · refine .inr ⟨M, hv, hM, fun F1 H1 g1 => ⟨em_NoMachine_MillError t, fun a na => ⟨_, rfl, ?_⟩⟩⟩
      have g2 := g1.own (o := Kp a (.ref t.C_NoMachine) none) na
      have ha : (upd H1 a (Kp a (.ref t.C_NoMachine) none)) a = some (Kp a (.ref t.C_NoMachine) none) := upd_same
      refine ⟨_, rfl, (by show 8 ≤ sizeLine; exact le_size (by decide)), fun tp ntp => rIsBT.k (rIsKT.mk (us := [.ref t.C_Full, .ref t.C_NoDeed, .ref t.C_NoName, .ref t.C_NoPaper, .ref t.C_NoSize, .ref t.C_NoSuch, .ref t.C_NoText, .ref t.C_Twice]) (ln ntp ha) (ec_NoMachine t) upd_same (kt_none8 t) (ka_exc t) ⟨_, rfl, ifF rfl ?_⟩)⟩
      have g3 := g2.own (o := .tup [.ref t.C_Full, .ref t.C_NoDeed, .ref t.C_NoName, .ref t.C_NoPaper, .ref t.C_NoSize, .ref t.C_NoSuch, .ref t.C_NoText, .ref t.C_Twice]) ntp
      have ha3 := ln (u := .tup [.ref t.C_Full, .ref t.C_NoDeed, .ref t.C_NoName, .ref t.C_NoPaper, .ref t.C_NoSize, .ref t.C_NoSuch, .ref t.C_NoText, .ref t.C_Twice]) ntp ha
      refine ⟨_, rfl, rIsB.k (rIsK.mk (cv := .ref t.C_NoMachine) ha3 (ec_NoMachine t) (fun u r => r) (kit_own t.i_NoMachine t.t_NoMachine t.s_NoMachine_NoMachine t.se_NoMachine) ?_)⟩
      refine ⟨_, rfl, rfl, two_le, fun l nl => ?_⟩
      exact q _ _ l (g3.new nl) upd_same
def sp_law (K : PySem.W.Frag) : Sp := fun vs H Q _ => ∃ (a : Addr) (ns : List Int), vs = [.ref a] ∧ SqL K H a (ns.map V.int) ∧ ns.length ≤ 63 ∧ ∀ H', Q (.bl true) H'
theorem ok_law (t : Tx K mg) : FnOk P w K mg base CX0 9 t.a_law t.fd_law ["_law_script"] (sp_law K) := by
  refine t.F_law.ok sc_law (fun vs H Q E h => ?_) (fun cdv A outer s H vs Q E hr h => ?_)
  · obtain ⟨a, ns, rfl, _⟩ := h
    rfl
  · obtain ⟨a, ns, rfl, hS, hn, q⟩ := h
    refine ⟨_, (pss_cons (ps_set (i := 1) sc_law.nd rfl (by first | exact Or.inl rfl | exact Or.inr rfl) (pe_call (ok_L_purse t) (hr.mono (by decide)) (by rfl) t.m_L_purse t.F_L_purse.kp t.b_L_purse .nil pass0 (pa_cons (pv 0) pa_nil)))
      (pss_cons (ps_set (i := 2) sc_law.nd rfl (by first | exact Or.inl rfl | exact Or.inr rfl) (pe_call (ok_L_machine t) (hr.mono (by decide)) (by rfl) t.m_L_machine t.F_L_machine.kp t.b_L_machine .nil pass0 (pa_cons (pv 1) pa_nil)))
      (pss_cons (ps_for PassesOwn.never rfl (pi_range1 (by rfl) t.n_range (pa_cons pe_int pa_nil)) (pg_name (i := 3) sc_law.nd rfl (by first | exact Or.inl rfl | exact Or.inr rfl)) (pss_cons (ps_if (pt_cmpR (op_neD hr.units) (pe_call (ok_L_caught t) (hr.mono (by decide)) (by rfl) t.m_L_caught t.F_L_caught.kp t.b_L_caught .nil pass0 (pa_cons (pv 3) (pa_cons (pv 2) pa_nil))) (pe_lst (pa_cons pe_bl (pa_cons pe_bl pa_nil))) (nomark _)) (pss_one (ps_ret pe_bl)) pss_nil)
      (pss_one (ps_for PassesOwn.never rfl (pi_list (pe_call (ok_L_odd t) (hr.mono (by decide)) (by rfl) t.m_L_odd t.F_L_odd.kp t.b_L_odd .nil pass0 (pa_cons (pv 1) (pa_cons (pv 2) pa_nil)))) (pg_name (i := 4) sc_law.nd rfl (by first | exact Or.inl rfl | exact Or.inr rfl)) (pss_one (ps_if (pt_cmpR (op_neD hr.units) (pe_call (ok_L_caught t) (hr.mono (by decide)) (by rfl) t.m_L_caught t.F_L_caught.kp t.b_L_caught .nil pass0 (pa_cons (pv 3) (pa_cons (pv 4) pa_nil))) (pe_lst (pa_cons pe_bl (pa_cons pe_bl pa_nil))) (nomark _)) (pss_one (ps_ret pe_bl)) pss_nil))))))
      (pss_one (ps_ret pe_bl))))), ?_⟩
    refine ⟨_, rfl, a, ns, rfl, hS, hn, fun a0 b0 p H1 ha0 hb0 s1 np hp1 => ?_⟩
    refine ⟨_, rfl, H, p, a0, b0, rfl, s1, np, hp1, ha0, hb0, fun F2 H2 m rs ess M R S a1 b1 g2 hp2 ha1 hb1 hM x => ?_⟩
    obtain ⟨FZ, g3, _, hm, _, _⟩ := x.frz g2
    have hgm := isM_gm hM
    obtain ⟨R', S', hI⟩ := isM_of hgm
    refine ⟨16, rfl, by decide, by decide, for_range (lo := 0) (n := 16) (fun i σ G => ∃ (F : Hp) (u z : Int) (v3 v4 : Option V), σ = [some (.ref a), some (.ref p), some (.ref m), v3, v4] ∧ Gr (muP p) H H1 F G ∧ Same FZ F ∧ G p = some (PurseO u z) ∧ 0 ≤ u ∧ 0 ≤ z) ⟨FZ, a1, b1, none, none, rfl, g3, Same.refl FZ, hp2, ha1, hb1⟩ ?_ ?_⟩
    · rintro i σ G hi ⟨F, u, z, v3, v4, rfl, g, sZ, hpG, hu, hz⟩
      have hi16 : i < 16 := hi
      refine ⟨_, rfl, _, rfl, F, .ref m, i, false, by rw [Int.zero_add]; rfl, g.fh, by omega, .inl ⟨rfl, M, R, S, Is.up hm sZ, hM⟩, fun F3 G3 l3 g4 hl3 => ⟨two_le, fun l4 n4 => ?_⟩⟩
      have t4 := g.trans g4.of0
      have hp4 := ln (u := .lst [.bl false, .bl true]) n4 (g4.fr _ _ hpG (fun z => z))
      have t5 := t4.own (o := .lst [.bl false, .bl true]) n4
      refine ne_dat (a := [false, true]) (b := [false, true]) ⟨l3, _, rfl, t5.fh _ _ hl3, all_boolsF [false, true]⟩ ⟨l4, _, rfl, upd_same, all_boolsF [false, true]⟩ ⟨_, rfl, ifF (by rw [decide_eq_true rfl]; rfl) ?_⟩
      have s3 : Same FZ F3 := fun c o e => g4.ff _ _ (sZ _ _ e)
      refine ⟨_, rfl, _, rfl, F3, p, u, z, .ref m, gm M, R', S', rfl, t5.fh, t5.pf np hp1, hp4, hu, hz, gm_is (Is.up hm s3), hI, fun F6 G6 l6 vs Ms u6 z6 g6 hp6 hu6 hz6 w6 al6 => ?_⟩
      have t6 := t5.trans g6
      have wz := w6
      obtain ⟨F7, t7, hl7, s7⟩ : ∃ F7, Gr (muP p) H H1 F7 G6 ∧ F7 l6 = some (.lst vs) ∧ Same F6 F7 := ⟨_, t6.frz w6.h (t5.th _ w6.n) w6.f, upd_same, sm_new (Same.refl F6) w6.f⟩
      have al7 := al6.imp fun _ _ z => OddAt.up z s7
      have s37 : Same FZ F7 := fun c o e => s7 _ _ (g6.ff _ _ (s3 _ _ e))
      refine ⟨l6, rfl, ⟨_, SqL.of (t7.fh _ _ hl7)⟩, for_list (K := K) (a := l6) (xs := vs) (fun j σ G => ∃ (F : Hp) (v4 : Option V), σ = [some (.ref a), some (.ref p), some (.ref m), some (.int (0 + (i : Int))), v4] ∧ Gr (muP p) H H1 F G ∧ Same F7 F ∧ G p = some (PurseO u6 z6)) ⟨F7, _, rfl, t7, Same.refl F7, hp6⟩ (fun j σ G _ ⟨F, _, _, g, s, _⟩ => SqL.of (g.fh _ _ (s _ _ hl7))) ?_ ?_⟩
      · rintro j y σ G hj ⟨F8, v4, rfl, g8, s8, hp8⟩
        obtain ⟨N, hN, ho⟩ := al7.get' hj
        refine ⟨_, rfl, _, rfl, F8, y, i, true, by rw [Int.zero_add]; rfl, g8.fh, by omega, .inr ⟨rfl, N, Is.up ho.1 s8, ho.2⟩, fun F9 G9 l9 g9 hl9 => ⟨two_le, fun lA nA => ?_⟩⟩
        have t9 := g8.trans g9.of0
        have hpA := ln (u := .lst [.bl true, .bl false]) nA (g9.fr _ _ hp8 (fun z => z))
        have tA := t9.own (o := .lst [.bl true, .bl false]) nA
        refine ne_dat (a := [true, false]) (b := [true, false]) ⟨l9, _, rfl, tA.fh _ _ hl9, all_boolsF [true, false]⟩ ⟨lA, _, rfl, upd_same, all_boolsF [true, false]⟩ ⟨_, rfl, ifF (by rw [decide_eq_true rfl]; rfl) ?_⟩
        exact ⟨F9, _, rfl, tA, fun c o e => g9.ff _ _ (s8 _ _ e), hpA⟩
      · rintro σ G ⟨F8, v4, rfl, g8, s8, hp8⟩
        exact ⟨F8, u6, z6, _, _, rfl, g8, fun c o e => s8 _ _ (s37 _ _ e), hp8, hu6, hz6⟩
    · rintro σ G ⟨F, u, z, v3, v4, rfl, g, _⟩
      exact q _

end
def all_tx {K : PySem.W.Frag} {h : Heap} {mg : Str → Option Value} {a_L_mixed a_L_purse a_L_draw a_L_machine a_L_odd a_is_entry a_is_machine a_must_machine a_Goer_init a_Goer_entry a_Goer_step a_told_strip a_Goer_setup a_parts_from a_met_entries a_visits a_records a_L_met a_stepped a_gone a_run a_setups a_touched a_plain a_Log_init a_Log_last a_Log_same a_ring a_Log_drifts a_drift a_told_parts a_ends_of a_ahead_of a_gone_back a_parts_at a_first_empty a_ends_behind a_is_back a_no_back a_is_ring a_is_drift a_shows a_show_entry a_show_machine a_L_asked a_L_caught a_law C_NoMachine C_Goer C_Log C_MillError C_Full C_NoDeed C_NoName C_NoPaper C_NoSize C_NoSuch C_NoText C_Twice : Addr} {od_L_mixed an_L_mixed od_L_purse an_L_purse od_L_draw an_L_draw od_L_machine an_L_machine od_L_odd an_L_odd od_is_entry an_is_entry od_is_machine an_is_machine od_must_machine an_must_machine od_Goer_init an_Goer_init od_Goer_entry an_Goer_entry od_Goer_step an_Goer_step od_told_strip an_told_strip od_Goer_setup an_Goer_setup od_parts_from an_parts_from od_met_entries an_met_entries od_visits an_visits od_records an_records od_L_met an_L_met od_stepped an_stepped od_gone an_gone od_run an_run od_setups an_setups od_touched an_touched od_plain an_plain od_Log_init an_Log_init od_Log_last an_Log_last od_Log_same an_Log_same od_ring an_ring od_Log_drifts an_Log_drifts od_drift an_drift od_told_parts an_told_parts od_ends_of an_ends_of od_ahead_of an_ahead_of od_gone_back an_gone_back od_parts_at an_parts_at od_first_empty an_first_empty od_ends_behind an_ends_behind od_is_back an_is_back od_no_back an_no_back od_is_ring an_is_ring od_is_drift an_is_drift od_shows an_shows od_show_entry an_show_entry od_show_machine an_show_machine od_L_asked an_L_asked od_L_caught an_L_caught od_law an_law : Option Addr} {sl_L_mixed sl_L_purse sl_L_draw sl_L_machine sl_L_odd sl_is_entry sl_is_machine sl_must_machine sl_Goer_init sl_Goer_entry sl_Goer_step sl_told_strip sl_Goer_setup sl_parts_from sl_met_entries sl_visits sl_records sl_L_met sl_stepped sl_gone sl_run sl_setups sl_touched sl_plain sl_Log_init sl_Log_last sl_Log_same sl_ring sl_Log_drifts sl_drift sl_told_parts sl_ends_of sl_ahead_of sl_gone_back sl_parts_at sl_first_empty sl_ends_behind sl_is_back sl_no_back sl_is_ring sl_is_drift sl_shows sl_show_entry sl_show_machine sl_L_asked sl_L_caught sl_law : Array (Option Value)} {oc_L_mixed kV_L_mixed dc_L_mixed pm_L_mixed cd_L_mixed ct_L_mixed oc_L_purse kV_L_purse dc_L_purse pm_L_purse cd_L_purse ct_L_purse oc_L_draw kV_L_draw dc_L_draw pm_L_draw cd_L_draw ct_L_draw oc_L_machine kV_L_machine dc_L_machine pm_L_machine cd_L_machine ct_L_machine oc_L_odd kV_L_odd dc_L_odd pm_L_odd cd_L_odd ct_L_odd oc_is_entry kV_is_entry dc_is_entry pm_is_entry cd_is_entry ct_is_entry oc_is_machine kV_is_machine dc_is_machine pm_is_machine cd_is_machine ct_is_machine oc_must_machine kV_must_machine dc_must_machine pm_must_machine cd_must_machine ct_must_machine oc_Goer_init kV_Goer_init dc_Goer_init pm_Goer_init cd_Goer_init ct_Goer_init oc_Goer_entry kV_Goer_entry dc_Goer_entry pm_Goer_entry cd_Goer_entry ct_Goer_entry oc_Goer_step kV_Goer_step dc_Goer_step pm_Goer_step cd_Goer_step ct_Goer_step oc_told_strip kV_told_strip dc_told_strip pm_told_strip cd_told_strip ct_told_strip oc_Goer_setup kV_Goer_setup dc_Goer_setup pm_Goer_setup cd_Goer_setup ct_Goer_setup oc_parts_from kV_parts_from dc_parts_from pm_parts_from cd_parts_from ct_parts_from oc_met_entries kV_met_entries dc_met_entries pm_met_entries cd_met_entries ct_met_entries oc_visits kV_visits dc_visits pm_visits cd_visits ct_visits oc_records kV_records dc_records pm_records cd_records ct_records oc_L_met kV_L_met dc_L_met pm_L_met cd_L_met ct_L_met oc_stepped kV_stepped dc_stepped pm_stepped cd_stepped ct_stepped oc_gone kV_gone dc_gone pm_gone cd_gone ct_gone oc_run kV_run dc_run pm_run cd_run ct_run oc_setups kV_setups dc_setups pm_setups cd_setups ct_setups oc_touched kV_touched dc_touched pm_touched cd_touched ct_touched oc_plain kV_plain dc_plain pm_plain cd_plain ct_plain oc_Log_init kV_Log_init dc_Log_init pm_Log_init cd_Log_init ct_Log_init oc_Log_last kV_Log_last dc_Log_last pm_Log_last cd_Log_last ct_Log_last oc_Log_same kV_Log_same dc_Log_same pm_Log_same cd_Log_same ct_Log_same oc_ring kV_ring dc_ring pm_ring cd_ring ct_ring oc_Log_drifts kV_Log_drifts dc_Log_drifts pm_Log_drifts cd_Log_drifts ct_Log_drifts oc_drift kV_drift dc_drift pm_drift cd_drift ct_drift oc_told_parts kV_told_parts dc_told_parts pm_told_parts cd_told_parts ct_told_parts oc_ends_of kV_ends_of dc_ends_of pm_ends_of cd_ends_of ct_ends_of oc_ahead_of kV_ahead_of dc_ahead_of pm_ahead_of cd_ahead_of ct_ahead_of oc_gone_back kV_gone_back dc_gone_back pm_gone_back cd_gone_back ct_gone_back oc_parts_at kV_parts_at dc_parts_at pm_parts_at cd_parts_at ct_parts_at oc_first_empty kV_first_empty dc_first_empty pm_first_empty cd_first_empty ct_first_empty oc_ends_behind kV_ends_behind dc_ends_behind pm_ends_behind cd_ends_behind ct_ends_behind oc_is_back kV_is_back dc_is_back pm_is_back cd_is_back ct_is_back oc_no_back kV_no_back dc_no_back pm_no_back cd_no_back ct_no_back oc_is_ring kV_is_ring dc_is_ring pm_is_ring cd_is_ring ct_is_ring oc_is_drift kV_is_drift dc_is_drift pm_is_drift cd_is_drift ct_is_drift oc_shows kV_shows dc_shows pm_shows cd_shows ct_shows oc_show_entry kV_show_entry dc_show_entry pm_show_entry cd_show_entry ct_show_entry oc_show_machine kV_show_machine dc_show_machine pm_show_machine cd_show_machine ct_show_machine oc_L_asked kV_L_asked dc_L_asked pm_L_asked cd_L_asked ct_L_asked oc_L_caught kV_L_caught dc_L_caught pm_L_caught cd_L_caught ct_L_caught oc_law kV_law dc_law pm_law cd_law ct_law : Value} {tk_MOST_ROWS tk_MOST_SIGNS tk_MOST_PARTS tk_MOST_DEPTH tk_ROWS : Tok} (X : K.In h) (G : h.Ns mainGlobals mg)
    (n_NoMachine : PySem.W.nsIn K mainGlobals "NoMachine" = some (some (.ref C_NoMachine)))
    (n_Goer : PySem.W.nsIn K mainGlobals "Goer" = some (some (.ref C_Goer)))
    (n_Log : PySem.W.nsIn K mainGlobals "Log" = some (some (.ref C_Log)))
    (n_MillError : PySem.W.nsIn K mainGlobals "MillError" = some (some (.ref C_MillError)))
    (n_Full : PySem.W.nsIn K mainGlobals "Full" = some (some (.ref C_Full)))
    (n_NoDeed : PySem.W.nsIn K mainGlobals "NoDeed" = some (some (.ref C_NoDeed)))
    (n_NoName : PySem.W.nsIn K mainGlobals "NoName" = some (some (.ref C_NoName)))
    (n_NoPaper : PySem.W.nsIn K mainGlobals "NoPaper" = some (some (.ref C_NoPaper)))
    (n_NoSize : PySem.W.nsIn K mainGlobals "NoSize" = some (some (.ref C_NoSize)))
    (n_NoSuch : PySem.W.nsIn K mainGlobals "NoSuch" = some (some (.ref C_NoSuch)))
    (n_NoText : PySem.W.nsIn K mainGlobals "NoText" = some (some (.ref C_NoText)))
    (n_Twice : PySem.W.nsIn K mainGlobals "Twice" = some (some (.ref C_Twice)))
    (n_L_mixed : PySem.W.nsIn K mainGlobals "_law_mixed" = some (some (.ref a_L_mixed)))
    (l_L_mixed : K.lookup a_L_mixed = some ⟨oc_L_mixed, od_L_mixed, .func (PySem.W.fnOf "_law_mixed" "_law_mixed" (defArgs s_L_mixed) (defBody s_L_mixed) (defScope s_L_mixed) .none kV_L_mixed dc_L_mixed pm_L_mixed an_L_mixed cd_L_mixed ct_L_mixed), sl_L_mixed⟩)
    (c_L_mixed : PySem.W.codeIn K cd_L_mixed "_law_mixed" = true)
    (k_L_mixed : PySem.W.keepIn K (.ref a_L_mixed) = true)
    (n_L_purse : PySem.W.nsIn K mainGlobals "_law_purse" = some (some (.ref a_L_purse)))
    (l_L_purse : K.lookup a_L_purse = some ⟨oc_L_purse, od_L_purse, .func (PySem.W.fnOf "_law_purse" "_law_purse" (defArgs s_L_purse) (defBody s_L_purse) (defScope s_L_purse) .none kV_L_purse dc_L_purse pm_L_purse an_L_purse cd_L_purse ct_L_purse), sl_L_purse⟩)
    (c_L_purse : PySem.W.codeIn K cd_L_purse "_law_purse" = true)
    (k_L_purse : PySem.W.keepIn K (.ref a_L_purse) = true)
    (n_L_draw : PySem.W.nsIn K mainGlobals "_law_draw" = some (some (.ref a_L_draw)))
    (l_L_draw : K.lookup a_L_draw = some ⟨oc_L_draw, od_L_draw, .func (PySem.W.fnOf "_law_draw" "_law_draw" (defArgs s_L_draw) (defBody s_L_draw) (defScope s_L_draw) .none kV_L_draw dc_L_draw pm_L_draw an_L_draw cd_L_draw ct_L_draw), sl_L_draw⟩)
    (c_L_draw : PySem.W.codeIn K cd_L_draw "_law_draw" = true)
    (k_L_draw : PySem.W.keepIn K (.ref a_L_draw) = true)
    (n_L_machine : PySem.W.nsIn K mainGlobals "_law_machine" = some (some (.ref a_L_machine)))
    (l_L_machine : K.lookup a_L_machine = some ⟨oc_L_machine, od_L_machine, .func (PySem.W.fnOf "_law_machine" "_law_machine" (defArgs s_L_machine) (defBody s_L_machine) (defScope s_L_machine) .none kV_L_machine dc_L_machine pm_L_machine an_L_machine cd_L_machine ct_L_machine), sl_L_machine⟩)
    (c_L_machine : PySem.W.codeIn K cd_L_machine "_law_machine" = true)
    (k_L_machine : PySem.W.keepIn K (.ref a_L_machine) = true)
    (n_L_odd : PySem.W.nsIn K mainGlobals "_law_odd" = some (some (.ref a_L_odd)))
    (l_L_odd : K.lookup a_L_odd = some ⟨oc_L_odd, od_L_odd, .func (PySem.W.fnOf "_law_odd" "_law_odd" (defArgs s_L_odd) (defBody s_L_odd) (defScope s_L_odd) .none kV_L_odd dc_L_odd pm_L_odd an_L_odd cd_L_odd ct_L_odd), sl_L_odd⟩)
    (c_L_odd : PySem.W.codeIn K cd_L_odd "_law_odd" = true)
    (k_L_odd : PySem.W.keepIn K (.ref a_L_odd) = true)
    (n_is_entry : PySem.W.nsIn K mainGlobals "is_entry" = some (some (.ref a_is_entry)))
    (l_is_entry : K.lookup a_is_entry = some ⟨oc_is_entry, od_is_entry, .func (PySem.W.fnOf "is_entry" "is_entry" (defArgs s_is_entry) (defBody s_is_entry) (defScope s_is_entry) .none kV_is_entry dc_is_entry pm_is_entry an_is_entry cd_is_entry ct_is_entry), sl_is_entry⟩)
    (c_is_entry : PySem.W.codeIn K cd_is_entry "is_entry" = true)
    (k_is_entry : PySem.W.keepIn K (.ref a_is_entry) = true)
    (n_is_machine : PySem.W.nsIn K mainGlobals "is_machine" = some (some (.ref a_is_machine)))
    (l_is_machine : K.lookup a_is_machine = some ⟨oc_is_machine, od_is_machine, .func (PySem.W.fnOf "is_machine" "is_machine" (defArgs s_is_machine) (defBody s_is_machine) (defScope s_is_machine) .none kV_is_machine dc_is_machine pm_is_machine an_is_machine cd_is_machine ct_is_machine), sl_is_machine⟩)
    (c_is_machine : PySem.W.codeIn K cd_is_machine "is_machine" = true)
    (k_is_machine : PySem.W.keepIn K (.ref a_is_machine) = true)
    (n_must_machine : PySem.W.nsIn K mainGlobals "must_machine" = some (some (.ref a_must_machine)))
    (l_must_machine : K.lookup a_must_machine = some ⟨oc_must_machine, od_must_machine, .func (PySem.W.fnOf "must_machine" "must_machine" (defArgs s_must_machine) (defBody s_must_machine) (defScope s_must_machine) .none kV_must_machine dc_must_machine pm_must_machine an_must_machine cd_must_machine ct_must_machine), sl_must_machine⟩)
    (c_must_machine : PySem.W.codeIn K cd_must_machine "must_machine" = true)
    (k_must_machine : PySem.W.keepIn K (.ref a_must_machine) = true)
    (n_Goer_init : PySem.W.findIn K (.ref C_Goer) "__init__" = some (some (.ref a_Goer_init)))
    (i_Goer_init : PySem.W.isFn K (.ref a_Goer_init) = true)
    (l_Goer_init : K.lookup a_Goer_init = some ⟨oc_Goer_init, od_Goer_init, .func (PySem.W.fnOf "__init__" "Goer.__init__" (defArgs s_Goer_init) (defBody s_Goer_init) (defScope s_Goer_init) .none kV_Goer_init dc_Goer_init pm_Goer_init an_Goer_init cd_Goer_init ct_Goer_init), sl_Goer_init⟩)
    (c_Goer_init : PySem.W.codeIn K cd_Goer_init "Goer.__init__" = true)
    (k_Goer_init : PySem.W.keepIn K (.ref a_Goer_init) = true)
    (n_Goer_entry : PySem.W.findIn K (.ref C_Goer) "entry" = some (some (.ref a_Goer_entry)))
    (i_Goer_entry : PySem.W.isFn K (.ref a_Goer_entry) = true)
    (l_Goer_entry : K.lookup a_Goer_entry = some ⟨oc_Goer_entry, od_Goer_entry, .func (PySem.W.fnOf "entry" "Goer.entry" (defArgs s_Goer_entry) (defBody s_Goer_entry) (defScope s_Goer_entry) .none kV_Goer_entry dc_Goer_entry pm_Goer_entry an_Goer_entry cd_Goer_entry ct_Goer_entry), sl_Goer_entry⟩)
    (c_Goer_entry : PySem.W.codeIn K cd_Goer_entry "Goer.entry" = true)
    (k_Goer_entry : PySem.W.keepIn K (.ref a_Goer_entry) = true)
    (n_Goer_step : PySem.W.findIn K (.ref C_Goer) "step" = some (some (.ref a_Goer_step)))
    (i_Goer_step : PySem.W.isFn K (.ref a_Goer_step) = true)
    (l_Goer_step : K.lookup a_Goer_step = some ⟨oc_Goer_step, od_Goer_step, .func (PySem.W.fnOf "step" "Goer.step" (defArgs s_Goer_step) (defBody s_Goer_step) (defScope s_Goer_step) .none kV_Goer_step dc_Goer_step pm_Goer_step an_Goer_step cd_Goer_step ct_Goer_step), sl_Goer_step⟩)
    (c_Goer_step : PySem.W.codeIn K cd_Goer_step "Goer.step" = true)
    (k_Goer_step : PySem.W.keepIn K (.ref a_Goer_step) = true)
    (n_told_strip : PySem.W.nsIn K mainGlobals "told_strip" = some (some (.ref a_told_strip)))
    (l_told_strip : K.lookup a_told_strip = some ⟨oc_told_strip, od_told_strip, .func (PySem.W.fnOf "told_strip" "told_strip" (defArgs s_told_strip) (defBody s_told_strip) (defScope s_told_strip) .none kV_told_strip dc_told_strip pm_told_strip an_told_strip cd_told_strip ct_told_strip), sl_told_strip⟩)
    (c_told_strip : PySem.W.codeIn K cd_told_strip "told_strip" = true)
    (k_told_strip : PySem.W.keepIn K (.ref a_told_strip) = true)
    (n_Goer_setup : PySem.W.findIn K (.ref C_Goer) "setup" = some (some (.ref a_Goer_setup)))
    (i_Goer_setup : PySem.W.isFn K (.ref a_Goer_setup) = true)
    (l_Goer_setup : K.lookup a_Goer_setup = some ⟨oc_Goer_setup, od_Goer_setup, .func (PySem.W.fnOf "setup" "Goer.setup" (defArgs s_Goer_setup) (defBody s_Goer_setup) (defScope s_Goer_setup) .none kV_Goer_setup dc_Goer_setup pm_Goer_setup an_Goer_setup cd_Goer_setup ct_Goer_setup), sl_Goer_setup⟩)
    (c_Goer_setup : PySem.W.codeIn K cd_Goer_setup "Goer.setup" = true)
    (k_Goer_setup : PySem.W.keepIn K (.ref a_Goer_setup) = true)
    (n_parts_from : PySem.W.nsIn K mainGlobals "parts_from" = some (some (.ref a_parts_from)))
    (l_parts_from : K.lookup a_parts_from = some ⟨oc_parts_from, od_parts_from, .func (PySem.W.fnOf "parts_from" "parts_from" (defArgs s_parts_from) (defBody s_parts_from) (defScope s_parts_from) .none kV_parts_from dc_parts_from pm_parts_from an_parts_from cd_parts_from ct_parts_from), sl_parts_from⟩)
    (c_parts_from : PySem.W.codeIn K cd_parts_from "parts_from" = true)
    (k_parts_from : PySem.W.keepIn K (.ref a_parts_from) = true)
    (n_met_entries : PySem.W.nsIn K mainGlobals "met_entries" = some (some (.ref a_met_entries)))
    (l_met_entries : K.lookup a_met_entries = some ⟨oc_met_entries, od_met_entries, .func (PySem.W.fnOf "met_entries" "met_entries" (defArgs s_met_entries) (defBody s_met_entries) (defScope s_met_entries) .none kV_met_entries dc_met_entries pm_met_entries an_met_entries cd_met_entries ct_met_entries), sl_met_entries⟩)
    (c_met_entries : PySem.W.codeIn K cd_met_entries "met_entries" = true)
    (k_met_entries : PySem.W.keepIn K (.ref a_met_entries) = true)
    (n_visits : PySem.W.nsIn K mainGlobals "visits" = some (some (.ref a_visits)))
    (l_visits : K.lookup a_visits = some ⟨oc_visits, od_visits, .func (PySem.W.fnOf "visits" "visits" (defArgs s_visits) (defBody s_visits) (defScope s_visits) .none kV_visits dc_visits pm_visits an_visits cd_visits ct_visits), sl_visits⟩)
    (c_visits : PySem.W.codeIn K cd_visits "visits" = true)
    (k_visits : PySem.W.keepIn K (.ref a_visits) = true)
    (n_records : PySem.W.nsIn K mainGlobals "records" = some (some (.ref a_records)))
    (l_records : K.lookup a_records = some ⟨oc_records, od_records, .func (PySem.W.fnOf "records" "records" (defArgs s_records) (defBody s_records) (defScope s_records) .none kV_records dc_records pm_records an_records cd_records ct_records), sl_records⟩)
    (c_records : PySem.W.codeIn K cd_records "records" = true)
    (k_records : PySem.W.keepIn K (.ref a_records) = true)
    (n_L_met : PySem.W.nsIn K mainGlobals "_law_met" = some (some (.ref a_L_met)))
    (l_L_met : K.lookup a_L_met = some ⟨oc_L_met, od_L_met, .func (PySem.W.fnOf "_law_met" "_law_met" (defArgs s_L_met) (defBody s_L_met) (defScope s_L_met) .none kV_L_met dc_L_met pm_L_met an_L_met cd_L_met ct_L_met), sl_L_met⟩)
    (c_L_met : PySem.W.codeIn K cd_L_met "_law_met" = true)
    (k_L_met : PySem.W.keepIn K (.ref a_L_met) = true)
    (n_stepped : PySem.W.nsIn K mainGlobals "stepped" = some (some (.ref a_stepped)))
    (l_stepped : K.lookup a_stepped = some ⟨oc_stepped, od_stepped, .func (PySem.W.fnOf "stepped" "stepped" (defArgs s_stepped) (defBody s_stepped) (defScope s_stepped) .none kV_stepped dc_stepped pm_stepped an_stepped cd_stepped ct_stepped), sl_stepped⟩)
    (c_stepped : PySem.W.codeIn K cd_stepped "stepped" = true)
    (k_stepped : PySem.W.keepIn K (.ref a_stepped) = true)
    (n_gone : PySem.W.nsIn K mainGlobals "gone" = some (some (.ref a_gone)))
    (l_gone : K.lookup a_gone = some ⟨oc_gone, od_gone, .func (PySem.W.fnOf "gone" "gone" (defArgs s_gone) (defBody s_gone) (defScope s_gone) .none kV_gone dc_gone pm_gone an_gone cd_gone ct_gone), sl_gone⟩)
    (c_gone : PySem.W.codeIn K cd_gone "gone" = true)
    (k_gone : PySem.W.keepIn K (.ref a_gone) = true)
    (n_run : PySem.W.nsIn K mainGlobals "run" = some (some (.ref a_run)))
    (l_run : K.lookup a_run = some ⟨oc_run, od_run, .func (PySem.W.fnOf "run" "run" (defArgs s_run) (defBody s_run) (defScope s_run) .none kV_run dc_run pm_run an_run cd_run ct_run), sl_run⟩)
    (c_run : PySem.W.codeIn K cd_run "run" = true)
    (k_run : PySem.W.keepIn K (.ref a_run) = true)
    (n_setups : PySem.W.nsIn K mainGlobals "setups" = some (some (.ref a_setups)))
    (l_setups : K.lookup a_setups = some ⟨oc_setups, od_setups, .func (PySem.W.fnOf "setups" "setups" (defArgs s_setups) (defBody s_setups) (defScope s_setups) .none kV_setups dc_setups pm_setups an_setups cd_setups ct_setups), sl_setups⟩)
    (c_setups : PySem.W.codeIn K cd_setups "setups" = true)
    (k_setups : PySem.W.keepIn K (.ref a_setups) = true)
    (n_touched : PySem.W.nsIn K mainGlobals "touched" = some (some (.ref a_touched)))
    (l_touched : K.lookup a_touched = some ⟨oc_touched, od_touched, .func (PySem.W.fnOf "touched" "touched" (defArgs s_touched) (defBody s_touched) (defScope s_touched) .none kV_touched dc_touched pm_touched an_touched cd_touched ct_touched), sl_touched⟩)
    (c_touched : PySem.W.codeIn K cd_touched "touched" = true)
    (k_touched : PySem.W.keepIn K (.ref a_touched) = true)
    (n_plain : PySem.W.nsIn K mainGlobals "plain" = some (some (.ref a_plain)))
    (l_plain : K.lookup a_plain = some ⟨oc_plain, od_plain, .func (PySem.W.fnOf "plain" "plain" (defArgs s_plain) (defBody s_plain) (defScope s_plain) .none kV_plain dc_plain pm_plain an_plain cd_plain ct_plain), sl_plain⟩)
    (c_plain : PySem.W.codeIn K cd_plain "plain" = true)
    (k_plain : PySem.W.keepIn K (.ref a_plain) = true)
    (n_Log_init : PySem.W.findIn K (.ref C_Log) "__init__" = some (some (.ref a_Log_init)))
    (i_Log_init : PySem.W.isFn K (.ref a_Log_init) = true)
    (l_Log_init : K.lookup a_Log_init = some ⟨oc_Log_init, od_Log_init, .func (PySem.W.fnOf "__init__" "Log.__init__" (defArgs s_Log_init) (defBody s_Log_init) (defScope s_Log_init) .none kV_Log_init dc_Log_init pm_Log_init an_Log_init cd_Log_init ct_Log_init), sl_Log_init⟩)
    (c_Log_init : PySem.W.codeIn K cd_Log_init "Log.__init__" = true)
    (k_Log_init : PySem.W.keepIn K (.ref a_Log_init) = true)
    (n_Log_last : PySem.W.findIn K (.ref C_Log) "last" = some (some (.ref a_Log_last)))
    (i_Log_last : PySem.W.isFn K (.ref a_Log_last) = true)
    (l_Log_last : K.lookup a_Log_last = some ⟨oc_Log_last, od_Log_last, .func (PySem.W.fnOf "last" "Log.last" (defArgs s_Log_last) (defBody s_Log_last) (defScope s_Log_last) .none kV_Log_last dc_Log_last pm_Log_last an_Log_last cd_Log_last ct_Log_last), sl_Log_last⟩)
    (c_Log_last : PySem.W.codeIn K cd_Log_last "Log.last" = true)
    (k_Log_last : PySem.W.keepIn K (.ref a_Log_last) = true)
    (n_Log_same : PySem.W.findIn K (.ref C_Log) "same" = some (some (.ref a_Log_same)))
    (i_Log_same : PySem.W.isFn K (.ref a_Log_same) = true)
    (l_Log_same : K.lookup a_Log_same = some ⟨oc_Log_same, od_Log_same, .func (PySem.W.fnOf "same" "Log.same" (defArgs s_Log_same) (defBody s_Log_same) (defScope s_Log_same) .none kV_Log_same dc_Log_same pm_Log_same an_Log_same cd_Log_same ct_Log_same), sl_Log_same⟩)
    (c_Log_same : PySem.W.codeIn K cd_Log_same "Log.same" = true)
    (k_Log_same : PySem.W.keepIn K (.ref a_Log_same) = true)
    (n_ring : PySem.W.nsIn K mainGlobals "ring" = some (some (.ref a_ring)))
    (l_ring : K.lookup a_ring = some ⟨oc_ring, od_ring, .func (PySem.W.fnOf "ring" "ring" (defArgs s_ring) (defBody s_ring) (defScope s_ring) .none kV_ring dc_ring pm_ring an_ring cd_ring ct_ring), sl_ring⟩)
    (c_ring : PySem.W.codeIn K cd_ring "ring" = true)
    (k_ring : PySem.W.keepIn K (.ref a_ring) = true)
    (n_Log_drifts : PySem.W.findIn K (.ref C_Log) "drifts" = some (some (.ref a_Log_drifts)))
    (i_Log_drifts : PySem.W.isFn K (.ref a_Log_drifts) = true)
    (l_Log_drifts : K.lookup a_Log_drifts = some ⟨oc_Log_drifts, od_Log_drifts, .func (PySem.W.fnOf "drifts" "Log.drifts" (defArgs s_Log_drifts) (defBody s_Log_drifts) (defScope s_Log_drifts) .none kV_Log_drifts dc_Log_drifts pm_Log_drifts an_Log_drifts cd_Log_drifts ct_Log_drifts), sl_Log_drifts⟩)
    (c_Log_drifts : PySem.W.codeIn K cd_Log_drifts "Log.drifts" = true)
    (k_Log_drifts : PySem.W.keepIn K (.ref a_Log_drifts) = true)
    (n_drift : PySem.W.nsIn K mainGlobals "drift" = some (some (.ref a_drift)))
    (l_drift : K.lookup a_drift = some ⟨oc_drift, od_drift, .func (PySem.W.fnOf "drift" "drift" (defArgs s_drift) (defBody s_drift) (defScope s_drift) .none kV_drift dc_drift pm_drift an_drift cd_drift ct_drift), sl_drift⟩)
    (c_drift : PySem.W.codeIn K cd_drift "drift" = true)
    (k_drift : PySem.W.keepIn K (.ref a_drift) = true)
    (n_told_parts : PySem.W.nsIn K mainGlobals "told_parts" = some (some (.ref a_told_parts)))
    (l_told_parts : K.lookup a_told_parts = some ⟨oc_told_parts, od_told_parts, .func (PySem.W.fnOf "told_parts" "told_parts" (defArgs s_told_parts) (defBody s_told_parts) (defScope s_told_parts) .none kV_told_parts dc_told_parts pm_told_parts an_told_parts cd_told_parts ct_told_parts), sl_told_parts⟩)
    (c_told_parts : PySem.W.codeIn K cd_told_parts "told_parts" = true)
    (k_told_parts : PySem.W.keepIn K (.ref a_told_parts) = true)
    (n_ends_of : PySem.W.nsIn K mainGlobals "ends_of" = some (some (.ref a_ends_of)))
    (l_ends_of : K.lookup a_ends_of = some ⟨oc_ends_of, od_ends_of, .func (PySem.W.fnOf "ends_of" "ends_of" (defArgs s_ends_of) (defBody s_ends_of) (defScope s_ends_of) .none kV_ends_of dc_ends_of pm_ends_of an_ends_of cd_ends_of ct_ends_of), sl_ends_of⟩)
    (c_ends_of : PySem.W.codeIn K cd_ends_of "ends_of" = true)
    (k_ends_of : PySem.W.keepIn K (.ref a_ends_of) = true)
    (n_ahead_of : PySem.W.nsIn K mainGlobals "ahead_of" = some (some (.ref a_ahead_of)))
    (l_ahead_of : K.lookup a_ahead_of = some ⟨oc_ahead_of, od_ahead_of, .func (PySem.W.fnOf "ahead_of" "ahead_of" (defArgs s_ahead_of) (defBody s_ahead_of) (defScope s_ahead_of) .none kV_ahead_of dc_ahead_of pm_ahead_of an_ahead_of cd_ahead_of ct_ahead_of), sl_ahead_of⟩)
    (c_ahead_of : PySem.W.codeIn K cd_ahead_of "ahead_of" = true)
    (k_ahead_of : PySem.W.keepIn K (.ref a_ahead_of) = true)
    (n_gone_back : PySem.W.nsIn K mainGlobals "gone_back" = some (some (.ref a_gone_back)))
    (l_gone_back : K.lookup a_gone_back = some ⟨oc_gone_back, od_gone_back, .func (PySem.W.fnOf "gone_back" "gone_back" (defArgs s_gone_back) (defBody s_gone_back) (defScope s_gone_back) .none kV_gone_back dc_gone_back pm_gone_back an_gone_back cd_gone_back ct_gone_back), sl_gone_back⟩)
    (c_gone_back : PySem.W.codeIn K cd_gone_back "gone_back" = true)
    (k_gone_back : PySem.W.keepIn K (.ref a_gone_back) = true)
    (n_parts_at : PySem.W.nsIn K mainGlobals "parts_at" = some (some (.ref a_parts_at)))
    (l_parts_at : K.lookup a_parts_at = some ⟨oc_parts_at, od_parts_at, .func (PySem.W.fnOf "parts_at" "parts_at" (defArgs s_parts_at) (defBody s_parts_at) (defScope s_parts_at) .none kV_parts_at dc_parts_at pm_parts_at an_parts_at cd_parts_at ct_parts_at), sl_parts_at⟩)
    (c_parts_at : PySem.W.codeIn K cd_parts_at "parts_at" = true)
    (k_parts_at : PySem.W.keepIn K (.ref a_parts_at) = true)
    (n_first_empty : PySem.W.nsIn K mainGlobals "first_empty" = some (some (.ref a_first_empty)))
    (l_first_empty : K.lookup a_first_empty = some ⟨oc_first_empty, od_first_empty, .func (PySem.W.fnOf "first_empty" "first_empty" (defArgs s_first_empty) (defBody s_first_empty) (defScope s_first_empty) .none kV_first_empty dc_first_empty pm_first_empty an_first_empty cd_first_empty ct_first_empty), sl_first_empty⟩)
    (c_first_empty : PySem.W.codeIn K cd_first_empty "first_empty" = true)
    (k_first_empty : PySem.W.keepIn K (.ref a_first_empty) = true)
    (n_ends_behind : PySem.W.nsIn K mainGlobals "ends_behind" = some (some (.ref a_ends_behind)))
    (l_ends_behind : K.lookup a_ends_behind = some ⟨oc_ends_behind, od_ends_behind, .func (PySem.W.fnOf "ends_behind" "ends_behind" (defArgs s_ends_behind) (defBody s_ends_behind) (defScope s_ends_behind) .none kV_ends_behind dc_ends_behind pm_ends_behind an_ends_behind cd_ends_behind ct_ends_behind), sl_ends_behind⟩)
    (c_ends_behind : PySem.W.codeIn K cd_ends_behind "ends_behind" = true)
    (k_ends_behind : PySem.W.keepIn K (.ref a_ends_behind) = true)
    (n_is_back : PySem.W.nsIn K mainGlobals "is_back" = some (some (.ref a_is_back)))
    (l_is_back : K.lookup a_is_back = some ⟨oc_is_back, od_is_back, .func (PySem.W.fnOf "is_back" "is_back" (defArgs s_is_back) (defBody s_is_back) (defScope s_is_back) .none kV_is_back dc_is_back pm_is_back an_is_back cd_is_back ct_is_back), sl_is_back⟩)
    (c_is_back : PySem.W.codeIn K cd_is_back "is_back" = true)
    (k_is_back : PySem.W.keepIn K (.ref a_is_back) = true)
    (n_no_back : PySem.W.nsIn K mainGlobals "no_back" = some (some (.ref a_no_back)))
    (l_no_back : K.lookup a_no_back = some ⟨oc_no_back, od_no_back, .func (PySem.W.fnOf "no_back" "no_back" (defArgs s_no_back) (defBody s_no_back) (defScope s_no_back) .none kV_no_back dc_no_back pm_no_back an_no_back cd_no_back ct_no_back), sl_no_back⟩)
    (c_no_back : PySem.W.codeIn K cd_no_back "no_back" = true)
    (k_no_back : PySem.W.keepIn K (.ref a_no_back) = true)
    (n_is_ring : PySem.W.nsIn K mainGlobals "is_ring" = some (some (.ref a_is_ring)))
    (l_is_ring : K.lookup a_is_ring = some ⟨oc_is_ring, od_is_ring, .func (PySem.W.fnOf "is_ring" "is_ring" (defArgs s_is_ring) (defBody s_is_ring) (defScope s_is_ring) .none kV_is_ring dc_is_ring pm_is_ring an_is_ring cd_is_ring ct_is_ring), sl_is_ring⟩)
    (c_is_ring : PySem.W.codeIn K cd_is_ring "is_ring" = true)
    (k_is_ring : PySem.W.keepIn K (.ref a_is_ring) = true)
    (n_is_drift : PySem.W.nsIn K mainGlobals "is_drift" = some (some (.ref a_is_drift)))
    (l_is_drift : K.lookup a_is_drift = some ⟨oc_is_drift, od_is_drift, .func (PySem.W.fnOf "is_drift" "is_drift" (defArgs s_is_drift) (defBody s_is_drift) (defScope s_is_drift) .none kV_is_drift dc_is_drift pm_is_drift an_is_drift cd_is_drift ct_is_drift), sl_is_drift⟩)
    (c_is_drift : PySem.W.codeIn K cd_is_drift "is_drift" = true)
    (k_is_drift : PySem.W.keepIn K (.ref a_is_drift) = true)
    (n_shows : PySem.W.nsIn K mainGlobals "shows" = some (some (.ref a_shows)))
    (l_shows : K.lookup a_shows = some ⟨oc_shows, od_shows, .func (PySem.W.fnOf "shows" "shows" (defArgs s_shows) (defBody s_shows) (defScope s_shows) .none kV_shows dc_shows pm_shows an_shows cd_shows ct_shows), sl_shows⟩)
    (c_shows : PySem.W.codeIn K cd_shows "shows" = true)
    (k_shows : PySem.W.keepIn K (.ref a_shows) = true)
    (n_show_entry : PySem.W.nsIn K mainGlobals "show_entry" = some (some (.ref a_show_entry)))
    (l_show_entry : K.lookup a_show_entry = some ⟨oc_show_entry, od_show_entry, .func (PySem.W.fnOf "show_entry" "show_entry" (defArgs s_show_entry) (defBody s_show_entry) (defScope s_show_entry) .none kV_show_entry dc_show_entry pm_show_entry an_show_entry cd_show_entry ct_show_entry), sl_show_entry⟩)
    (c_show_entry : PySem.W.codeIn K cd_show_entry "show_entry" = true)
    (k_show_entry : PySem.W.keepIn K (.ref a_show_entry) = true)
    (n_show_machine : PySem.W.nsIn K mainGlobals "show_machine" = some (some (.ref a_show_machine)))
    (l_show_machine : K.lookup a_show_machine = some ⟨oc_show_machine, od_show_machine, .func (PySem.W.fnOf "show_machine" "show_machine" (defArgs s_show_machine) (defBody s_show_machine) (defScope s_show_machine) .none kV_show_machine dc_show_machine pm_show_machine an_show_machine cd_show_machine ct_show_machine), sl_show_machine⟩)
    (c_show_machine : PySem.W.codeIn K cd_show_machine "show_machine" = true)
    (k_show_machine : PySem.W.keepIn K (.ref a_show_machine) = true)
    (n_L_asked : PySem.W.nsIn K mainGlobals "_law_asked" = some (some (.ref a_L_asked)))
    (l_L_asked : K.lookup a_L_asked = some ⟨oc_L_asked, od_L_asked, .func (PySem.W.fnOf "_law_asked" "_law_asked" (defArgs s_L_asked) (defBody s_L_asked) (defScope s_L_asked) .none kV_L_asked dc_L_asked pm_L_asked an_L_asked cd_L_asked ct_L_asked), sl_L_asked⟩)
    (c_L_asked : PySem.W.codeIn K cd_L_asked "_law_asked" = true)
    (k_L_asked : PySem.W.keepIn K (.ref a_L_asked) = true)
    (n_L_caught : PySem.W.nsIn K mainGlobals "_law_caught" = some (some (.ref a_L_caught)))
    (l_L_caught : K.lookup a_L_caught = some ⟨oc_L_caught, od_L_caught, .func (PySem.W.fnOf "_law_caught" "_law_caught" (defArgs s_L_caught) (defBody s_L_caught) (defScope s_L_caught) .none kV_L_caught dc_L_caught pm_L_caught an_L_caught cd_L_caught ct_L_caught), sl_L_caught⟩)
    (c_L_caught : PySem.W.codeIn K cd_L_caught "_law_caught" = true)
    (k_L_caught : PySem.W.keepIn K (.ref a_L_caught) = true)
    (n_law : PySem.W.nsIn K mainGlobals "law" = some (some (.ref a_law)))
    (l_law : K.lookup a_law = some ⟨oc_law, od_law, .func (PySem.W.fnOf "law" "law" (defArgs s_law) (defBody s_law) (defScope s_law) .none kV_law dc_law pm_law an_law cd_law ct_law), sl_law⟩)
    (c_law : PySem.W.codeIn K cd_law "law" = true)
    (k_law : PySem.W.keepIn K (.ref a_law) = true)
    (pg_Goer : PySem.W.plainGet K C_Goer Str.empty = true)
    (hd_Goer : PySem.W.hasDictIn K C_Goer = true)
    (po_Goer : PySem.W.plainOver K C_Goer = true)
    (sa_Goer : PySem.W.findIn K (.ref C_Goer) "__setattr__" = some (some (.builtin "object.__setattr__")))
    (mk_Goer : PySem.W.makesIn K C_Goer = true)
    (kc_Goer : PySem.W.keepIn K (.ref C_Goer) = true)
    (f_Goer_table : PySem.W.findIn K (.ref C_Goer) "table" = some none)
    (f_Goer_row : PySem.W.findIn K (.ref C_Goer) "row" = some none)
    (f_Goer_spot : PySem.W.findIn K (.ref C_Goer) "spot" = some none)
    (f_Goer_signs : PySem.W.findIn K (.ref C_Goer) "signs" = some none)
    (f_Goer_steps : PySem.W.findIn K (.ref C_Goer) "steps" = some none)
    (pg_Log : PySem.W.plainGet K C_Log Str.empty = true)
    (hd_Log : PySem.W.hasDictIn K C_Log = true)
    (po_Log : PySem.W.plainOver K C_Log = true)
    (sa_Log : PySem.W.findIn K (.ref C_Log) "__setattr__" = some (some (.builtin "object.__setattr__")))
    (mk_Log : PySem.W.makesIn K C_Log = true)
    (kc_Log : PySem.W.keepIn K (.ref C_Log) = true)
    (f_Log_rows : PySem.W.findIn K (.ref C_Log) "rows" = some none)
    (f_Log_places : PySem.W.findIn K (.ref C_Log) "places" = some none)
    (f_Log_strips : PySem.W.findIn K (.ref C_Log) "strips" = some none)
    (f_Log_has_ended : PySem.W.findIn K (.ref C_Log) "has_ended" = some none)
    (n_MOST_ROWS : PySem.W.nsIn K mainGlobals "MOST_ROWS" = some (some (.int 4 tk_MOST_ROWS)))
    (n_MOST_SIGNS : PySem.W.nsIn K mainGlobals "MOST_SIGNS" = some (some (.int 4 tk_MOST_SIGNS)))
    (n_MOST_PARTS : PySem.W.nsIn K mainGlobals "MOST_PARTS" = some (some (.int 300 tk_MOST_PARTS)))
    (n_MOST_DEPTH : PySem.W.nsIn K mainGlobals "MOST_DEPTH" = some (some (.int 8 tk_MOST_DEPTH)))
    (n_ROWS : PySem.W.nsIn K mainGlobals "ROWS" = some (some (.str "ABCD" tk_ROWS)))
    (z_range : PySem.W.nsIn K mainGlobals "range" = some none)
    (z_len : PySem.W.nsIn K mainGlobals "len" = some none)
    (z_abs : PySem.W.nsIn K mainGlobals "abs" = some none)
    (z_list : PySem.W.nsIn K mainGlobals "list" = some none)
    (z_all : PySem.W.nsIn K mainGlobals "all" = some none)
    (z_dict : PySem.W.nsIn K mainGlobals "dict" = some none)
    (z_sorted : PySem.W.nsIn K mainGlobals "sorted" = some none)
    (z_max : PySem.W.nsIn K mainGlobals "max" = some none)
    (z_min : PySem.W.nsIn K mainGlobals "min" = some none)
    (z_int : PySem.W.nsIn K mainGlobals "int" = some none)
    (z_tuple : PySem.W.nsIn K mainGlobals "tuple" = some none)
    (z_str : PySem.W.nsIn K mainGlobals "str" = some none)
    (z_isinstance : PySem.W.nsIn K mainGlobals "isinstance" = some none)
    (fa_x_NoMachine : PySem.W.excIn K C_NoMachine [.type "ValueError", .type "Exception", .type "BaseException", .type "object"] "ValueError.__new__" = true)
    (fa_k_NoMachine : PySem.W.keepIn K (.ref C_NoMachine) = true)
    (fa_b_NoMachine : PySem.W.subIn K (.ref C_NoMachine) (.type "BaseException") = some true)
    (fa_t_NoMachine : PySem.W.typeIn K (.ref C_NoMachine) = some (.type "type"))
    (fa_h_NoMachine : PySem.W.hasDictIn K C_NoMachine = true)
    (fa_k_MillError : PySem.W.keepIn K (.ref C_MillError) = true)
    (fa_b_MillError : PySem.W.subIn K (.ref C_MillError) (.type "BaseException") = some true)
    (fa_t_MillError : PySem.W.typeIn K (.ref C_MillError) = some (.type "type"))
    (fa_h_MillError : PySem.W.hasDictIn K C_MillError = true)
    (fa_hg_NoMachine : PySem.W.findIn K (.ref C_NoMachine) "__getattribute__" = some (some (.builtin "BaseException.__getattribute__")))
    (fa_hk_NoMachine : PySem.W.findIn K (.ref C_NoMachine) "__getattr__" = some none)
    (fa_ha_NoMachine : PySem.W.findIn K (.ref C_NoMachine) "__class__" = some (some (.builtin "object.__class__")))
    (fa_hm_NoMachine : PySem.W.mroIn K C_NoMachine (.type "object") = some true)
    (fa_s_NoMachine_MillError : PySem.W.subIn K (.ref C_NoMachine) (.ref C_MillError) = some true)
    (fa_hn_ : PySem.W.specialIn K (.builtin "object.__class__") "__get__" = some (some (.builtin "getset_descriptor.__get__")))
    (fa_ht_ : PySem.W.takesIn K (.builtin "object.__class__") = some true)
    (fa_i_Full : PySem.W.isClsIn K C_Full = true)
    (fa_se_Full : PySem.W.subIn K (.ref C_Full) (.ref C_Full) = some true)
    (fa_t_Full : PySem.W.typeIn K (.ref C_Full) = some (.type "type"))
    (fa_s_NoMachine_Full : PySem.W.subIn K (.ref C_NoMachine) (.ref C_Full) = some false)
    (fa_sn_Full : PySem.W.subIn K (.type "NoneType") (.ref C_Full) = some false)
    (fa_i_NoDeed : PySem.W.isClsIn K C_NoDeed = true)
    (fa_se_NoDeed : PySem.W.subIn K (.ref C_NoDeed) (.ref C_NoDeed) = some true)
    (fa_t_NoDeed : PySem.W.typeIn K (.ref C_NoDeed) = some (.type "type"))
    (fa_s_NoMachine_NoDeed : PySem.W.subIn K (.ref C_NoMachine) (.ref C_NoDeed) = some false)
    (fa_sn_NoDeed : PySem.W.subIn K (.type "NoneType") (.ref C_NoDeed) = some false)
    (fa_i_NoName : PySem.W.isClsIn K C_NoName = true)
    (fa_se_NoName : PySem.W.subIn K (.ref C_NoName) (.ref C_NoName) = some true)
    (fa_t_NoName : PySem.W.typeIn K (.ref C_NoName) = some (.type "type"))
    (fa_s_NoMachine_NoName : PySem.W.subIn K (.ref C_NoMachine) (.ref C_NoName) = some false)
    (fa_sn_NoName : PySem.W.subIn K (.type "NoneType") (.ref C_NoName) = some false)
    (fa_i_NoPaper : PySem.W.isClsIn K C_NoPaper = true)
    (fa_se_NoPaper : PySem.W.subIn K (.ref C_NoPaper) (.ref C_NoPaper) = some true)
    (fa_t_NoPaper : PySem.W.typeIn K (.ref C_NoPaper) = some (.type "type"))
    (fa_s_NoMachine_NoPaper : PySem.W.subIn K (.ref C_NoMachine) (.ref C_NoPaper) = some false)
    (fa_sn_NoPaper : PySem.W.subIn K (.type "NoneType") (.ref C_NoPaper) = some false)
    (fa_i_NoSize : PySem.W.isClsIn K C_NoSize = true)
    (fa_se_NoSize : PySem.W.subIn K (.ref C_NoSize) (.ref C_NoSize) = some true)
    (fa_t_NoSize : PySem.W.typeIn K (.ref C_NoSize) = some (.type "type"))
    (fa_s_NoMachine_NoSize : PySem.W.subIn K (.ref C_NoMachine) (.ref C_NoSize) = some false)
    (fa_sn_NoSize : PySem.W.subIn K (.type "NoneType") (.ref C_NoSize) = some false)
    (fa_i_NoSuch : PySem.W.isClsIn K C_NoSuch = true)
    (fa_se_NoSuch : PySem.W.subIn K (.ref C_NoSuch) (.ref C_NoSuch) = some true)
    (fa_t_NoSuch : PySem.W.typeIn K (.ref C_NoSuch) = some (.type "type"))
    (fa_s_NoMachine_NoSuch : PySem.W.subIn K (.ref C_NoMachine) (.ref C_NoSuch) = some false)
    (fa_sn_NoSuch : PySem.W.subIn K (.type "NoneType") (.ref C_NoSuch) = some false)
    (fa_i_NoText : PySem.W.isClsIn K C_NoText = true)
    (fa_se_NoText : PySem.W.subIn K (.ref C_NoText) (.ref C_NoText) = some true)
    (fa_t_NoText : PySem.W.typeIn K (.ref C_NoText) = some (.type "type"))
    (fa_s_NoMachine_NoText : PySem.W.subIn K (.ref C_NoMachine) (.ref C_NoText) = some false)
    (fa_sn_NoText : PySem.W.subIn K (.type "NoneType") (.ref C_NoText) = some false)
    (fa_i_Twice : PySem.W.isClsIn K C_Twice = true)
    (fa_se_Twice : PySem.W.subIn K (.ref C_Twice) (.ref C_Twice) = some true)
    (fa_t_Twice : PySem.W.typeIn K (.ref C_Twice) = some (.type "type"))
    (fa_s_NoMachine_Twice : PySem.W.subIn K (.ref C_NoMachine) (.ref C_Twice) = some false)
    (fa_sn_Twice : PySem.W.subIn K (.type "NoneType") (.ref C_Twice) = some false)
    (fa_i_NoMachine : PySem.W.isClsIn K C_NoMachine = true)
    (fa_se_NoMachine : PySem.W.subIn K (.ref C_NoMachine) (.ref C_NoMachine) = some true)
    (fa_s_NoMachine_NoMachine : PySem.W.subIn K (.ref C_NoMachine) (.ref C_NoMachine) = some true)
    (fa_sn_NoMachine : PySem.W.subIn K (.type "NoneType") (.ref C_NoMachine) = some false)
    (fa_s_NoMachine_ValueError : PySem.W.subIn K (.ref C_NoMachine) (.type "ValueError") = some true) : Tx K mg where
  a_L_mixed := a_L_mixed
  fd_L_mixed := PySem.W.fnOf "_law_mixed" "_law_mixed" (defArgs s_L_mixed) (defBody s_L_mixed) (defScope s_L_mixed) .none kV_L_mixed dc_L_mixed pm_L_mixed an_L_mixed cd_L_mixed ct_L_mixed
  F_L_mixed := fun_mk l_L_mixed c_L_mixed k_L_mixed
  b_L_mixed := (fun_mk (st := s_L_mixed) l_L_mixed c_L_mixed k_L_mixed).binds (ps := ["_law_cell", "_law_k"]) fun _ _ _ _ _ _ us hl => match us, hl with | [_, _], _ => rfl
  m_L_mixed := PySem.W.mg_of X G n_L_mixed
  a_L_purse := a_L_purse
  fd_L_purse := PySem.W.fnOf "_law_purse" "_law_purse" (defArgs s_L_purse) (defBody s_L_purse) (defScope s_L_purse) .none kV_L_purse dc_L_purse pm_L_purse an_L_purse cd_L_purse ct_L_purse
  F_L_purse := fun_mk l_L_purse c_L_purse k_L_purse
  b_L_purse := (fun_mk (st := s_L_purse) l_L_purse c_L_purse k_L_purse).binds (ps := ["_law_script"]) fun _ _ _ _ _ _ us hl => match us, hl with | [_], _ => rfl
  m_L_purse := PySem.W.mg_of X G n_L_purse
  a_L_draw := a_L_draw
  fd_L_draw := PySem.W.fnOf "_law_draw" "_law_draw" (defArgs s_L_draw) (defBody s_L_draw) (defScope s_L_draw) .none kV_L_draw dc_L_draw pm_L_draw an_L_draw cd_L_draw ct_L_draw
  F_L_draw := fun_mk l_L_draw c_L_draw k_L_draw
  b_L_draw := (fun_mk (st := s_L_draw) l_L_draw c_L_draw k_L_draw).binds (ps := ["_law_purse_here", "_law_out_of"]) fun _ _ _ _ _ _ us hl => match us, hl with | [_, _], _ => rfl
  m_L_draw := PySem.W.mg_of X G n_L_draw
  a_L_machine := a_L_machine
  fd_L_machine := PySem.W.fnOf "_law_machine" "_law_machine" (defArgs s_L_machine) (defBody s_L_machine) (defScope s_L_machine) .none kV_L_machine dc_L_machine pm_L_machine an_L_machine cd_L_machine ct_L_machine
  F_L_machine := fun_mk l_L_machine c_L_machine k_L_machine
  b_L_machine := (fun_mk (st := s_L_machine) l_L_machine c_L_machine k_L_machine).binds (ps := ["_law_purse_here"]) fun _ _ _ _ _ _ us hl => match us, hl with | [_], _ => rfl
  m_L_machine := PySem.W.mg_of X G n_L_machine
  a_L_odd := a_L_odd
  fd_L_odd := PySem.W.fnOf "_law_odd" "_law_odd" (defArgs s_L_odd) (defBody s_L_odd) (defScope s_L_odd) .none kV_L_odd dc_L_odd pm_L_odd an_L_odd cd_L_odd ct_L_odd
  F_L_odd := fun_mk l_L_odd c_L_odd k_L_odd
  b_L_odd := (fun_mk (st := s_L_odd) l_L_odd c_L_odd k_L_odd).binds (ps := ["_law_purse_here", "_law_machine_here"]) fun _ _ _ _ _ _ us hl => match us, hl with | [_, _], _ => rfl
  m_L_odd := PySem.W.mg_of X G n_L_odd
  a_is_entry := a_is_entry
  fd_is_entry := PySem.W.fnOf "is_entry" "is_entry" (defArgs s_is_entry) (defBody s_is_entry) (defScope s_is_entry) .none kV_is_entry dc_is_entry pm_is_entry an_is_entry cd_is_entry ct_is_entry
  F_is_entry := fun_mk l_is_entry c_is_entry k_is_entry
  b_is_entry := (fun_mk (st := s_is_entry) l_is_entry c_is_entry k_is_entry).binds (ps := ["entry", "rows", "signs"]) fun _ _ _ _ _ _ us hl => match us, hl with | [_, _, _], _ => rfl
  m_is_entry := PySem.W.mg_of X G n_is_entry
  a_is_machine := a_is_machine
  fd_is_machine := PySem.W.fnOf "is_machine" "is_machine" (defArgs s_is_machine) (defBody s_is_machine) (defScope s_is_machine) .none kV_is_machine dc_is_machine pm_is_machine an_is_machine cd_is_machine ct_is_machine
  F_is_machine := fun_mk l_is_machine c_is_machine k_is_machine
  b_is_machine := (fun_mk (st := s_is_machine) l_is_machine c_is_machine k_is_machine).binds (ps := ["machine"]) fun _ _ _ _ _ _ us hl => match us, hl with | [_], _ => rfl
  m_is_machine := PySem.W.mg_of X G n_is_machine
  a_must_machine := a_must_machine
  fd_must_machine := PySem.W.fnOf "must_machine" "must_machine" (defArgs s_must_machine) (defBody s_must_machine) (defScope s_must_machine) .none kV_must_machine dc_must_machine pm_must_machine an_must_machine cd_must_machine ct_must_machine
  F_must_machine := fun_mk l_must_machine c_must_machine k_must_machine
  b_must_machine := (fun_mk (st := s_must_machine) l_must_machine c_must_machine k_must_machine).binds (ps := ["machine"]) fun _ _ _ _ _ _ us hl => match us, hl with | [_], _ => rfl
  m_must_machine := PySem.W.mg_of X G n_must_machine
  a_Goer_init := a_Goer_init
  fd_Goer_init := PySem.W.fnOf "__init__" "Goer.__init__" (defArgs s_Goer_init) (defBody s_Goer_init) (defScope s_Goer_init) .none kV_Goer_init dc_Goer_init pm_Goer_init an_Goer_init cd_Goer_init ct_Goer_init
  F_Goer_init := fun_mk l_Goer_init c_Goer_init k_Goer_init
  b_Goer_init := (fun_mk (st := s_Goer_init) l_Goer_init c_Goer_init k_Goer_init).binds (ps := ["self", "machine", "setup"]) fun _ _ _ _ _ _ us hl => match us, hl with | [_, _, _], _ => rfl
  a_Goer_entry := a_Goer_entry
  fd_Goer_entry := PySem.W.fnOf "entry" "Goer.entry" (defArgs s_Goer_entry) (defBody s_Goer_entry) (defScope s_Goer_entry) .none kV_Goer_entry dc_Goer_entry pm_Goer_entry an_Goer_entry cd_Goer_entry ct_Goer_entry
  F_Goer_entry := fun_mk l_Goer_entry c_Goer_entry k_Goer_entry
  b_Goer_entry := (fun_mk (st := s_Goer_entry) l_Goer_entry c_Goer_entry k_Goer_entry).binds (ps := ["self"]) fun _ _ _ _ _ _ us hl => match us, hl with | [_], _ => rfl
  a_Goer_step := a_Goer_step
  fd_Goer_step := PySem.W.fnOf "step" "Goer.step" (defArgs s_Goer_step) (defBody s_Goer_step) (defScope s_Goer_step) .none kV_Goer_step dc_Goer_step pm_Goer_step an_Goer_step cd_Goer_step ct_Goer_step
  F_Goer_step := fun_mk l_Goer_step c_Goer_step k_Goer_step
  b_Goer_step := (fun_mk (st := s_Goer_step) l_Goer_step c_Goer_step k_Goer_step).binds (ps := ["self"]) fun _ _ _ _ _ _ us hl => match us, hl with | [_], _ => rfl
  a_told_strip := a_told_strip
  fd_told_strip := PySem.W.fnOf "told_strip" "told_strip" (defArgs s_told_strip) (defBody s_told_strip) (defScope s_told_strip) .none kV_told_strip dc_told_strip pm_told_strip an_told_strip cd_told_strip ct_told_strip
  F_told_strip := fun_mk l_told_strip c_told_strip k_told_strip
  b_told_strip := (fun_mk (st := s_told_strip) l_told_strip c_told_strip k_told_strip).binds (ps := ["signs"]) fun _ _ _ _ _ _ us hl => match us, hl with | [_], _ => rfl
  m_told_strip := PySem.W.mg_of X G n_told_strip
  a_Goer_setup := a_Goer_setup
  fd_Goer_setup := PySem.W.fnOf "setup" "Goer.setup" (defArgs s_Goer_setup) (defBody s_Goer_setup) (defScope s_Goer_setup) .none kV_Goer_setup dc_Goer_setup pm_Goer_setup an_Goer_setup cd_Goer_setup ct_Goer_setup
  F_Goer_setup := fun_mk l_Goer_setup c_Goer_setup k_Goer_setup
  b_Goer_setup := (fun_mk (st := s_Goer_setup) l_Goer_setup c_Goer_setup k_Goer_setup).binds (ps := ["self"]) fun _ _ _ _ _ _ us hl => match us, hl with | [_], _ => rfl
  a_parts_from := a_parts_from
  fd_parts_from := PySem.W.fnOf "parts_from" "parts_from" (defArgs s_parts_from) (defBody s_parts_from) (defScope s_parts_from) .none kV_parts_from dc_parts_from pm_parts_from an_parts_from cd_parts_from ct_parts_from
  F_parts_from := fun_mk l_parts_from c_parts_from k_parts_from
  b_parts_from := (fun_mk (st := s_parts_from) l_parts_from c_parts_from k_parts_from).binds (ps := ["one", "other", "most"]) fun _ _ _ _ _ _ us hl => match us, hl with | [_, _, _], _ => rfl
  m_parts_from := PySem.W.mg_of X G n_parts_from
  a_met_entries := a_met_entries
  fd_met_entries := PySem.W.fnOf "met_entries" "met_entries" (defArgs s_met_entries) (defBody s_met_entries) (defScope s_met_entries) .none kV_met_entries dc_met_entries pm_met_entries an_met_entries cd_met_entries ct_met_entries
  F_met_entries := fun_mk l_met_entries c_met_entries k_met_entries
  b_met_entries := (fun_mk (st := s_met_entries) l_met_entries c_met_entries k_met_entries).binds (ps := ["machine", "most"]) fun _ _ _ _ _ _ us hl => match us, hl with | [_, _], _ => rfl
  m_met_entries := PySem.W.mg_of X G n_met_entries
  a_visits := a_visits
  fd_visits := PySem.W.fnOf "visits" "visits" (defArgs s_visits) (defBody s_visits) (defScope s_visits) .none kV_visits dc_visits pm_visits an_visits cd_visits ct_visits
  F_visits := fun_mk l_visits c_visits k_visits
  b_visits := (fun_mk (st := s_visits) l_visits c_visits k_visits).binds (ps := ["machine", "most"]) fun _ _ _ _ _ _ us hl => match us, hl with | [_, _], _ => rfl
  m_visits := PySem.W.mg_of X G n_visits
  a_records := a_records
  fd_records := PySem.W.fnOf "records" "records" (defArgs s_records) (defBody s_records) (defScope s_records) .none kV_records dc_records pm_records an_records cd_records ct_records
  F_records := fun_mk l_records c_records k_records
  b_records := (fun_mk (st := s_records) l_records c_records k_records).binds (ps := ["machine", "most"]) fun _ _ _ _ _ _ us hl => match us, hl with | [_, _], _ => rfl
  m_records := PySem.W.mg_of X G n_records
  a_L_met := a_L_met
  fd_L_met := PySem.W.fnOf "_law_met" "_law_met" (defArgs s_L_met) (defBody s_L_met) (defScope s_L_met) .none kV_L_met dc_L_met pm_L_met an_L_met cd_L_met ct_L_met
  F_L_met := fun_mk l_L_met c_L_met k_L_met
  b_L_met := (fun_mk (st := s_L_met) l_L_met c_L_met k_L_met).binds (ps := ["_law_way", "_law_machine_here"]) fun _ _ _ _ _ _ us hl => match us, hl with | [_, _], _ => rfl
  m_L_met := PySem.W.mg_of X G n_L_met
  a_stepped := a_stepped
  fd_stepped := PySem.W.fnOf "stepped" "stepped" (defArgs s_stepped) (defBody s_stepped) (defScope s_stepped) .none kV_stepped dc_stepped pm_stepped an_stepped cd_stepped ct_stepped
  F_stepped := fun_mk l_stepped c_stepped k_stepped
  b_stepped := (fun_mk (st := s_stepped) l_stepped c_stepped k_stepped).binds (ps := ["machine", "setup"]) fun _ _ _ _ _ _ us hl => match us, hl with | [_, _], _ => rfl
  m_stepped := PySem.W.mg_of X G n_stepped
  a_gone := a_gone
  fd_gone := PySem.W.fnOf "gone" "gone" (defArgs s_gone) (defBody s_gone) (defScope s_gone) .none kV_gone dc_gone pm_gone an_gone cd_gone ct_gone
  F_gone := fun_mk l_gone c_gone k_gone
  b_gone := (fun_mk (st := s_gone) l_gone c_gone k_gone).binds (ps := ["machine", "most"]) fun _ _ _ _ _ _ us hl => match us, hl with | [_, _], _ => rfl
  m_gone := PySem.W.mg_of X G n_gone
  a_run := a_run
  fd_run := PySem.W.fnOf "run" "run" (defArgs s_run) (defBody s_run) (defScope s_run) .none kV_run dc_run pm_run an_run cd_run ct_run
  F_run := fun_mk l_run c_run k_run
  b_run := (fun_mk (st := s_run) l_run c_run k_run).binds (ps := ["machine", "most"]) fun _ _ _ _ _ _ us hl => match us, hl with | [_, _], _ => rfl
  m_run := PySem.W.mg_of X G n_run
  a_setups := a_setups
  fd_setups := PySem.W.fnOf "setups" "setups" (defArgs s_setups) (defBody s_setups) (defScope s_setups) .none kV_setups dc_setups pm_setups an_setups cd_setups ct_setups
  F_setups := fun_mk l_setups c_setups k_setups
  b_setups := (fun_mk (st := s_setups) l_setups c_setups k_setups).binds (ps := ["machine", "most"]) fun _ _ _ _ _ _ us hl => match us, hl with | [_, _], _ => rfl
  m_setups := PySem.W.mg_of X G n_setups
  a_touched := a_touched
  fd_touched := PySem.W.fnOf "touched" "touched" (defArgs s_touched) (defBody s_touched) (defScope s_touched) .none kV_touched dc_touched pm_touched an_touched cd_touched ct_touched
  F_touched := fun_mk l_touched c_touched k_touched
  b_touched := (fun_mk (st := s_touched) l_touched c_touched k_touched).binds (ps := ["machine", "most"]) fun _ _ _ _ _ _ us hl => match us, hl with | [_, _], _ => rfl
  m_touched := PySem.W.mg_of X G n_touched
  a_plain := a_plain
  fd_plain := PySem.W.fnOf "plain" "plain" (defArgs s_plain) (defBody s_plain) (defScope s_plain) .none kV_plain dc_plain pm_plain an_plain cd_plain ct_plain
  F_plain := fun_mk l_plain c_plain k_plain
  b_plain := (fun_mk (st := s_plain) l_plain c_plain k_plain).binds (ps := ["signs"]) fun _ _ _ _ _ _ us hl => match us, hl with | [_], _ => rfl
  m_plain := PySem.W.mg_of X G n_plain
  a_Log_init := a_Log_init
  fd_Log_init := PySem.W.fnOf "__init__" "Log.__init__" (defArgs s_Log_init) (defBody s_Log_init) (defScope s_Log_init) .none kV_Log_init dc_Log_init pm_Log_init an_Log_init cd_Log_init ct_Log_init
  F_Log_init := fun_mk l_Log_init c_Log_init k_Log_init
  b_Log_init := (fun_mk (st := s_Log_init) l_Log_init c_Log_init k_Log_init).binds (ps := ["self", "machine", "most"]) fun _ _ _ _ _ _ us hl => match us, hl with | [_, _, _], _ => rfl
  a_Log_last := a_Log_last
  fd_Log_last := PySem.W.fnOf "last" "Log.last" (defArgs s_Log_last) (defBody s_Log_last) (defScope s_Log_last) .none kV_Log_last dc_Log_last pm_Log_last an_Log_last cd_Log_last ct_Log_last
  F_Log_last := fun_mk l_Log_last c_Log_last k_Log_last
  b_Log_last := (fun_mk (st := s_Log_last) l_Log_last c_Log_last k_Log_last).binds (ps := ["self"]) fun _ _ _ _ _ _ us hl => match us, hl with | [_], _ => rfl
  a_Log_same := a_Log_same
  fd_Log_same := PySem.W.fnOf "same" "Log.same" (defArgs s_Log_same) (defBody s_Log_same) (defScope s_Log_same) .none kV_Log_same dc_Log_same pm_Log_same an_Log_same cd_Log_same ct_Log_same
  F_Log_same := fun_mk l_Log_same c_Log_same k_Log_same
  b_Log_same := (fun_mk (st := s_Log_same) l_Log_same c_Log_same k_Log_same).binds (ps := ["self", "one", "other"]) fun _ _ _ _ _ _ us hl => match us, hl with | [_, _, _], _ => rfl
  a_ring := a_ring
  fd_ring := PySem.W.fnOf "ring" "ring" (defArgs s_ring) (defBody s_ring) (defScope s_ring) .none kV_ring dc_ring pm_ring an_ring cd_ring ct_ring
  F_ring := fun_mk l_ring c_ring k_ring
  b_ring := (fun_mk (st := s_ring) l_ring c_ring k_ring).binds (ps := ["machine", "most"]) fun _ _ _ _ _ _ us hl => match us, hl with | [_, _], _ => rfl
  m_ring := PySem.W.mg_of X G n_ring
  a_Log_drifts := a_Log_drifts
  fd_Log_drifts := PySem.W.fnOf "drifts" "Log.drifts" (defArgs s_Log_drifts) (defBody s_Log_drifts) (defScope s_Log_drifts) .none kV_Log_drifts dc_Log_drifts pm_Log_drifts an_Log_drifts cd_Log_drifts ct_Log_drifts
  F_Log_drifts := fun_mk l_Log_drifts c_Log_drifts k_Log_drifts
  b_Log_drifts := (fun_mk (st := s_Log_drifts) l_Log_drifts c_Log_drifts k_Log_drifts).binds (ps := ["self", "one", "other", "low", "high"]) fun _ _ _ _ _ _ us hl => match us, hl with | [_, _, _, _, _], _ => rfl
  a_drift := a_drift
  fd_drift := PySem.W.fnOf "drift" "drift" (defArgs s_drift) (defBody s_drift) (defScope s_drift) .none kV_drift dc_drift pm_drift an_drift cd_drift ct_drift
  F_drift := fun_mk l_drift c_drift k_drift
  b_drift := (fun_mk (st := s_drift) l_drift c_drift k_drift).binds (ps := ["machine", "most"]) fun _ _ _ _ _ _ us hl => match us, hl with | [_, _], _ => rfl
  m_drift := PySem.W.mg_of X G n_drift
  a_told_parts := a_told_parts
  fd_told_parts := PySem.W.fnOf "told_parts" "told_parts" (defArgs s_told_parts) (defBody s_told_parts) (defScope s_told_parts) .none kV_told_parts dc_told_parts pm_told_parts an_told_parts cd_told_parts ct_told_parts
  F_told_parts := fun_mk l_told_parts c_told_parts k_told_parts
  b_told_parts := (fun_mk (st := s_told_parts) l_told_parts c_told_parts k_told_parts).binds (ps := ["parts"]) fun _ _ _ _ _ _ us hl => match us, hl with | [_], _ => rfl
  m_told_parts := PySem.W.mg_of X G n_told_parts
  a_ends_of := a_ends_of
  fd_ends_of := PySem.W.fnOf "ends_of" "ends_of" (defArgs s_ends_of) (defBody s_ends_of) (defScope s_ends_of) .none kV_ends_of dc_ends_of pm_ends_of an_ends_of cd_ends_of ct_ends_of
  F_ends_of := fun_mk l_ends_of c_ends_of k_ends_of
  b_ends_of := (fun_mk (st := s_ends_of) l_ends_of c_ends_of k_ends_of).binds (ps := ["machine"]) fun _ _ _ _ _ _ us hl => match us, hl with | [_], _ => rfl
  m_ends_of := PySem.W.mg_of X G n_ends_of
  a_ahead_of := a_ahead_of
  fd_ahead_of := PySem.W.fnOf "ahead_of" "ahead_of" (defArgs s_ahead_of) (defBody s_ahead_of) (defScope s_ahead_of) .none kV_ahead_of dc_ahead_of pm_ahead_of an_ahead_of cd_ahead_of ct_ahead_of
  F_ahead_of := fun_mk l_ahead_of c_ahead_of k_ahead_of
  b_ahead_of := (fun_mk (st := s_ahead_of) l_ahead_of c_ahead_of k_ahead_of).binds (ps := ["machine", "part"]) fun _ _ _ _ _ _ us hl => match us, hl with | [_, _], _ => rfl
  m_ahead_of := PySem.W.mg_of X G n_ahead_of
  a_gone_back := a_gone_back
  fd_gone_back := PySem.W.fnOf "gone_back" "gone_back" (defArgs s_gone_back) (defBody s_gone_back) (defScope s_gone_back) .none kV_gone_back dc_gone_back pm_gone_back an_gone_back cd_gone_back ct_gone_back
  F_gone_back := fun_mk l_gone_back c_gone_back k_gone_back
  b_gone_back := (fun_mk (st := s_gone_back) l_gone_back c_gone_back k_gone_back).binds (ps := ["machine", "parts"]) fun _ _ _ _ _ _ us hl => match us, hl with | [_, _], _ => rfl
  m_gone_back := PySem.W.mg_of X G n_gone_back
  a_parts_at := a_parts_at
  fd_parts_at := PySem.W.fnOf "parts_at" "parts_at" (defArgs s_parts_at) (defBody s_parts_at) (defScope s_parts_at) .none kV_parts_at dc_parts_at pm_parts_at an_parts_at cd_parts_at ct_parts_at
  F_parts_at := fun_mk l_parts_at c_parts_at k_parts_at
  b_parts_at := (fun_mk (st := s_parts_at) l_parts_at c_parts_at k_parts_at).binds (ps := ["machine", "depth"]) fun _ _ _ _ _ _ us hl => match us, hl with | [_, _], _ => rfl
  m_parts_at := PySem.W.mg_of X G n_parts_at
  a_first_empty := a_first_empty
  fd_first_empty := PySem.W.fnOf "first_empty" "first_empty" (defArgs s_first_empty) (defBody s_first_empty) (defScope s_first_empty) .none kV_first_empty dc_first_empty pm_first_empty an_first_empty cd_first_empty ct_first_empty
  F_first_empty := fun_mk l_first_empty c_first_empty k_first_empty
  b_first_empty := (fun_mk (st := s_first_empty) l_first_empty c_first_empty k_first_empty).binds (ps := ["machine", "most"]) fun _ _ _ _ _ _ us hl => match us, hl with | [_, _], _ => rfl
  m_first_empty := PySem.W.mg_of X G n_first_empty
  a_ends_behind := a_ends_behind
  fd_ends_behind := PySem.W.fnOf "ends_behind" "ends_behind" (defArgs s_ends_behind) (defBody s_ends_behind) (defScope s_ends_behind) .none kV_ends_behind dc_ends_behind pm_ends_behind an_ends_behind cd_ends_behind ct_ends_behind
  F_ends_behind := fun_mk l_ends_behind c_ends_behind k_ends_behind
  b_ends_behind := (fun_mk (st := s_ends_behind) l_ends_behind c_ends_behind k_ends_behind).binds (ps := ["machine", "most"]) fun _ _ _ _ _ _ us hl => match us, hl with | [_, _], _ => rfl
  m_ends_behind := PySem.W.mg_of X G n_ends_behind
  a_is_back := a_is_back
  fd_is_back := PySem.W.fnOf "is_back" "is_back" (defArgs s_is_back) (defBody s_is_back) (defScope s_is_back) .none kV_is_back dc_is_back pm_is_back an_is_back cd_is_back ct_is_back
  F_is_back := fun_mk l_is_back c_is_back k_is_back
  b_is_back := (fun_mk (st := s_is_back) l_is_back c_is_back k_is_back).binds (ps := ["machine", "depth"]) fun _ _ _ _ _ _ us hl => match us, hl with | [_, _], _ => rfl
  m_is_back := PySem.W.mg_of X G n_is_back
  a_no_back := a_no_back
  fd_no_back := PySem.W.fnOf "no_back" "no_back" (defArgs s_no_back) (defBody s_no_back) (defScope s_no_back) .none kV_no_back dc_no_back pm_no_back an_no_back cd_no_back ct_no_back
  F_no_back := fun_mk l_no_back c_no_back k_no_back
  b_no_back := (fun_mk (st := s_no_back) l_no_back c_no_back k_no_back).binds (ps := ["machine", "most"]) fun _ _ _ _ _ _ us hl => match us, hl with | [_, _], _ => rfl
  m_no_back := PySem.W.mg_of X G n_no_back
  a_is_ring := a_is_ring
  fd_is_ring := PySem.W.fnOf "is_ring" "is_ring" (defArgs s_is_ring) (defBody s_is_ring) (defScope s_is_ring) .none kV_is_ring dc_is_ring pm_is_ring an_is_ring cd_is_ring ct_is_ring
  F_is_ring := fun_mk l_is_ring c_is_ring k_is_ring
  b_is_ring := (fun_mk (st := s_is_ring) l_is_ring c_is_ring k_is_ring).binds (ps := ["machine", "first", "last"]) fun _ _ _ _ _ _ us hl => match us, hl with | [_, _, _], _ => rfl
  m_is_ring := PySem.W.mg_of X G n_is_ring
  a_is_drift := a_is_drift
  fd_is_drift := PySem.W.fnOf "is_drift" "is_drift" (defArgs s_is_drift) (defBody s_is_drift) (defScope s_is_drift) .none kV_is_drift dc_is_drift pm_is_drift an_is_drift cd_is_drift ct_is_drift
  F_is_drift := fun_mk l_is_drift c_is_drift k_is_drift
  b_is_drift := (fun_mk (st := s_is_drift) l_is_drift c_is_drift k_is_drift).binds (ps := ["machine", "first", "last"]) fun _ _ _ _ _ _ us hl => match us, hl with | [_, _, _], _ => rfl
  m_is_drift := PySem.W.mg_of X G n_is_drift
  a_shows := a_shows
  fd_shows := PySem.W.fnOf "shows" "shows" (defArgs s_shows) (defBody s_shows) (defScope s_shows) .none kV_shows dc_shows pm_shows an_shows cd_shows ct_shows
  F_shows := fun_mk l_shows c_shows k_shows
  b_shows := (fun_mk (st := s_shows) l_shows c_shows k_shows).binds (ps := ["machine", "paper"]) fun _ _ _ _ _ _ us hl => match us, hl with | [_, _], _ => rfl
  m_shows := PySem.W.mg_of X G n_shows
  a_show_entry := a_show_entry
  fd_show_entry := PySem.W.fnOf "show_entry" "show_entry" (defArgs s_show_entry) (defBody s_show_entry) (defScope s_show_entry) .none kV_show_entry dc_show_entry pm_show_entry an_show_entry cd_show_entry ct_show_entry
  F_show_entry := fun_mk l_show_entry c_show_entry k_show_entry
  b_show_entry := (fun_mk (st := s_show_entry) l_show_entry c_show_entry k_show_entry).binds (ps := ["entry"]) fun _ _ _ _ _ _ us hl => match us, hl with | [_], _ => rfl
  m_show_entry := PySem.W.mg_of X G n_show_entry
  a_show_machine := a_show_machine
  fd_show_machine := PySem.W.fnOf "show_machine" "show_machine" (defArgs s_show_machine) (defBody s_show_machine) (defScope s_show_machine) .none kV_show_machine dc_show_machine pm_show_machine an_show_machine cd_show_machine ct_show_machine
  F_show_machine := fun_mk l_show_machine c_show_machine k_show_machine
  b_show_machine := (fun_mk (st := s_show_machine) l_show_machine c_show_machine k_show_machine).binds (ps := ["machine"]) fun _ _ _ _ _ _ us hl => match us, hl with | [_], _ => rfl
  m_show_machine := PySem.W.mg_of X G n_show_machine
  a_L_asked := a_L_asked
  fd_L_asked := PySem.W.fnOf "_law_asked" "_law_asked" (defArgs s_L_asked) (defBody s_L_asked) (defScope s_L_asked) .none kV_L_asked dc_L_asked pm_L_asked an_L_asked cd_L_asked ct_L_asked
  F_L_asked := fun_mk l_L_asked c_L_asked k_L_asked
  b_L_asked := (fun_mk (st := s_L_asked) l_L_asked c_L_asked k_L_asked).binds (ps := ["_law_way", "_law_machine_here"]) fun _ _ _ _ _ _ us hl => match us, hl with | [_, _], _ => rfl
  m_L_asked := PySem.W.mg_of X G n_L_asked
  a_L_caught := a_L_caught
  fd_L_caught := PySem.W.fnOf "_law_caught" "_law_caught" (defArgs s_L_caught) (defBody s_L_caught) (defScope s_L_caught) .none kV_L_caught dc_L_caught pm_L_caught an_L_caught cd_L_caught ct_L_caught
  F_L_caught := fun_mk l_L_caught c_L_caught k_L_caught
  b_L_caught := (fun_mk (st := s_L_caught) l_L_caught c_L_caught k_L_caught).binds (ps := ["_law_way", "_law_machine_here"]) fun _ _ _ _ _ _ us hl => match us, hl with | [_, _], _ => rfl
  m_L_caught := PySem.W.mg_of X G n_L_caught
  a_law := a_law
  fd_law := PySem.W.fnOf "law" "law" (defArgs s_law) (defBody s_law) (defScope s_law) .none kV_law dc_law pm_law an_law cd_law ct_law
  F_law := fun_mk l_law c_law k_law
  b_law := (fun_mk (st := s_law) l_law c_law k_law).binds (ps := ["_law_script"]) fun _ _ _ _ _ _ us hl => match us, hl with | [_], _ => rfl
  m_law := PySem.W.mg_of X G n_law
  C_NoMachine := C_NoMachine
  m_NoMachine := PySem.W.mg_of X G n_NoMachine
  C_Goer := C_Goer
  m_Goer := PySem.W.mg_of X G n_Goer
  cl_Goer := ⟨pg_Goer, hd_Goer, po_Goer, sa_Goer⟩
  M_Goer := ⟨mk_Goer, n_Goer_init, i_Goer_init, kc_Goer⟩
  M_Goer_entry := ⟨n_Goer_entry, i_Goer_entry, k_Goer_entry⟩
  M_Goer_step := ⟨n_Goer_step, i_Goer_step, k_Goer_step⟩
  M_Goer_setup := ⟨n_Goer_setup, i_Goer_setup, k_Goer_setup⟩
  nA_Goer_table := f_Goer_table
  nA_Goer_row := f_Goer_row
  nA_Goer_spot := f_Goer_spot
  nA_Goer_signs := f_Goer_signs
  nA_Goer_steps := f_Goer_steps
  C_Log := C_Log
  m_Log := PySem.W.mg_of X G n_Log
  cl_Log := ⟨pg_Log, hd_Log, po_Log, sa_Log⟩
  M_Log := ⟨mk_Log, n_Log_init, i_Log_init, kc_Log⟩
  M_Log_last := ⟨n_Log_last, i_Log_last, k_Log_last⟩
  M_Log_same := ⟨n_Log_same, i_Log_same, k_Log_same⟩
  M_Log_drifts := ⟨n_Log_drifts, i_Log_drifts, k_Log_drifts⟩
  nA_Log_rows := f_Log_rows
  nA_Log_places := f_Log_places
  nA_Log_strips := f_Log_strips
  nA_Log_has_ended := f_Log_has_ended
  C_MillError := C_MillError
  m_MillError := PySem.W.mg_of X G n_MillError
  C_Full := C_Full
  m_Full := PySem.W.mg_of X G n_Full
  C_NoDeed := C_NoDeed
  m_NoDeed := PySem.W.mg_of X G n_NoDeed
  C_NoName := C_NoName
  m_NoName := PySem.W.mg_of X G n_NoName
  C_NoPaper := C_NoPaper
  m_NoPaper := PySem.W.mg_of X G n_NoPaper
  C_NoSize := C_NoSize
  m_NoSize := PySem.W.mg_of X G n_NoSize
  C_NoSuch := C_NoSuch
  m_NoSuch := PySem.W.mg_of X G n_NoSuch
  C_NoText := C_NoText
  m_NoText := PySem.W.mg_of X G n_NoText
  C_Twice := C_Twice
  m_Twice := PySem.W.mg_of X G n_Twice
  tk_MOST_ROWS := tk_MOST_ROWS
  m_MOST_ROWS := PySem.W.mg_of X G n_MOST_ROWS
  tk_MOST_SIGNS := tk_MOST_SIGNS
  m_MOST_SIGNS := PySem.W.mg_of X G n_MOST_SIGNS
  tk_MOST_PARTS := tk_MOST_PARTS
  m_MOST_PARTS := PySem.W.mg_of X G n_MOST_PARTS
  tk_MOST_DEPTH := tk_MOST_DEPTH
  m_MOST_DEPTH := PySem.W.mg_of X G n_MOST_DEPTH
  tk_ROWS := tk_ROWS
  m_ROWS := PySem.W.mg_of X G n_ROWS
  n_range := PySem.W.mg_none_of X G z_range
  n_len := PySem.W.mg_none_of X G z_len
  n_abs := PySem.W.mg_none_of X G z_abs
  n_list := PySem.W.mg_none_of X G z_list
  n_all := PySem.W.mg_none_of X G z_all
  n_dict := PySem.W.mg_none_of X G z_dict
  n_sorted := PySem.W.mg_none_of X G z_sorted
  n_max := PySem.W.mg_none_of X G z_max
  n_min := PySem.W.mg_none_of X G z_min
  n_int := PySem.W.mg_none_of X G z_int
  n_tuple := PySem.W.mg_none_of X G z_tuple
  n_str := PySem.W.mg_none_of X G z_str
  n_isinstance := PySem.W.mg_none_of X G z_isinstance
  x_NoMachine := fa_x_NoMachine
  k_NoMachine := fa_k_NoMachine
  b_NoMachine := fa_b_NoMachine
  t_NoMachine := fa_t_NoMachine
  h_NoMachine := fa_h_NoMachine
  k_MillError := fa_k_MillError
  b_MillError := fa_b_MillError
  t_MillError := fa_t_MillError
  h_MillError := fa_h_MillError
  hg_NoMachine := fa_hg_NoMachine
  hk_NoMachine := fa_hk_NoMachine
  ha_NoMachine := fa_ha_NoMachine
  hm_NoMachine := fa_hm_NoMachine
  s_NoMachine_MillError := fa_s_NoMachine_MillError
  hn_ := fa_hn_
  ht_ := fa_ht_
  i_Full := fa_i_Full
  se_Full := fa_se_Full
  t_Full := fa_t_Full
  s_NoMachine_Full := fa_s_NoMachine_Full
  sn_Full := fa_sn_Full
  i_NoDeed := fa_i_NoDeed
  se_NoDeed := fa_se_NoDeed
  t_NoDeed := fa_t_NoDeed
  s_NoMachine_NoDeed := fa_s_NoMachine_NoDeed
  sn_NoDeed := fa_sn_NoDeed
  i_NoName := fa_i_NoName
  se_NoName := fa_se_NoName
  t_NoName := fa_t_NoName
  s_NoMachine_NoName := fa_s_NoMachine_NoName
  sn_NoName := fa_sn_NoName
  i_NoPaper := fa_i_NoPaper
  se_NoPaper := fa_se_NoPaper
  t_NoPaper := fa_t_NoPaper
  s_NoMachine_NoPaper := fa_s_NoMachine_NoPaper
  sn_NoPaper := fa_sn_NoPaper
  i_NoSize := fa_i_NoSize
  se_NoSize := fa_se_NoSize
  t_NoSize := fa_t_NoSize
  s_NoMachine_NoSize := fa_s_NoMachine_NoSize
  sn_NoSize := fa_sn_NoSize
  i_NoSuch := fa_i_NoSuch
  se_NoSuch := fa_se_NoSuch
  t_NoSuch := fa_t_NoSuch
  s_NoMachine_NoSuch := fa_s_NoMachine_NoSuch
  sn_NoSuch := fa_sn_NoSuch
  i_NoText := fa_i_NoText
  se_NoText := fa_se_NoText
  t_NoText := fa_t_NoText
  s_NoMachine_NoText := fa_s_NoMachine_NoText
  sn_NoText := fa_sn_NoText
  i_Twice := fa_i_Twice
  se_Twice := fa_se_Twice
  t_Twice := fa_t_Twice
  s_NoMachine_Twice := fa_s_NoMachine_Twice
  sn_Twice := fa_sn_Twice
  i_NoMachine := fa_i_NoMachine
  se_NoMachine := fa_se_NoMachine
  s_NoMachine_NoMachine := fa_s_NoMachine_NoMachine
  sn_NoMachine := fa_sn_NoMachine
  s_NoMachine_ValueError := fa_s_NoMachine_ValueError
theorem all_mk {l : PySem.W.OpenLaw} {w : World} {K : PySem.W.Frag} {h : Heap} {mg : Str → Option Value} {fa : Addr} (X : K.In h) (G : h.Ns mainGlobals mg) (hfa : mg "law" = some (.ref fa)) (t : Tx K mg)
    (hb : ∃ (kV dc pm : Value) (an : Option Addr) (cd ct : Value), t.fd_law = PySem.W.fnOf "law" "law" (defArgs s_law) (defBody s_law) (defScope s_law) .none kV dc pm an cd ct) :
    ∃ fd : FuncData, (∀ (s : Shared) (v : Value), BindsTo s fd ⟨[v], []⟩ [("_law_script", v)]) ∧ ∀ base : Heap, K.In base → base.Ns mainGlobals mg → FnOk l.prog w K mg base CX0 9 fa fd ["_law_script"] (sp_law K) := by
  have e := hfa.symm.trans t.m_law
  cases e
  refine ⟨t.fd_law, fun s v => ?_, fun base _ _ => ok_law t⟩
  obtain ⟨kV, dc, pm, an, cd, ct, e⟩ := hb
  rw [e]
  exact .of_eq rfl
theorem walk {l : PySem.W.OpenLaw} {q : Program} {loose : List Str} {XP : (Str → Option Value) → Heap → Prop} {YP : World → Heap → Prop} {d : DefRec} {K : Params → PySem.W.Frag} (hn : l.most = some 63) (hdf : d.params.defaults = [])
    (hY : ∀ (w : World) (h : Heap), YP w h → (K w.params).In h)
    (F : ∀ (w : World) (mg : Str → Option Value) (fa : Addr) (h : Heap), (K w.params).In h → h.Ns mainGlobals mg → mg d.name = some (.ref fa) →
      ∃ fd : FuncData, (∀ (s : Shared) (u : Value), BindsTo s fd ⟨[u], []⟩ [("_law_script", u)]) ∧ ∀ base : Heap, (K w.params).In base → base.Ns mainGlobals mg → FnOk l.prog w (K w.params) mg base CX0 9 fa fd ["_law_script"] (sp_law (K w.params))) :
    PySem.W.WalkO q loose XP YP l.row.toRowW d [] (fun f vs => PySem.call f vs) :=
  L2.walk_of (n := 63) (k := 9) (x := "_law_script") (CX := fun _ => CX0) (sp := fun w => sp_law (K w.params)) hn (by decide) hdf ⟨rfl, by decide, by decide⟩ hY F (fun _ _ a ns hl _ hS => ⟨a, ns, rfl, hS, hl, fun _ => rfl⟩) fun _ _ _ _ _ z => z
theorem all_go {l : PySem.W.OpenLaw} {w : World} {K : PySem.W.Frag} {h : Heap} {mg : Str → Option Value} {fa : Addr} {a_L_mixed a_L_purse a_L_draw a_L_machine a_L_odd a_is_entry a_is_machine a_must_machine a_Goer_init a_Goer_entry a_Goer_step a_told_strip a_Goer_setup a_parts_from a_met_entries a_visits a_records a_L_met a_stepped a_gone a_run a_setups a_touched a_plain a_Log_init a_Log_last a_Log_same a_ring a_Log_drifts a_drift a_told_parts a_ends_of a_ahead_of a_gone_back a_parts_at a_first_empty a_ends_behind a_is_back a_no_back a_is_ring a_is_drift a_shows a_show_entry a_show_machine a_L_asked a_L_caught a_law C_NoMachine C_Goer C_Log C_MillError C_Full C_NoDeed C_NoName C_NoPaper C_NoSize C_NoSuch C_NoText C_Twice : Addr} {od_L_mixed an_L_mixed od_L_purse an_L_purse od_L_draw an_L_draw od_L_machine an_L_machine od_L_odd an_L_odd od_is_entry an_is_entry od_is_machine an_is_machine od_must_machine an_must_machine od_Goer_init an_Goer_init od_Goer_entry an_Goer_entry od_Goer_step an_Goer_step od_told_strip an_told_strip od_Goer_setup an_Goer_setup od_parts_from an_parts_from od_met_entries an_met_entries od_visits an_visits od_records an_records od_L_met an_L_met od_stepped an_stepped od_gone an_gone od_run an_run od_setups an_setups od_touched an_touched od_plain an_plain od_Log_init an_Log_init od_Log_last an_Log_last od_Log_same an_Log_same od_ring an_ring od_Log_drifts an_Log_drifts od_drift an_drift od_told_parts an_told_parts od_ends_of an_ends_of od_ahead_of an_ahead_of od_gone_back an_gone_back od_parts_at an_parts_at od_first_empty an_first_empty od_ends_behind an_ends_behind od_is_back an_is_back od_no_back an_no_back od_is_ring an_is_ring od_is_drift an_is_drift od_shows an_shows od_show_entry an_show_entry od_show_machine an_show_machine od_L_asked an_L_asked od_L_caught an_L_caught od_law an_law : Option Addr} {sl_L_mixed sl_L_purse sl_L_draw sl_L_machine sl_L_odd sl_is_entry sl_is_machine sl_must_machine sl_Goer_init sl_Goer_entry sl_Goer_step sl_told_strip sl_Goer_setup sl_parts_from sl_met_entries sl_visits sl_records sl_L_met sl_stepped sl_gone sl_run sl_setups sl_touched sl_plain sl_Log_init sl_Log_last sl_Log_same sl_ring sl_Log_drifts sl_drift sl_told_parts sl_ends_of sl_ahead_of sl_gone_back sl_parts_at sl_first_empty sl_ends_behind sl_is_back sl_no_back sl_is_ring sl_is_drift sl_shows sl_show_entry sl_show_machine sl_L_asked sl_L_caught sl_law : Array (Option Value)} {oc_L_mixed kV_L_mixed dc_L_mixed pm_L_mixed cd_L_mixed ct_L_mixed oc_L_purse kV_L_purse dc_L_purse pm_L_purse cd_L_purse ct_L_purse oc_L_draw kV_L_draw dc_L_draw pm_L_draw cd_L_draw ct_L_draw oc_L_machine kV_L_machine dc_L_machine pm_L_machine cd_L_machine ct_L_machine oc_L_odd kV_L_odd dc_L_odd pm_L_odd cd_L_odd ct_L_odd oc_is_entry kV_is_entry dc_is_entry pm_is_entry cd_is_entry ct_is_entry oc_is_machine kV_is_machine dc_is_machine pm_is_machine cd_is_machine ct_is_machine oc_must_machine kV_must_machine dc_must_machine pm_must_machine cd_must_machine ct_must_machine oc_Goer_init kV_Goer_init dc_Goer_init pm_Goer_init cd_Goer_init ct_Goer_init oc_Goer_entry kV_Goer_entry dc_Goer_entry pm_Goer_entry cd_Goer_entry ct_Goer_entry oc_Goer_step kV_Goer_step dc_Goer_step pm_Goer_step cd_Goer_step ct_Goer_step oc_told_strip kV_told_strip dc_told_strip pm_told_strip cd_told_strip ct_told_strip oc_Goer_setup kV_Goer_setup dc_Goer_setup pm_Goer_setup cd_Goer_setup ct_Goer_setup oc_parts_from kV_parts_from dc_parts_from pm_parts_from cd_parts_from ct_parts_from oc_met_entries kV_met_entries dc_met_entries pm_met_entries cd_met_entries ct_met_entries oc_visits kV_visits dc_visits pm_visits cd_visits ct_visits oc_records kV_records dc_records pm_records cd_records ct_records oc_L_met kV_L_met dc_L_met pm_L_met cd_L_met ct_L_met oc_stepped kV_stepped dc_stepped pm_stepped cd_stepped ct_stepped oc_gone kV_gone dc_gone pm_gone cd_gone ct_gone oc_run kV_run dc_run pm_run cd_run ct_run oc_setups kV_setups dc_setups pm_setups cd_setups ct_setups oc_touched kV_touched dc_touched pm_touched cd_touched ct_touched oc_plain kV_plain dc_plain pm_plain cd_plain ct_plain oc_Log_init kV_Log_init dc_Log_init pm_Log_init cd_Log_init ct_Log_init oc_Log_last kV_Log_last dc_Log_last pm_Log_last cd_Log_last ct_Log_last oc_Log_same kV_Log_same dc_Log_same pm_Log_same cd_Log_same ct_Log_same oc_ring kV_ring dc_ring pm_ring cd_ring ct_ring oc_Log_drifts kV_Log_drifts dc_Log_drifts pm_Log_drifts cd_Log_drifts ct_Log_drifts oc_drift kV_drift dc_drift pm_drift cd_drift ct_drift oc_told_parts kV_told_parts dc_told_parts pm_told_parts cd_told_parts ct_told_parts oc_ends_of kV_ends_of dc_ends_of pm_ends_of cd_ends_of ct_ends_of oc_ahead_of kV_ahead_of dc_ahead_of pm_ahead_of cd_ahead_of ct_ahead_of oc_gone_back kV_gone_back dc_gone_back pm_gone_back cd_gone_back ct_gone_back oc_parts_at kV_parts_at dc_parts_at pm_parts_at cd_parts_at ct_parts_at oc_first_empty kV_first_empty dc_first_empty pm_first_empty cd_first_empty ct_first_empty oc_ends_behind kV_ends_behind dc_ends_behind pm_ends_behind cd_ends_behind ct_ends_behind oc_is_back kV_is_back dc_is_back pm_is_back cd_is_back ct_is_back oc_no_back kV_no_back dc_no_back pm_no_back cd_no_back ct_no_back oc_is_ring kV_is_ring dc_is_ring pm_is_ring cd_is_ring ct_is_ring oc_is_drift kV_is_drift dc_is_drift pm_is_drift cd_is_drift ct_is_drift oc_shows kV_shows dc_shows pm_shows cd_shows ct_shows oc_show_entry kV_show_entry dc_show_entry pm_show_entry cd_show_entry ct_show_entry oc_show_machine kV_show_machine dc_show_machine pm_show_machine cd_show_machine ct_show_machine oc_L_asked kV_L_asked dc_L_asked pm_L_asked cd_L_asked ct_L_asked oc_L_caught kV_L_caught dc_L_caught pm_L_caught cd_L_caught ct_L_caught oc_law kV_law dc_law pm_law cd_law ct_law : Value} {tk_MOST_ROWS tk_MOST_SIGNS tk_MOST_PARTS tk_MOST_DEPTH tk_ROWS : Tok} (X : K.In h) (G : h.Ns mainGlobals mg) (hfa : mg "law" = some (.ref fa))
    (n_NoMachine : PySem.W.nsIn K mainGlobals "NoMachine" = some (some (.ref C_NoMachine)))
    (n_Goer : PySem.W.nsIn K mainGlobals "Goer" = some (some (.ref C_Goer)))
    (n_Log : PySem.W.nsIn K mainGlobals "Log" = some (some (.ref C_Log)))
    (n_MillError : PySem.W.nsIn K mainGlobals "MillError" = some (some (.ref C_MillError)))
    (n_Full : PySem.W.nsIn K mainGlobals "Full" = some (some (.ref C_Full)))
    (n_NoDeed : PySem.W.nsIn K mainGlobals "NoDeed" = some (some (.ref C_NoDeed)))
    (n_NoName : PySem.W.nsIn K mainGlobals "NoName" = some (some (.ref C_NoName)))
    (n_NoPaper : PySem.W.nsIn K mainGlobals "NoPaper" = some (some (.ref C_NoPaper)))
    (n_NoSize : PySem.W.nsIn K mainGlobals "NoSize" = some (some (.ref C_NoSize)))
    (n_NoSuch : PySem.W.nsIn K mainGlobals "NoSuch" = some (some (.ref C_NoSuch)))
    (n_NoText : PySem.W.nsIn K mainGlobals "NoText" = some (some (.ref C_NoText)))
    (n_Twice : PySem.W.nsIn K mainGlobals "Twice" = some (some (.ref C_Twice)))
    (n_L_mixed : PySem.W.nsIn K mainGlobals "_law_mixed" = some (some (.ref a_L_mixed)))
    (l_L_mixed : K.lookup a_L_mixed = some ⟨oc_L_mixed, od_L_mixed, .func (PySem.W.fnOf "_law_mixed" "_law_mixed" (defArgs s_L_mixed) (defBody s_L_mixed) (defScope s_L_mixed) .none kV_L_mixed dc_L_mixed pm_L_mixed an_L_mixed cd_L_mixed ct_L_mixed), sl_L_mixed⟩)
    (c_L_mixed : PySem.W.codeIn K cd_L_mixed "_law_mixed" = true)
    (k_L_mixed : PySem.W.keepIn K (.ref a_L_mixed) = true)
    (n_L_purse : PySem.W.nsIn K mainGlobals "_law_purse" = some (some (.ref a_L_purse)))
    (l_L_purse : K.lookup a_L_purse = some ⟨oc_L_purse, od_L_purse, .func (PySem.W.fnOf "_law_purse" "_law_purse" (defArgs s_L_purse) (defBody s_L_purse) (defScope s_L_purse) .none kV_L_purse dc_L_purse pm_L_purse an_L_purse cd_L_purse ct_L_purse), sl_L_purse⟩)
    (c_L_purse : PySem.W.codeIn K cd_L_purse "_law_purse" = true)
    (k_L_purse : PySem.W.keepIn K (.ref a_L_purse) = true)
    (n_L_draw : PySem.W.nsIn K mainGlobals "_law_draw" = some (some (.ref a_L_draw)))
    (l_L_draw : K.lookup a_L_draw = some ⟨oc_L_draw, od_L_draw, .func (PySem.W.fnOf "_law_draw" "_law_draw" (defArgs s_L_draw) (defBody s_L_draw) (defScope s_L_draw) .none kV_L_draw dc_L_draw pm_L_draw an_L_draw cd_L_draw ct_L_draw), sl_L_draw⟩)
    (c_L_draw : PySem.W.codeIn K cd_L_draw "_law_draw" = true)
    (k_L_draw : PySem.W.keepIn K (.ref a_L_draw) = true)
    (n_L_machine : PySem.W.nsIn K mainGlobals "_law_machine" = some (some (.ref a_L_machine)))
    (l_L_machine : K.lookup a_L_machine = some ⟨oc_L_machine, od_L_machine, .func (PySem.W.fnOf "_law_machine" "_law_machine" (defArgs s_L_machine) (defBody s_L_machine) (defScope s_L_machine) .none kV_L_machine dc_L_machine pm_L_machine an_L_machine cd_L_machine ct_L_machine), sl_L_machine⟩)
    (c_L_machine : PySem.W.codeIn K cd_L_machine "_law_machine" = true)
    (k_L_machine : PySem.W.keepIn K (.ref a_L_machine) = true)
    (n_L_odd : PySem.W.nsIn K mainGlobals "_law_odd" = some (some (.ref a_L_odd)))
    (l_L_odd : K.lookup a_L_odd = some ⟨oc_L_odd, od_L_odd, .func (PySem.W.fnOf "_law_odd" "_law_odd" (defArgs s_L_odd) (defBody s_L_odd) (defScope s_L_odd) .none kV_L_odd dc_L_odd pm_L_odd an_L_odd cd_L_odd ct_L_odd), sl_L_odd⟩)
    (c_L_odd : PySem.W.codeIn K cd_L_odd "_law_odd" = true)
    (k_L_odd : PySem.W.keepIn K (.ref a_L_odd) = true)
    (n_is_entry : PySem.W.nsIn K mainGlobals "is_entry" = some (some (.ref a_is_entry)))
    (l_is_entry : K.lookup a_is_entry = some ⟨oc_is_entry, od_is_entry, .func (PySem.W.fnOf "is_entry" "is_entry" (defArgs s_is_entry) (defBody s_is_entry) (defScope s_is_entry) .none kV_is_entry dc_is_entry pm_is_entry an_is_entry cd_is_entry ct_is_entry), sl_is_entry⟩)
    (c_is_entry : PySem.W.codeIn K cd_is_entry "is_entry" = true)
    (k_is_entry : PySem.W.keepIn K (.ref a_is_entry) = true)
    (n_is_machine : PySem.W.nsIn K mainGlobals "is_machine" = some (some (.ref a_is_machine)))
    (l_is_machine : K.lookup a_is_machine = some ⟨oc_is_machine, od_is_machine, .func (PySem.W.fnOf "is_machine" "is_machine" (defArgs s_is_machine) (defBody s_is_machine) (defScope s_is_machine) .none kV_is_machine dc_is_machine pm_is_machine an_is_machine cd_is_machine ct_is_machine), sl_is_machine⟩)
    (c_is_machine : PySem.W.codeIn K cd_is_machine "is_machine" = true)
    (k_is_machine : PySem.W.keepIn K (.ref a_is_machine) = true)
    (n_must_machine : PySem.W.nsIn K mainGlobals "must_machine" = some (some (.ref a_must_machine)))
    (l_must_machine : K.lookup a_must_machine = some ⟨oc_must_machine, od_must_machine, .func (PySem.W.fnOf "must_machine" "must_machine" (defArgs s_must_machine) (defBody s_must_machine) (defScope s_must_machine) .none kV_must_machine dc_must_machine pm_must_machine an_must_machine cd_must_machine ct_must_machine), sl_must_machine⟩)
    (c_must_machine : PySem.W.codeIn K cd_must_machine "must_machine" = true)
    (k_must_machine : PySem.W.keepIn K (.ref a_must_machine) = true)
    (n_Goer_init : PySem.W.findIn K (.ref C_Goer) "__init__" = some (some (.ref a_Goer_init)))
    (i_Goer_init : PySem.W.isFn K (.ref a_Goer_init) = true)
    (l_Goer_init : K.lookup a_Goer_init = some ⟨oc_Goer_init, od_Goer_init, .func (PySem.W.fnOf "__init__" "Goer.__init__" (defArgs s_Goer_init) (defBody s_Goer_init) (defScope s_Goer_init) .none kV_Goer_init dc_Goer_init pm_Goer_init an_Goer_init cd_Goer_init ct_Goer_init), sl_Goer_init⟩)
    (c_Goer_init : PySem.W.codeIn K cd_Goer_init "Goer.__init__" = true)
    (k_Goer_init : PySem.W.keepIn K (.ref a_Goer_init) = true)
    (n_Goer_entry : PySem.W.findIn K (.ref C_Goer) "entry" = some (some (.ref a_Goer_entry)))
    (i_Goer_entry : PySem.W.isFn K (.ref a_Goer_entry) = true)
    (l_Goer_entry : K.lookup a_Goer_entry = some ⟨oc_Goer_entry, od_Goer_entry, .func (PySem.W.fnOf "entry" "Goer.entry" (defArgs s_Goer_entry) (defBody s_Goer_entry) (defScope s_Goer_entry) .none kV_Goer_entry dc_Goer_entry pm_Goer_entry an_Goer_entry cd_Goer_entry ct_Goer_entry), sl_Goer_entry⟩)
    (c_Goer_entry : PySem.W.codeIn K cd_Goer_entry "Goer.entry" = true)
    (k_Goer_entry : PySem.W.keepIn K (.ref a_Goer_entry) = true)
    (n_Goer_step : PySem.W.findIn K (.ref C_Goer) "step" = some (some (.ref a_Goer_step)))
    (i_Goer_step : PySem.W.isFn K (.ref a_Goer_step) = true)
    (l_Goer_step : K.lookup a_Goer_step = some ⟨oc_Goer_step, od_Goer_step, .func (PySem.W.fnOf "step" "Goer.step" (defArgs s_Goer_step) (defBody s_Goer_step) (defScope s_Goer_step) .none kV_Goer_step dc_Goer_step pm_Goer_step an_Goer_step cd_Goer_step ct_Goer_step), sl_Goer_step⟩)
    (c_Goer_step : PySem.W.codeIn K cd_Goer_step "Goer.step" = true)
    (k_Goer_step : PySem.W.keepIn K (.ref a_Goer_step) = true)
    (n_told_strip : PySem.W.nsIn K mainGlobals "told_strip" = some (some (.ref a_told_strip)))
    (l_told_strip : K.lookup a_told_strip = some ⟨oc_told_strip, od_told_strip, .func (PySem.W.fnOf "told_strip" "told_strip" (defArgs s_told_strip) (defBody s_told_strip) (defScope s_told_strip) .none kV_told_strip dc_told_strip pm_told_strip an_told_strip cd_told_strip ct_told_strip), sl_told_strip⟩)
    (c_told_strip : PySem.W.codeIn K cd_told_strip "told_strip" = true)
    (k_told_strip : PySem.W.keepIn K (.ref a_told_strip) = true)
    (n_Goer_setup : PySem.W.findIn K (.ref C_Goer) "setup" = some (some (.ref a_Goer_setup)))
    (i_Goer_setup : PySem.W.isFn K (.ref a_Goer_setup) = true)
    (l_Goer_setup : K.lookup a_Goer_setup = some ⟨oc_Goer_setup, od_Goer_setup, .func (PySem.W.fnOf "setup" "Goer.setup" (defArgs s_Goer_setup) (defBody s_Goer_setup) (defScope s_Goer_setup) .none kV_Goer_setup dc_Goer_setup pm_Goer_setup an_Goer_setup cd_Goer_setup ct_Goer_setup), sl_Goer_setup⟩)
    (c_Goer_setup : PySem.W.codeIn K cd_Goer_setup "Goer.setup" = true)
    (k_Goer_setup : PySem.W.keepIn K (.ref a_Goer_setup) = true)
    (n_parts_from : PySem.W.nsIn K mainGlobals "parts_from" = some (some (.ref a_parts_from)))
    (l_parts_from : K.lookup a_parts_from = some ⟨oc_parts_from, od_parts_from, .func (PySem.W.fnOf "parts_from" "parts_from" (defArgs s_parts_from) (defBody s_parts_from) (defScope s_parts_from) .none kV_parts_from dc_parts_from pm_parts_from an_parts_from cd_parts_from ct_parts_from), sl_parts_from⟩)
    (c_parts_from : PySem.W.codeIn K cd_parts_from "parts_from" = true)
    (k_parts_from : PySem.W.keepIn K (.ref a_parts_from) = true)
    (n_met_entries : PySem.W.nsIn K mainGlobals "met_entries" = some (some (.ref a_met_entries)))
    (l_met_entries : K.lookup a_met_entries = some ⟨oc_met_entries, od_met_entries, .func (PySem.W.fnOf "met_entries" "met_entries" (defArgs s_met_entries) (defBody s_met_entries) (defScope s_met_entries) .none kV_met_entries dc_met_entries pm_met_entries an_met_entries cd_met_entries ct_met_entries), sl_met_entries⟩)
    (c_met_entries : PySem.W.codeIn K cd_met_entries "met_entries" = true)
    (k_met_entries : PySem.W.keepIn K (.ref a_met_entries) = true)
    (n_visits : PySem.W.nsIn K mainGlobals "visits" = some (some (.ref a_visits)))
    (l_visits : K.lookup a_visits = some ⟨oc_visits, od_visits, .func (PySem.W.fnOf "visits" "visits" (defArgs s_visits) (defBody s_visits) (defScope s_visits) .none kV_visits dc_visits pm_visits an_visits cd_visits ct_visits), sl_visits⟩)
    (c_visits : PySem.W.codeIn K cd_visits "visits" = true)
    (k_visits : PySem.W.keepIn K (.ref a_visits) = true)
    (n_records : PySem.W.nsIn K mainGlobals "records" = some (some (.ref a_records)))
    (l_records : K.lookup a_records = some ⟨oc_records, od_records, .func (PySem.W.fnOf "records" "records" (defArgs s_records) (defBody s_records) (defScope s_records) .none kV_records dc_records pm_records an_records cd_records ct_records), sl_records⟩)
    (c_records : PySem.W.codeIn K cd_records "records" = true)
    (k_records : PySem.W.keepIn K (.ref a_records) = true)
    (n_L_met : PySem.W.nsIn K mainGlobals "_law_met" = some (some (.ref a_L_met)))
    (l_L_met : K.lookup a_L_met = some ⟨oc_L_met, od_L_met, .func (PySem.W.fnOf "_law_met" "_law_met" (defArgs s_L_met) (defBody s_L_met) (defScope s_L_met) .none kV_L_met dc_L_met pm_L_met an_L_met cd_L_met ct_L_met), sl_L_met⟩)
    (c_L_met : PySem.W.codeIn K cd_L_met "_law_met" = true)
    (k_L_met : PySem.W.keepIn K (.ref a_L_met) = true)
    (n_stepped : PySem.W.nsIn K mainGlobals "stepped" = some (some (.ref a_stepped)))
    (l_stepped : K.lookup a_stepped = some ⟨oc_stepped, od_stepped, .func (PySem.W.fnOf "stepped" "stepped" (defArgs s_stepped) (defBody s_stepped) (defScope s_stepped) .none kV_stepped dc_stepped pm_stepped an_stepped cd_stepped ct_stepped), sl_stepped⟩)
    (c_stepped : PySem.W.codeIn K cd_stepped "stepped" = true)
    (k_stepped : PySem.W.keepIn K (.ref a_stepped) = true)
    (n_gone : PySem.W.nsIn K mainGlobals "gone" = some (some (.ref a_gone)))
    (l_gone : K.lookup a_gone = some ⟨oc_gone, od_gone, .func (PySem.W.fnOf "gone" "gone" (defArgs s_gone) (defBody s_gone) (defScope s_gone) .none kV_gone dc_gone pm_gone an_gone cd_gone ct_gone), sl_gone⟩)
    (c_gone : PySem.W.codeIn K cd_gone "gone" = true)
    (k_gone : PySem.W.keepIn K (.ref a_gone) = true)
    (n_run : PySem.W.nsIn K mainGlobals "run" = some (some (.ref a_run)))
    (l_run : K.lookup a_run = some ⟨oc_run, od_run, .func (PySem.W.fnOf "run" "run" (defArgs s_run) (defBody s_run) (defScope s_run) .none kV_run dc_run pm_run an_run cd_run ct_run), sl_run⟩)
    (c_run : PySem.W.codeIn K cd_run "run" = true)
    (k_run : PySem.W.keepIn K (.ref a_run) = true)
    (n_setups : PySem.W.nsIn K mainGlobals "setups" = some (some (.ref a_setups)))
    (l_setups : K.lookup a_setups = some ⟨oc_setups, od_setups, .func (PySem.W.fnOf "setups" "setups" (defArgs s_setups) (defBody s_setups) (defScope s_setups) .none kV_setups dc_setups pm_setups an_setups cd_setups ct_setups), sl_setups⟩)
    (c_setups : PySem.W.codeIn K cd_setups "setups" = true)
    (k_setups : PySem.W.keepIn K (.ref a_setups) = true)
    (n_touched : PySem.W.nsIn K mainGlobals "touched" = some (some (.ref a_touched)))
    (l_touched : K.lookup a_touched = some ⟨oc_touched, od_touched, .func (PySem.W.fnOf "touched" "touched" (defArgs s_touched) (defBody s_touched) (defScope s_touched) .none kV_touched dc_touched pm_touched an_touched cd_touched ct_touched), sl_touched⟩)
    (c_touched : PySem.W.codeIn K cd_touched "touched" = true)
    (k_touched : PySem.W.keepIn K (.ref a_touched) = true)
    (n_plain : PySem.W.nsIn K mainGlobals "plain" = some (some (.ref a_plain)))
    (l_plain : K.lookup a_plain = some ⟨oc_plain, od_plain, .func (PySem.W.fnOf "plain" "plain" (defArgs s_plain) (defBody s_plain) (defScope s_plain) .none kV_plain dc_plain pm_plain an_plain cd_plain ct_plain), sl_plain⟩)
    (c_plain : PySem.W.codeIn K cd_plain "plain" = true)
    (k_plain : PySem.W.keepIn K (.ref a_plain) = true)
    (n_Log_init : PySem.W.findIn K (.ref C_Log) "__init__" = some (some (.ref a_Log_init)))
    (i_Log_init : PySem.W.isFn K (.ref a_Log_init) = true)
    (l_Log_init : K.lookup a_Log_init = some ⟨oc_Log_init, od_Log_init, .func (PySem.W.fnOf "__init__" "Log.__init__" (defArgs s_Log_init) (defBody s_Log_init) (defScope s_Log_init) .none kV_Log_init dc_Log_init pm_Log_init an_Log_init cd_Log_init ct_Log_init), sl_Log_init⟩)
    (c_Log_init : PySem.W.codeIn K cd_Log_init "Log.__init__" = true)
    (k_Log_init : PySem.W.keepIn K (.ref a_Log_init) = true)
    (n_Log_last : PySem.W.findIn K (.ref C_Log) "last" = some (some (.ref a_Log_last)))
    (i_Log_last : PySem.W.isFn K (.ref a_Log_last) = true)
    (l_Log_last : K.lookup a_Log_last = some ⟨oc_Log_last, od_Log_last, .func (PySem.W.fnOf "last" "Log.last" (defArgs s_Log_last) (defBody s_Log_last) (defScope s_Log_last) .none kV_Log_last dc_Log_last pm_Log_last an_Log_last cd_Log_last ct_Log_last), sl_Log_last⟩)
    (c_Log_last : PySem.W.codeIn K cd_Log_last "Log.last" = true)
    (k_Log_last : PySem.W.keepIn K (.ref a_Log_last) = true)
    (n_Log_same : PySem.W.findIn K (.ref C_Log) "same" = some (some (.ref a_Log_same)))
    (i_Log_same : PySem.W.isFn K (.ref a_Log_same) = true)
    (l_Log_same : K.lookup a_Log_same = some ⟨oc_Log_same, od_Log_same, .func (PySem.W.fnOf "same" "Log.same" (defArgs s_Log_same) (defBody s_Log_same) (defScope s_Log_same) .none kV_Log_same dc_Log_same pm_Log_same an_Log_same cd_Log_same ct_Log_same), sl_Log_same⟩)
    (c_Log_same : PySem.W.codeIn K cd_Log_same "Log.same" = true)
    (k_Log_same : PySem.W.keepIn K (.ref a_Log_same) = true)
    (n_ring : PySem.W.nsIn K mainGlobals "ring" = some (some (.ref a_ring)))
    (l_ring : K.lookup a_ring = some ⟨oc_ring, od_ring, .func (PySem.W.fnOf "ring" "ring" (defArgs s_ring) (defBody s_ring) (defScope s_ring) .none kV_ring dc_ring pm_ring an_ring cd_ring ct_ring), sl_ring⟩)
    (c_ring : PySem.W.codeIn K cd_ring "ring" = true)
    (k_ring : PySem.W.keepIn K (.ref a_ring) = true)
    (n_Log_drifts : PySem.W.findIn K (.ref C_Log) "drifts" = some (some (.ref a_Log_drifts)))
    (i_Log_drifts : PySem.W.isFn K (.ref a_Log_drifts) = true)
    (l_Log_drifts : K.lookup a_Log_drifts = some ⟨oc_Log_drifts, od_Log_drifts, .func (PySem.W.fnOf "drifts" "Log.drifts" (defArgs s_Log_drifts) (defBody s_Log_drifts) (defScope s_Log_drifts) .none kV_Log_drifts dc_Log_drifts pm_Log_drifts an_Log_drifts cd_Log_drifts ct_Log_drifts), sl_Log_drifts⟩)
    (c_Log_drifts : PySem.W.codeIn K cd_Log_drifts "Log.drifts" = true)
    (k_Log_drifts : PySem.W.keepIn K (.ref a_Log_drifts) = true)
    (n_drift : PySem.W.nsIn K mainGlobals "drift" = some (some (.ref a_drift)))
    (l_drift : K.lookup a_drift = some ⟨oc_drift, od_drift, .func (PySem.W.fnOf "drift" "drift" (defArgs s_drift) (defBody s_drift) (defScope s_drift) .none kV_drift dc_drift pm_drift an_drift cd_drift ct_drift), sl_drift⟩)
    (c_drift : PySem.W.codeIn K cd_drift "drift" = true)
    (k_drift : PySem.W.keepIn K (.ref a_drift) = true)
    (n_told_parts : PySem.W.nsIn K mainGlobals "told_parts" = some (some (.ref a_told_parts)))
    (l_told_parts : K.lookup a_told_parts = some ⟨oc_told_parts, od_told_parts, .func (PySem.W.fnOf "told_parts" "told_parts" (defArgs s_told_parts) (defBody s_told_parts) (defScope s_told_parts) .none kV_told_parts dc_told_parts pm_told_parts an_told_parts cd_told_parts ct_told_parts), sl_told_parts⟩)
    (c_told_parts : PySem.W.codeIn K cd_told_parts "told_parts" = true)
    (k_told_parts : PySem.W.keepIn K (.ref a_told_parts) = true)
    (n_ends_of : PySem.W.nsIn K mainGlobals "ends_of" = some (some (.ref a_ends_of)))
    (l_ends_of : K.lookup a_ends_of = some ⟨oc_ends_of, od_ends_of, .func (PySem.W.fnOf "ends_of" "ends_of" (defArgs s_ends_of) (defBody s_ends_of) (defScope s_ends_of) .none kV_ends_of dc_ends_of pm_ends_of an_ends_of cd_ends_of ct_ends_of), sl_ends_of⟩)
    (c_ends_of : PySem.W.codeIn K cd_ends_of "ends_of" = true)
    (k_ends_of : PySem.W.keepIn K (.ref a_ends_of) = true)
    (n_ahead_of : PySem.W.nsIn K mainGlobals "ahead_of" = some (some (.ref a_ahead_of)))
    (l_ahead_of : K.lookup a_ahead_of = some ⟨oc_ahead_of, od_ahead_of, .func (PySem.W.fnOf "ahead_of" "ahead_of" (defArgs s_ahead_of) (defBody s_ahead_of) (defScope s_ahead_of) .none kV_ahead_of dc_ahead_of pm_ahead_of an_ahead_of cd_ahead_of ct_ahead_of), sl_ahead_of⟩)
    (c_ahead_of : PySem.W.codeIn K cd_ahead_of "ahead_of" = true)
    (k_ahead_of : PySem.W.keepIn K (.ref a_ahead_of) = true)
    (n_gone_back : PySem.W.nsIn K mainGlobals "gone_back" = some (some (.ref a_gone_back)))
    (l_gone_back : K.lookup a_gone_back = some ⟨oc_gone_back, od_gone_back, .func (PySem.W.fnOf "gone_back" "gone_back" (defArgs s_gone_back) (defBody s_gone_back) (defScope s_gone_back) .none kV_gone_back dc_gone_back pm_gone_back an_gone_back cd_gone_back ct_gone_back), sl_gone_back⟩)
    (c_gone_back : PySem.W.codeIn K cd_gone_back "gone_back" = true)
    (k_gone_back : PySem.W.keepIn K (.ref a_gone_back) = true)
    (n_parts_at : PySem.W.nsIn K mainGlobals "parts_at" = some (some (.ref a_parts_at)))
    (l_parts_at : K.lookup a_parts_at = some ⟨oc_parts_at, od_parts_at, .func (PySem.W.fnOf "parts_at" "parts_at" (defArgs s_parts_at) (defBody s_parts_at) (defScope s_parts_at) .none kV_parts_at dc_parts_at pm_parts_at an_parts_at cd_parts_at ct_parts_at), sl_parts_at⟩)
    (c_parts_at : PySem.W.codeIn K cd_parts_at "parts_at" = true)
    (k_parts_at : PySem.W.keepIn K (.ref a_parts_at) = true)
    (n_first_empty : PySem.W.nsIn K mainGlobals "first_empty" = some (some (.ref a_first_empty)))
    (l_first_empty : K.lookup a_first_empty = some ⟨oc_first_empty, od_first_empty, .func (PySem.W.fnOf "first_empty" "first_empty" (defArgs s_first_empty) (defBody s_first_empty) (defScope s_first_empty) .none kV_first_empty dc_first_empty pm_first_empty an_first_empty cd_first_empty ct_first_empty), sl_first_empty⟩)
    (c_first_empty : PySem.W.codeIn K cd_first_empty "first_empty" = true)
    (k_first_empty : PySem.W.keepIn K (.ref a_first_empty) = true)
    (n_ends_behind : PySem.W.nsIn K mainGlobals "ends_behind" = some (some (.ref a_ends_behind)))
    (l_ends_behind : K.lookup a_ends_behind = some ⟨oc_ends_behind, od_ends_behind, .func (PySem.W.fnOf "ends_behind" "ends_behind" (defArgs s_ends_behind) (defBody s_ends_behind) (defScope s_ends_behind) .none kV_ends_behind dc_ends_behind pm_ends_behind an_ends_behind cd_ends_behind ct_ends_behind), sl_ends_behind⟩)
    (c_ends_behind : PySem.W.codeIn K cd_ends_behind "ends_behind" = true)
    (k_ends_behind : PySem.W.keepIn K (.ref a_ends_behind) = true)
    (n_is_back : PySem.W.nsIn K mainGlobals "is_back" = some (some (.ref a_is_back)))
    (l_is_back : K.lookup a_is_back = some ⟨oc_is_back, od_is_back, .func (PySem.W.fnOf "is_back" "is_back" (defArgs s_is_back) (defBody s_is_back) (defScope s_is_back) .none kV_is_back dc_is_back pm_is_back an_is_back cd_is_back ct_is_back), sl_is_back⟩)
    (c_is_back : PySem.W.codeIn K cd_is_back "is_back" = true)
    (k_is_back : PySem.W.keepIn K (.ref a_is_back) = true)
    (n_no_back : PySem.W.nsIn K mainGlobals "no_back" = some (some (.ref a_no_back)))
    (l_no_back : K.lookup a_no_back = some ⟨oc_no_back, od_no_back, .func (PySem.W.fnOf "no_back" "no_back" (defArgs s_no_back) (defBody s_no_back) (defScope s_no_back) .none kV_no_back dc_no_back pm_no_back an_no_back cd_no_back ct_no_back), sl_no_back⟩)
    (c_no_back : PySem.W.codeIn K cd_no_back "no_back" = true)
    (k_no_back : PySem.W.keepIn K (.ref a_no_back) = true)
    (n_is_ring : PySem.W.nsIn K mainGlobals "is_ring" = some (some (.ref a_is_ring)))
    (l_is_ring : K.lookup a_is_ring = some ⟨oc_is_ring, od_is_ring, .func (PySem.W.fnOf "is_ring" "is_ring" (defArgs s_is_ring) (defBody s_is_ring) (defScope s_is_ring) .none kV_is_ring dc_is_ring pm_is_ring an_is_ring cd_is_ring ct_is_ring), sl_is_ring⟩)
    (c_is_ring : PySem.W.codeIn K cd_is_ring "is_ring" = true)
    (k_is_ring : PySem.W.keepIn K (.ref a_is_ring) = true)
    (n_is_drift : PySem.W.nsIn K mainGlobals "is_drift" = some (some (.ref a_is_drift)))
    (l_is_drift : K.lookup a_is_drift = some ⟨oc_is_drift, od_is_drift, .func (PySem.W.fnOf "is_drift" "is_drift" (defArgs s_is_drift) (defBody s_is_drift) (defScope s_is_drift) .none kV_is_drift dc_is_drift pm_is_drift an_is_drift cd_is_drift ct_is_drift), sl_is_drift⟩)
    (c_is_drift : PySem.W.codeIn K cd_is_drift "is_drift" = true)
    (k_is_drift : PySem.W.keepIn K (.ref a_is_drift) = true)
    (n_shows : PySem.W.nsIn K mainGlobals "shows" = some (some (.ref a_shows)))
    (l_shows : K.lookup a_shows = some ⟨oc_shows, od_shows, .func (PySem.W.fnOf "shows" "shows" (defArgs s_shows) (defBody s_shows) (defScope s_shows) .none kV_shows dc_shows pm_shows an_shows cd_shows ct_shows), sl_shows⟩)
    (c_shows : PySem.W.codeIn K cd_shows "shows" = true)
    (k_shows : PySem.W.keepIn K (.ref a_shows) = true)
    (n_show_entry : PySem.W.nsIn K mainGlobals "show_entry" = some (some (.ref a_show_entry)))
    (l_show_entry : K.lookup a_show_entry = some ⟨oc_show_entry, od_show_entry, .func (PySem.W.fnOf "show_entry" "show_entry" (defArgs s_show_entry) (defBody s_show_entry) (defScope s_show_entry) .none kV_show_entry dc_show_entry pm_show_entry an_show_entry cd_show_entry ct_show_entry), sl_show_entry⟩)
    (c_show_entry : PySem.W.codeIn K cd_show_entry "show_entry" = true)
    (k_show_entry : PySem.W.keepIn K (.ref a_show_entry) = true)
    (n_show_machine : PySem.W.nsIn K mainGlobals "show_machine" = some (some (.ref a_show_machine)))
    (l_show_machine : K.lookup a_show_machine = some ⟨oc_show_machine, od_show_machine, .func (PySem.W.fnOf "show_machine" "show_machine" (defArgs s_show_machine) (defBody s_show_machine) (defScope s_show_machine) .none kV_show_machine dc_show_machine pm_show_machine an_show_machine cd_show_machine ct_show_machine), sl_show_machine⟩)
    (c_show_machine : PySem.W.codeIn K cd_show_machine "show_machine" = true)
    (k_show_machine : PySem.W.keepIn K (.ref a_show_machine) = true)
    (n_L_asked : PySem.W.nsIn K mainGlobals "_law_asked" = some (some (.ref a_L_asked)))
    (l_L_asked : K.lookup a_L_asked = some ⟨oc_L_asked, od_L_asked, .func (PySem.W.fnOf "_law_asked" "_law_asked" (defArgs s_L_asked) (defBody s_L_asked) (defScope s_L_asked) .none kV_L_asked dc_L_asked pm_L_asked an_L_asked cd_L_asked ct_L_asked), sl_L_asked⟩)
    (c_L_asked : PySem.W.codeIn K cd_L_asked "_law_asked" = true)
    (k_L_asked : PySem.W.keepIn K (.ref a_L_asked) = true)
    (n_L_caught : PySem.W.nsIn K mainGlobals "_law_caught" = some (some (.ref a_L_caught)))
    (l_L_caught : K.lookup a_L_caught = some ⟨oc_L_caught, od_L_caught, .func (PySem.W.fnOf "_law_caught" "_law_caught" (defArgs s_L_caught) (defBody s_L_caught) (defScope s_L_caught) .none kV_L_caught dc_L_caught pm_L_caught an_L_caught cd_L_caught ct_L_caught), sl_L_caught⟩)
    (c_L_caught : PySem.W.codeIn K cd_L_caught "_law_caught" = true)
    (k_L_caught : PySem.W.keepIn K (.ref a_L_caught) = true)
    (n_law : PySem.W.nsIn K mainGlobals "law" = some (some (.ref a_law)))
    (l_law : K.lookup a_law = some ⟨oc_law, od_law, .func (PySem.W.fnOf "law" "law" (defArgs s_law) (defBody s_law) (defScope s_law) .none kV_law dc_law pm_law an_law cd_law ct_law), sl_law⟩)
    (c_law : PySem.W.codeIn K cd_law "law" = true)
    (k_law : PySem.W.keepIn K (.ref a_law) = true)
    (pg_Goer : PySem.W.plainGet K C_Goer Str.empty = true)
    (hd_Goer : PySem.W.hasDictIn K C_Goer = true)
    (po_Goer : PySem.W.plainOver K C_Goer = true)
    (sa_Goer : PySem.W.findIn K (.ref C_Goer) "__setattr__" = some (some (.builtin "object.__setattr__")))
    (mk_Goer : PySem.W.makesIn K C_Goer = true)
    (kc_Goer : PySem.W.keepIn K (.ref C_Goer) = true)
    (f_Goer_table : PySem.W.findIn K (.ref C_Goer) "table" = some none)
    (f_Goer_row : PySem.W.findIn K (.ref C_Goer) "row" = some none)
    (f_Goer_spot : PySem.W.findIn K (.ref C_Goer) "spot" = some none)
    (f_Goer_signs : PySem.W.findIn K (.ref C_Goer) "signs" = some none)
    (f_Goer_steps : PySem.W.findIn K (.ref C_Goer) "steps" = some none)
    (pg_Log : PySem.W.plainGet K C_Log Str.empty = true)
    (hd_Log : PySem.W.hasDictIn K C_Log = true)
    (po_Log : PySem.W.plainOver K C_Log = true)
    (sa_Log : PySem.W.findIn K (.ref C_Log) "__setattr__" = some (some (.builtin "object.__setattr__")))
    (mk_Log : PySem.W.makesIn K C_Log = true)
    (kc_Log : PySem.W.keepIn K (.ref C_Log) = true)
    (f_Log_rows : PySem.W.findIn K (.ref C_Log) "rows" = some none)
    (f_Log_places : PySem.W.findIn K (.ref C_Log) "places" = some none)
    (f_Log_strips : PySem.W.findIn K (.ref C_Log) "strips" = some none)
    (f_Log_has_ended : PySem.W.findIn K (.ref C_Log) "has_ended" = some none)
    (n_MOST_ROWS : PySem.W.nsIn K mainGlobals "MOST_ROWS" = some (some (.int 4 tk_MOST_ROWS)))
    (n_MOST_SIGNS : PySem.W.nsIn K mainGlobals "MOST_SIGNS" = some (some (.int 4 tk_MOST_SIGNS)))
    (n_MOST_PARTS : PySem.W.nsIn K mainGlobals "MOST_PARTS" = some (some (.int 300 tk_MOST_PARTS)))
    (n_MOST_DEPTH : PySem.W.nsIn K mainGlobals "MOST_DEPTH" = some (some (.int 8 tk_MOST_DEPTH)))
    (n_ROWS : PySem.W.nsIn K mainGlobals "ROWS" = some (some (.str "ABCD" tk_ROWS)))
    (z_range : PySem.W.nsIn K mainGlobals "range" = some none)
    (z_len : PySem.W.nsIn K mainGlobals "len" = some none)
    (z_abs : PySem.W.nsIn K mainGlobals "abs" = some none)
    (z_list : PySem.W.nsIn K mainGlobals "list" = some none)
    (z_all : PySem.W.nsIn K mainGlobals "all" = some none)
    (z_dict : PySem.W.nsIn K mainGlobals "dict" = some none)
    (z_sorted : PySem.W.nsIn K mainGlobals "sorted" = some none)
    (z_max : PySem.W.nsIn K mainGlobals "max" = some none)
    (z_min : PySem.W.nsIn K mainGlobals "min" = some none)
    (z_int : PySem.W.nsIn K mainGlobals "int" = some none)
    (z_tuple : PySem.W.nsIn K mainGlobals "tuple" = some none)
    (z_str : PySem.W.nsIn K mainGlobals "str" = some none)
    (z_isinstance : PySem.W.nsIn K mainGlobals "isinstance" = some none)
    (fa_x_NoMachine : PySem.W.excIn K C_NoMachine [.type "ValueError", .type "Exception", .type "BaseException", .type "object"] "ValueError.__new__" = true)
    (fa_k_NoMachine : PySem.W.keepIn K (.ref C_NoMachine) = true)
    (fa_b_NoMachine : PySem.W.subIn K (.ref C_NoMachine) (.type "BaseException") = some true)
    (fa_t_NoMachine : PySem.W.typeIn K (.ref C_NoMachine) = some (.type "type"))
    (fa_h_NoMachine : PySem.W.hasDictIn K C_NoMachine = true)
    (fa_k_MillError : PySem.W.keepIn K (.ref C_MillError) = true)
    (fa_b_MillError : PySem.W.subIn K (.ref C_MillError) (.type "BaseException") = some true)
    (fa_t_MillError : PySem.W.typeIn K (.ref C_MillError) = some (.type "type"))
    (fa_h_MillError : PySem.W.hasDictIn K C_MillError = true)
    (fa_hg_NoMachine : PySem.W.findIn K (.ref C_NoMachine) "__getattribute__" = some (some (.builtin "BaseException.__getattribute__")))
    (fa_hk_NoMachine : PySem.W.findIn K (.ref C_NoMachine) "__getattr__" = some none)
    (fa_ha_NoMachine : PySem.W.findIn K (.ref C_NoMachine) "__class__" = some (some (.builtin "object.__class__")))
    (fa_hm_NoMachine : PySem.W.mroIn K C_NoMachine (.type "object") = some true)
    (fa_s_NoMachine_MillError : PySem.W.subIn K (.ref C_NoMachine) (.ref C_MillError) = some true)
    (fa_hn_ : PySem.W.specialIn K (.builtin "object.__class__") "__get__" = some (some (.builtin "getset_descriptor.__get__")))
    (fa_ht_ : PySem.W.takesIn K (.builtin "object.__class__") = some true)
    (fa_i_Full : PySem.W.isClsIn K C_Full = true)
    (fa_se_Full : PySem.W.subIn K (.ref C_Full) (.ref C_Full) = some true)
    (fa_t_Full : PySem.W.typeIn K (.ref C_Full) = some (.type "type"))
    (fa_s_NoMachine_Full : PySem.W.subIn K (.ref C_NoMachine) (.ref C_Full) = some false)
    (fa_sn_Full : PySem.W.subIn K (.type "NoneType") (.ref C_Full) = some false)
    (fa_i_NoDeed : PySem.W.isClsIn K C_NoDeed = true)
    (fa_se_NoDeed : PySem.W.subIn K (.ref C_NoDeed) (.ref C_NoDeed) = some true)
    (fa_t_NoDeed : PySem.W.typeIn K (.ref C_NoDeed) = some (.type "type"))
    (fa_s_NoMachine_NoDeed : PySem.W.subIn K (.ref C_NoMachine) (.ref C_NoDeed) = some false)
    (fa_sn_NoDeed : PySem.W.subIn K (.type "NoneType") (.ref C_NoDeed) = some false)
    (fa_i_NoName : PySem.W.isClsIn K C_NoName = true)
    (fa_se_NoName : PySem.W.subIn K (.ref C_NoName) (.ref C_NoName) = some true)
    (fa_t_NoName : PySem.W.typeIn K (.ref C_NoName) = some (.type "type"))
    (fa_s_NoMachine_NoName : PySem.W.subIn K (.ref C_NoMachine) (.ref C_NoName) = some false)
    (fa_sn_NoName : PySem.W.subIn K (.type "NoneType") (.ref C_NoName) = some false)
    (fa_i_NoPaper : PySem.W.isClsIn K C_NoPaper = true)
    (fa_se_NoPaper : PySem.W.subIn K (.ref C_NoPaper) (.ref C_NoPaper) = some true)
    (fa_t_NoPaper : PySem.W.typeIn K (.ref C_NoPaper) = some (.type "type"))
    (fa_s_NoMachine_NoPaper : PySem.W.subIn K (.ref C_NoMachine) (.ref C_NoPaper) = some false)
    (fa_sn_NoPaper : PySem.W.subIn K (.type "NoneType") (.ref C_NoPaper) = some false)
    (fa_i_NoSize : PySem.W.isClsIn K C_NoSize = true)
    (fa_se_NoSize : PySem.W.subIn K (.ref C_NoSize) (.ref C_NoSize) = some true)
    (fa_t_NoSize : PySem.W.typeIn K (.ref C_NoSize) = some (.type "type"))
    (fa_s_NoMachine_NoSize : PySem.W.subIn K (.ref C_NoMachine) (.ref C_NoSize) = some false)
    (fa_sn_NoSize : PySem.W.subIn K (.type "NoneType") (.ref C_NoSize) = some false)
    (fa_i_NoSuch : PySem.W.isClsIn K C_NoSuch = true)
    (fa_se_NoSuch : PySem.W.subIn K (.ref C_NoSuch) (.ref C_NoSuch) = some true)
    (fa_t_NoSuch : PySem.W.typeIn K (.ref C_NoSuch) = some (.type "type"))
    (fa_s_NoMachine_NoSuch : PySem.W.subIn K (.ref C_NoMachine) (.ref C_NoSuch) = some false)
    (fa_sn_NoSuch : PySem.W.subIn K (.type "NoneType") (.ref C_NoSuch) = some false)
    (fa_i_NoText : PySem.W.isClsIn K C_NoText = true)
    (fa_se_NoText : PySem.W.subIn K (.ref C_NoText) (.ref C_NoText) = some true)
    (fa_t_NoText : PySem.W.typeIn K (.ref C_NoText) = some (.type "type"))
    (fa_s_NoMachine_NoText : PySem.W.subIn K (.ref C_NoMachine) (.ref C_NoText) = some false)
    (fa_sn_NoText : PySem.W.subIn K (.type "NoneType") (.ref C_NoText) = some false)
    (fa_i_Twice : PySem.W.isClsIn K C_Twice = true)
    (fa_se_Twice : PySem.W.subIn K (.ref C_Twice) (.ref C_Twice) = some true)
    (fa_t_Twice : PySem.W.typeIn K (.ref C_Twice) = some (.type "type"))
    (fa_s_NoMachine_Twice : PySem.W.subIn K (.ref C_NoMachine) (.ref C_Twice) = some false)
    (fa_sn_Twice : PySem.W.subIn K (.type "NoneType") (.ref C_Twice) = some false)
    (fa_i_NoMachine : PySem.W.isClsIn K C_NoMachine = true)
    (fa_se_NoMachine : PySem.W.subIn K (.ref C_NoMachine) (.ref C_NoMachine) = some true)
    (fa_s_NoMachine_NoMachine : PySem.W.subIn K (.ref C_NoMachine) (.ref C_NoMachine) = some true)
    (fa_sn_NoMachine : PySem.W.subIn K (.type "NoneType") (.ref C_NoMachine) = some false)
    (fa_s_NoMachine_ValueError : PySem.W.subIn K (.ref C_NoMachine) (.type "ValueError") = some true) :
    ∃ fd : FuncData, (∀ (s : Shared) (v : Value), BindsTo s fd ⟨[v], []⟩ [("_law_script", v)]) ∧ ∀ base : Heap, K.In base → base.Ns mainGlobals mg → FnOk l.prog w K mg base CX0 9 fa fd ["_law_script"] (sp_law K) :=
  all_mk X G hfa (all_tx X G n_NoMachine n_Goer n_Log n_MillError n_Full n_NoDeed n_NoName n_NoPaper n_NoSize n_NoSuch n_NoText n_Twice n_L_mixed l_L_mixed c_L_mixed k_L_mixed n_L_purse l_L_purse c_L_purse k_L_purse n_L_draw l_L_draw c_L_draw k_L_draw n_L_machine l_L_machine c_L_machine k_L_machine n_L_odd l_L_odd c_L_odd k_L_odd n_is_entry l_is_entry c_is_entry k_is_entry n_is_machine l_is_machine c_is_machine k_is_machine n_must_machine l_must_machine c_must_machine k_must_machine n_Goer_init i_Goer_init l_Goer_init c_Goer_init k_Goer_init n_Goer_entry i_Goer_entry l_Goer_entry c_Goer_entry k_Goer_entry n_Goer_step i_Goer_step l_Goer_step c_Goer_step k_Goer_step n_told_strip l_told_strip c_told_strip k_told_strip n_Goer_setup i_Goer_setup l_Goer_setup c_Goer_setup k_Goer_setup n_parts_from l_parts_from c_parts_from k_parts_from n_met_entries l_met_entries c_met_entries k_met_entries n_visits l_visits c_visits k_visits n_records l_records c_records k_records n_L_met l_L_met c_L_met k_L_met n_stepped l_stepped c_stepped k_stepped n_gone l_gone c_gone k_gone n_run l_run c_run k_run n_setups l_setups c_setups k_setups n_touched l_touched c_touched k_touched n_plain l_plain c_plain k_plain n_Log_init i_Log_init l_Log_init c_Log_init k_Log_init n_Log_last i_Log_last l_Log_last c_Log_last k_Log_last n_Log_same i_Log_same l_Log_same c_Log_same k_Log_same n_ring l_ring c_ring k_ring n_Log_drifts i_Log_drifts l_Log_drifts c_Log_drifts k_Log_drifts n_drift l_drift c_drift k_drift n_told_parts l_told_parts c_told_parts k_told_parts n_ends_of l_ends_of c_ends_of k_ends_of n_ahead_of l_ahead_of c_ahead_of k_ahead_of n_gone_back l_gone_back c_gone_back k_gone_back n_parts_at l_parts_at c_parts_at k_parts_at n_first_empty l_first_empty c_first_empty k_first_empty n_ends_behind l_ends_behind c_ends_behind k_ends_behind n_is_back l_is_back c_is_back k_is_back n_no_back l_no_back c_no_back k_no_back n_is_ring l_is_ring c_is_ring k_is_ring n_is_drift l_is_drift c_is_drift k_is_drift n_shows l_shows c_shows k_shows n_show_entry l_show_entry c_show_entry k_show_entry n_show_machine l_show_machine c_show_machine k_show_machine n_L_asked l_L_asked c_L_asked k_L_asked n_L_caught l_L_caught c_L_caught k_L_caught n_law l_law c_law k_law pg_Goer hd_Goer po_Goer sa_Goer mk_Goer kc_Goer f_Goer_table f_Goer_row f_Goer_spot f_Goer_signs f_Goer_steps pg_Log hd_Log po_Log sa_Log mk_Log kc_Log f_Log_rows f_Log_places f_Log_strips f_Log_has_ended n_MOST_ROWS n_MOST_SIGNS n_MOST_PARTS n_MOST_DEPTH n_ROWS z_range z_len z_abs z_list z_all z_dict z_sorted z_max z_min z_int z_tuple z_str z_isinstance fa_x_NoMachine fa_k_NoMachine fa_b_NoMachine fa_t_NoMachine fa_h_NoMachine fa_k_MillError fa_b_MillError fa_t_MillError fa_h_MillError fa_hg_NoMachine fa_hk_NoMachine fa_ha_NoMachine fa_hm_NoMachine fa_s_NoMachine_MillError fa_hn_ fa_ht_ fa_i_Full fa_se_Full fa_t_Full fa_s_NoMachine_Full fa_sn_Full fa_i_NoDeed fa_se_NoDeed fa_t_NoDeed fa_s_NoMachine_NoDeed fa_sn_NoDeed fa_i_NoName fa_se_NoName fa_t_NoName fa_s_NoMachine_NoName fa_sn_NoName fa_i_NoPaper fa_se_NoPaper fa_t_NoPaper fa_s_NoMachine_NoPaper fa_sn_NoPaper fa_i_NoSize fa_se_NoSize fa_t_NoSize fa_s_NoMachine_NoSize fa_sn_NoSize fa_i_NoSuch fa_se_NoSuch fa_t_NoSuch fa_s_NoMachine_NoSuch fa_sn_NoSuch fa_i_NoText fa_se_NoText fa_t_NoText fa_s_NoMachine_NoText fa_sn_NoText fa_i_Twice fa_se_Twice fa_t_Twice fa_s_NoMachine_Twice fa_sn_Twice fa_i_NoMachine fa_se_NoMachine fa_s_NoMachine_NoMachine fa_sn_NoMachine fa_s_NoMachine_ValueError) ⟨_, _, _, _, _, _, rfl⟩
end E
open PySem PySem.W PyProof.Rows
set_option maxRecDepth 100000 in
set_option maxHeartbeats 0 in
theorem PySem.Challenge.cw_endnever_k06_no_machine_at_every_door_holds : PySem.Challenge.rw_endnever_k06_no_machine_at_every_door.Holds := by
  w_on; o_law; k_head; (case hw => w_witness2)
  k_fill
  refine E.walk (l := PySem.Challenge.rw_endnever_k06_no_machine_at_every_door) rfl rfl (fun w h Y => PySem.W.kIn_of Y) ?F
  case F =>
    intro w mg fa h KX G hmg
    refine' E.all_go KX G hmg ?n_NoMachine ?n_Goer ?n_Log ?n_MillError ?n_Full ?n_NoDeed ?n_NoName ?n_NoPaper ?n_NoSize ?n_NoSuch ?n_NoText ?n_Twice ?n_L_mixed ?l_L_mixed ?c_L_mixed ?k_L_mixed ?n_L_purse ?l_L_purse ?c_L_purse ?k_L_purse ?n_L_draw ?l_L_draw ?c_L_draw ?k_L_draw ?n_L_machine ?l_L_machine ?c_L_machine ?k_L_machine ?n_L_odd ?l_L_odd ?c_L_odd ?k_L_odd ?n_is_entry ?l_is_entry ?c_is_entry ?k_is_entry ?n_is_machine ?l_is_machine ?c_is_machine ?k_is_machine ?n_must_machine ?l_must_machine ?c_must_machine ?k_must_machine ?n_Goer_init ?i_Goer_init ?l_Goer_init ?c_Goer_init ?k_Goer_init ?n_Goer_entry ?i_Goer_entry ?l_Goer_entry ?c_Goer_entry ?k_Goer_entry ?n_Goer_step ?i_Goer_step ?l_Goer_step ?c_Goer_step ?k_Goer_step ?n_told_strip ?l_told_strip ?c_told_strip ?k_told_strip ?n_Goer_setup ?i_Goer_setup ?l_Goer_setup ?c_Goer_setup ?k_Goer_setup ?n_parts_from ?l_parts_from ?c_parts_from ?k_parts_from ?n_met_entries ?l_met_entries ?c_met_entries ?k_met_entries ?n_visits ?l_visits ?c_visits ?k_visits ?n_records ?l_records ?c_records ?k_records ?n_L_met ?l_L_met ?c_L_met ?k_L_met ?n_stepped ?l_stepped ?c_stepped ?k_stepped ?n_gone ?l_gone ?c_gone ?k_gone ?n_run ?l_run ?c_run ?k_run ?n_setups ?l_setups ?c_setups ?k_setups ?n_touched ?l_touched ?c_touched ?k_touched ?n_plain ?l_plain ?c_plain ?k_plain ?n_Log_init ?i_Log_init ?l_Log_init ?c_Log_init ?k_Log_init ?n_Log_last ?i_Log_last ?l_Log_last ?c_Log_last ?k_Log_last ?n_Log_same ?i_Log_same ?l_Log_same ?c_Log_same ?k_Log_same ?n_ring ?l_ring ?c_ring ?k_ring ?n_Log_drifts ?i_Log_drifts ?l_Log_drifts ?c_Log_drifts ?k_Log_drifts ?n_drift ?l_drift ?c_drift ?k_drift ?n_told_parts ?l_told_parts ?c_told_parts ?k_told_parts ?n_ends_of ?l_ends_of ?c_ends_of ?k_ends_of ?n_ahead_of ?l_ahead_of ?c_ahead_of ?k_ahead_of ?n_gone_back ?l_gone_back ?c_gone_back ?k_gone_back ?n_parts_at ?l_parts_at ?c_parts_at ?k_parts_at ?n_first_empty ?l_first_empty ?c_first_empty ?k_first_empty ?n_ends_behind ?l_ends_behind ?c_ends_behind ?k_ends_behind ?n_is_back ?l_is_back ?c_is_back ?k_is_back ?n_no_back ?l_no_back ?c_no_back ?k_no_back ?n_is_ring ?l_is_ring ?c_is_ring ?k_is_ring ?n_is_drift ?l_is_drift ?c_is_drift ?k_is_drift ?n_shows ?l_shows ?c_shows ?k_shows ?n_show_entry ?l_show_entry ?c_show_entry ?k_show_entry ?n_show_machine ?l_show_machine ?c_show_machine ?k_show_machine ?n_L_asked ?l_L_asked ?c_L_asked ?k_L_asked ?n_L_caught ?l_L_caught ?c_L_caught ?k_L_caught ?n_law ?l_law ?c_law ?k_law ?pg_Goer ?hd_Goer ?po_Goer ?sa_Goer ?mk_Goer ?kc_Goer ?f_Goer_table ?f_Goer_row ?f_Goer_spot ?f_Goer_signs ?f_Goer_steps ?pg_Log ?hd_Log ?po_Log ?sa_Log ?mk_Log ?kc_Log ?f_Log_rows ?f_Log_places ?f_Log_strips ?f_Log_has_ended ?n_MOST_ROWS ?n_MOST_SIGNS ?n_MOST_PARTS ?n_MOST_DEPTH ?n_ROWS ?z_range ?z_len ?z_abs ?z_list ?z_all ?z_dict ?z_sorted ?z_max ?z_min ?z_int ?z_tuple ?z_str ?z_isinstance ?fa_x_NoMachine ?fa_k_NoMachine ?fa_b_NoMachine ?fa_t_NoMachine ?fa_h_NoMachine ?fa_k_MillError ?fa_b_MillError ?fa_t_MillError ?fa_h_MillError ?fa_hg_NoMachine ?fa_hk_NoMachine ?fa_ha_NoMachine ?fa_hm_NoMachine ?fa_s_NoMachine_MillError ?fa_hn_ ?fa_ht_ ?fa_i_Full ?fa_se_Full ?fa_t_Full ?fa_s_NoMachine_Full ?fa_sn_Full ?fa_i_NoDeed ?fa_se_NoDeed ?fa_t_NoDeed ?fa_s_NoMachine_NoDeed ?fa_sn_NoDeed ?fa_i_NoName ?fa_se_NoName ?fa_t_NoName ?fa_s_NoMachine_NoName ?fa_sn_NoName ?fa_i_NoPaper ?fa_se_NoPaper ?fa_t_NoPaper ?fa_s_NoMachine_NoPaper ?fa_sn_NoPaper ?fa_i_NoSize ?fa_se_NoSize ?fa_t_NoSize ?fa_s_NoMachine_NoSize ?fa_sn_NoSize ?fa_i_NoSuch ?fa_se_NoSuch ?fa_t_NoSuch ?fa_s_NoMachine_NoSuch ?fa_sn_NoSuch ?fa_i_NoText ?fa_se_NoText ?fa_t_NoText ?fa_s_NoMachine_NoText ?fa_sn_NoText ?fa_i_Twice ?fa_se_Twice ?fa_t_Twice ?fa_s_NoMachine_Twice ?fa_sn_Twice ?fa_i_NoMachine ?fa_se_NoMachine ?fa_s_NoMachine_NoMachine ?fa_sn_NoMachine ?fa_s_NoMachine_ValueError
    (case n_NoMachine => k_is); (case n_Goer => k_is); (case n_Log => k_is); (case n_MillError => k_is); (case n_Full => k_is); (case n_NoDeed => k_is); (case n_NoName => k_is); (case n_NoPaper => k_is)
    (case n_NoSize => k_is); (case n_NoSuch => k_is); (case n_NoText => k_is); (case n_Twice => k_is); (case n_L_mixed => k_is); (case l_L_mixed => k_is); (case c_L_mixed => k_is); (case k_L_mixed => k_is)
    (case n_L_purse => k_is); (case l_L_purse => k_is); (case c_L_purse => k_is); (case k_L_purse => k_is); (case n_L_draw => k_is); (case l_L_draw => k_is); (case c_L_draw => k_is); (case k_L_draw => k_is)
    (case n_L_machine => k_is); (case l_L_machine => k_is); (case c_L_machine => k_is); (case k_L_machine => k_is); (case n_L_odd => k_is); (case l_L_odd => k_is); (case c_L_odd => k_is); (case k_L_odd => k_is)
    (case n_is_entry => k_is); (case l_is_entry => k_is); (case c_is_entry => k_is); (case k_is_entry => k_is); (case n_is_machine => k_is); (case l_is_machine => k_is); (case c_is_machine => k_is); (case k_is_machine => k_is)
    (case n_must_machine => k_is); (case l_must_machine => k_is); (case c_must_machine => k_is); (case k_must_machine => k_is); (case n_Goer_init => k_is); (case i_Goer_init => k_is); (case l_Goer_init => k_is); (case c_Goer_init => k_is)
    (case k_Goer_init => k_is); (case n_Goer_entry => k_is); (case i_Goer_entry => k_is); (case l_Goer_entry => k_is); (case c_Goer_entry => k_is); (case k_Goer_entry => k_is); (case n_Goer_step => k_is); (case i_Goer_step => k_is)
    (case l_Goer_step => k_is); (case c_Goer_step => k_is); (case k_Goer_step => k_is); (case n_told_strip => k_is); (case l_told_strip => k_is); (case c_told_strip => k_is); (case k_told_strip => k_is); (case n_Goer_setup => k_is)
    (case i_Goer_setup => k_is); (case l_Goer_setup => k_is); (case c_Goer_setup => k_is); (case k_Goer_setup => k_is); (case n_parts_from => k_is); (case l_parts_from => k_is); (case c_parts_from => k_is); (case k_parts_from => k_is)
    (case n_met_entries => k_is); (case l_met_entries => k_is); (case c_met_entries => k_is); (case k_met_entries => k_is); (case n_visits => k_is); (case l_visits => k_is); (case c_visits => k_is); (case k_visits => k_is)
    (case n_records => k_is); (case l_records => k_is); (case c_records => k_is); (case k_records => k_is); (case n_L_met => k_is); (case l_L_met => k_is); (case c_L_met => k_is); (case k_L_met => k_is)
    (case n_stepped => k_is); (case l_stepped => k_is); (case c_stepped => k_is); (case k_stepped => k_is); (case n_gone => k_is); (case l_gone => k_is); (case c_gone => k_is); (case k_gone => k_is)
    (case n_run => k_is); (case l_run => k_is); (case c_run => k_is); (case k_run => k_is); (case n_setups => k_is); (case l_setups => k_is); (case c_setups => k_is); (case k_setups => k_is)
    (case n_touched => k_is); (case l_touched => k_is); (case c_touched => k_is); (case k_touched => k_is); (case n_plain => k_is); (case l_plain => k_is); (case c_plain => k_is); (case k_plain => k_is)
    (case n_Log_init => k_is); (case i_Log_init => k_is); (case l_Log_init => k_is); (case c_Log_init => k_is); (case k_Log_init => k_is); (case n_Log_last => k_is); (case i_Log_last => k_is); (case l_Log_last => k_is)
    (case c_Log_last => k_is); (case k_Log_last => k_is); (case n_Log_same => k_is); (case i_Log_same => k_is); (case l_Log_same => k_is); (case c_Log_same => k_is); (case k_Log_same => k_is); (case n_ring => k_is)
    (case l_ring => k_is); (case c_ring => k_is); (case k_ring => k_is); (case n_Log_drifts => k_is); (case i_Log_drifts => k_is); (case l_Log_drifts => k_is); (case c_Log_drifts => k_is); (case k_Log_drifts => k_is)
    (case n_drift => k_is); (case l_drift => k_is); (case c_drift => k_is); (case k_drift => k_is); (case n_told_parts => k_is); (case l_told_parts => k_is); (case c_told_parts => k_is); (case k_told_parts => k_is)
    (case n_ends_of => k_is); (case l_ends_of => k_is); (case c_ends_of => k_is); (case k_ends_of => k_is); (case n_ahead_of => k_is); (case l_ahead_of => k_is); (case c_ahead_of => k_is); (case k_ahead_of => k_is)
    (case n_gone_back => k_is); (case l_gone_back => k_is); (case c_gone_back => k_is); (case k_gone_back => k_is); (case n_parts_at => k_is); (case l_parts_at => k_is); (case c_parts_at => k_is); (case k_parts_at => k_is)
    (case n_first_empty => k_is); (case l_first_empty => k_is); (case c_first_empty => k_is); (case k_first_empty => k_is); (case n_ends_behind => k_is); (case l_ends_behind => k_is); (case c_ends_behind => k_is); (case k_ends_behind => k_is)
    (case n_is_back => k_is); (case l_is_back => k_is); (case c_is_back => k_is); (case k_is_back => k_is); (case n_no_back => k_is); (case l_no_back => k_is); (case c_no_back => k_is); (case k_no_back => k_is)
    (case n_is_ring => k_is); (case l_is_ring => k_is); (case c_is_ring => k_is); (case k_is_ring => k_is); (case n_is_drift => k_is); (case l_is_drift => k_is); (case c_is_drift => k_is); (case k_is_drift => k_is)
    (case n_shows => k_is); (case l_shows => k_is); (case c_shows => k_is); (case k_shows => k_is); (case n_show_entry => k_is); (case l_show_entry => k_is); (case c_show_entry => k_is); (case k_show_entry => k_is)
    (case n_show_machine => k_is); (case l_show_machine => k_is); (case c_show_machine => k_is); (case k_show_machine => k_is); (case n_L_asked => k_is); (case l_L_asked => k_is); (case c_L_asked => k_is); (case k_L_asked => k_is)
    (case n_L_caught => k_is); (case l_L_caught => k_is); (case c_L_caught => k_is); (case k_L_caught => k_is); (case n_law => k_is); (case l_law => k_is); (case c_law => k_is); (case k_law => k_is)
    (case pg_Goer => k_is); (case hd_Goer => k_is); (case po_Goer => k_is); (case sa_Goer => k_is); (case mk_Goer => k_is); (case kc_Goer => k_is); (case f_Goer_table => k_is); (case f_Goer_row => k_is)
    (case f_Goer_spot => k_is); (case f_Goer_signs => k_is); (case f_Goer_steps => k_is); (case pg_Log => k_is); (case hd_Log => k_is); (case po_Log => k_is); (case sa_Log => k_is); (case mk_Log => k_is)
    (case kc_Log => k_is); (case f_Log_rows => k_is); (case f_Log_places => k_is); (case f_Log_strips => k_is); (case f_Log_has_ended => k_is); (case n_MOST_ROWS => k_is); (case n_MOST_SIGNS => k_is); (case n_MOST_PARTS => k_is)
    (case n_MOST_DEPTH => k_is); (case n_ROWS => k_is); (case z_range => k_is); (case z_len => k_is); (case z_abs => k_is); (case z_list => k_is); (case z_all => k_is); (case z_dict => k_is)
    (case z_sorted => k_is); (case z_max => k_is); (case z_min => k_is); (case z_int => k_is); (case z_tuple => k_is); (case z_str => k_is); (case z_isinstance => k_is); (case fa_x_NoMachine => k_exc)
    (case fa_k_NoMachine => k_is); (case fa_b_NoMachine => k_is); (case fa_t_NoMachine => k_is); (case fa_h_NoMachine => k_is); (case fa_k_MillError => k_is); (case fa_b_MillError => k_is); (case fa_t_MillError => k_is); (case fa_h_MillError => k_is)
    (case fa_hg_NoMachine => k_is); (case fa_hk_NoMachine => k_is); (case fa_ha_NoMachine => k_is); (case fa_hm_NoMachine => k_is); (case fa_s_NoMachine_MillError => first | rfl | k_is); (case fa_hn_ => k_is); (case fa_ht_ => k_is); (case fa_i_Full => k_is)
    (case fa_se_Full => first | rfl | k_is); (case fa_t_Full => k_is); (case fa_s_NoMachine_Full => first | rfl | k_is); (case fa_sn_Full => k_is); (case fa_i_NoDeed => k_is); (case fa_se_NoDeed => first | rfl | k_is); (case fa_t_NoDeed => k_is); (case fa_s_NoMachine_NoDeed => first | rfl | k_is)
    (case fa_sn_NoDeed => k_is); (case fa_i_NoName => k_is); (case fa_se_NoName => first | rfl | k_is); (case fa_t_NoName => k_is); (case fa_s_NoMachine_NoName => first | rfl | k_is); (case fa_sn_NoName => k_is); (case fa_i_NoPaper => k_is); (case fa_se_NoPaper => first | rfl | k_is)
    (case fa_t_NoPaper => k_is); (case fa_s_NoMachine_NoPaper => first | rfl | k_is); (case fa_sn_NoPaper => k_is); (case fa_i_NoSize => k_is); (case fa_se_NoSize => first | rfl | k_is); (case fa_t_NoSize => k_is); (case fa_s_NoMachine_NoSize => first | rfl | k_is); (case fa_sn_NoSize => k_is)
    (case fa_i_NoSuch => k_is); (case fa_se_NoSuch => first | rfl | k_is); (case fa_t_NoSuch => k_is); (case fa_s_NoMachine_NoSuch => first | rfl | k_is); (case fa_sn_NoSuch => k_is); (case fa_i_NoText => k_is); (case fa_se_NoText => first | rfl | k_is); (case fa_t_NoText => k_is)
    (case fa_s_NoMachine_NoText => first | rfl | k_is); (case fa_sn_NoText => k_is); (case fa_i_Twice => k_is); (case fa_se_Twice => first | rfl | k_is); (case fa_t_Twice => k_is); (case fa_s_NoMachine_Twice => first | rfl | k_is); (case fa_sn_Twice => k_is); (case fa_i_NoMachine => k_is)
    (case fa_se_NoMachine => first | rfl | k_is); (case fa_s_NoMachine_NoMachine => first | rfl | k_is); (case fa_sn_NoMachine => k_is); (case fa_s_NoMachine_ValueError => k_is)
#print axioms PySem.Challenge.cw_endnever_k06_no_machine_at_every_door_holds
