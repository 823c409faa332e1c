import PyProof.Rows.All
import Wide.All
import OpenK.AllK
import Wide.FinOn
import HandS.ForMost
import HandS.SortRule
import HandS.IsInst
import HandS.TupAny
import HandS.TupMul
import HandS.Walk
import HandS.More
import HandS.ListItems
import HandS.Wide
import KE.KTupSum
import HandS.Style
import HandS.Exc
import HandS.ExcOwn
import HandS.ExcIs
import HandS.WordsExc
import HandS.TryOnly
import KE.KIsAll
import HandS.SetFor
import HandS.Deep
import HandS.NoneIn
import HandS.Codes
import HandS.Replace
import KE.GoesRaise
import KE.KAsSuite
import PySem.Challenge.RW_endnever_k12_machines_read
set_option Elab.async false
set_option maxRecDepth 100000
set_option maxHeartbeats 4000000
namespace E
open PySem L2
/-! ### small words of our own -/
theorem inr_int {x : V} {ns : List Int} {i : Nat} (h : (ns.map V.int)[i]? = some x) : ∃ z, x = V.int z ∧ ns[i]? = some z := by
  rw [List.getElem?_map] at h
  cases e : ns[i]? with
  | none => rw [e] at h; cases h
  | some z => rw [e] at h; exact ⟨z, (Option.some.inj h).symm, rfl⟩
/-- F stands in H, whatever comes to it -/
theorem sm_new {F H : Hp} {p : Addr} {o : HO} (s : Same F H) (n : H p = Option.none) : Same F (upd H p o) := fun b u e => by
  rw [upd_ne (ne_of_none (s b u e) n)]
  exact s b u e
theorem sm_set {F H : Hp} {p : Addr} {o : HO} (s : Same F H) (n : F p = Option.none) : Same F (upd H p o) := fun b u e => by
  rw [upd_ne (ne_of_none e n)]
  exact s b u e
theorem sm_up {H : Hp} {p : Addr} {o : HO} (n : H p = none) : Same H (upd H p o) := sm_new (Same.refl H) n
theorem cut_63 {ns : List Int} (h : ns.length ≤ 63) : cutV (ns.map V.int) none (some 63) = ns.map V.int := by
  unfold cutV
  have e1 : HT.sIx (ns.map V.int).length 0 none = 0 := rfl
  have e2 : HT.sIx (ns.map V.int).length (ns.map V.int).length (some 63) = (ns.map V.int).length := by
    simp only [HT.sIx, List.length_map]
    rw [if_neg (by decide), show (63 : Int).toNat = 63 from rfl]
    omega
  rw [e1, e2, List.drop_zero, Nat.sub_zero, List.take_length]
theorem ifT {c : Bool} {A B : Prop} (h : c = true) (a : A) : if c = true then A else B := by
  rw [if_pos h]; exact a
theorem ifF {c : Bool} {A B : Prop} (h : c = false) (b : B) : if c = true then A else B := by
  rw [h, if_neg Bool.false_ne_true]; exact b
theorem one_le : 1 ≤ sizeLine := by decide
theorem two_le : 2 ≤ sizeLine := by decide
theorem three_le : 3 ≤ sizeLine := by decide
theorem five_le : 5 ≤ sizeLine := by decide
theorem nil_le : 0 ≤ sizeLine := by decide
theorem lt_size {n : Nat} (h : n ≤ 1000000) : n < sizeLine := Nat.lt_of_le_of_lt h (by decide)
theorem le_size {n : Nat} (h : n ≤ 1000000) : n ≤ sizeLine := Nat.le_of_lt (lt_size h)
theorem pi_listK {X : Cx} {K : PySem.W.Frag} {tg l : Expr} {tl : TE} (e : X.K = K) (h : PE X l tl) : PI X tg l (iList K tl) := by
  subst e; exact pi_list h
theorem pi_tupK {X : Cx} {K : PySem.W.Frag} {tg l : Expr} {tl : TE} (e : X.K = K) (h : PE X l tl) : PI X tg l (iTup K tl) := by
  subst e; exact pi_tup h
theorem crK {X : Cx} {K : PySem.W.Frag} {f : Value} {r : PySem.W.Frag → List V → Hp → VK → Prop} (e : X.K = K) (h : CallR X f (r X.K)) : CallR X f (r K) := by
  subst e; exact h
theorem orK {X : Cx} {K : PySem.W.Frag} {f : Value → Value → Sem Value} {r : PySem.W.Frag → R2} (e : X.K = K) (h : OpR X f (r X.K)) : OpR X f (r K) := by
  subst e; exact h
theorem ixK {X : Cx} {K : PySem.W.Frag} {r : PySem.W.Frag → R2} (e : X.K = K) (h : IxR X (r X.K)) : IxR X (r K) := by
  subst e; exact h
theorem slK {X : Cx} {K : PySem.W.Frag} {r : PySem.W.Frag → V → Option Int → Option Int → Hp → VK → Prop} (e : X.K = K) (h : SlR X (r X.K)) : SlR X (r K) := by
  subst e; exact h
def rLenQ (K : PySem.W.Frag) : List V → Hp → VK → Prop := fun xs H Q => ∃ p ys, xs = [.ref p] ∧ (SqL K H p ys ∨ SqT K H p ys) ∧ Q (.int ys.length) H
def rListQ (K : PySem.W.Frag) : List V → Hp → VK → Prop := fun xs H Q => ∃ p ys, xs = [.ref p] ∧ (SqL K H p ys ∨ SqT K H p ys) ∧ ∀ l, H l = none → Q (.ref l) (upd H l (.lst ys))
def rTupQ (K : PySem.W.Frag) : List V → Hp → VK → Prop := fun xs H Q => ∃ p ys, xs = [.ref p] ∧ ((SqL K H p ys ∧ ∀ l, H l = none → Q (.ref l) (upd H l (.tup ys))) ∨ (SqT K H p ys ∧ Q (.ref p) H))
theorem ne_of_none' {F H : Hp} {q : Addr} (s : Same F H) (n : H q = none) : F q = none := s.free n
/-- a comprehension without a test: its item comes in -/
theorem yes {σ : St} {H : Hp} {A : Hp → Prop} {B : Hp → Prop} (a : A H) : tYes σ H (fun b H3 => if b = true then A H3 else B H3) := by
  show if true = true then A H else B H
  rw [if_pos rfl]; exact a
theorem call_lenQ {X : Cx} : CallR X (.builtin "len") (rLenQ X.K) := call_len_seq
theorem call_listQ {X : Cx} : CallR X (.type "list") (rListQ X.K) := call_list_of
theorem call_tupQ {X : Cx} : CallR X (.type "tuple") (rTupQ X.K) := call_tuple_of
@[irreducible] def rDictP (K : PySem.W.Frag) : List V → Hp → VK → Prop := fun xs H Q => ∃ (a : Addr) (ps : List Addr) (kvs : List (Key × V)), xs = [.ref a] ∧ SqL K H a (ps.map V.ref) ∧ Paired (fun p kv => SqT K H p [kV kv.1, kv.2]) ps kvs ∧ ∀ p, H p = none → Q (.ref p) (upd H p (.dK (mergeK [] kvs)))
theorem call_dictQ {X : Cx} (hc : X.calm = true) : CallR X (.type "dict") (rDictP X.K) := by
  unfold rDictP
  exact call_dictP hc
@[irreducible] def rSortQ (K : PySem.W.Frag) : List V → Hp → VK → Prop := rSortedPO K
theorem call_sortQ {X : Cx} : CallR X (.builtin "sorted") (rSortQ X.K) := by
  unfold rSortQ
  exact cr_sortedPO
theorem pg_tupK {X : Cx} {K : PySem.W.Frag} {es : List Expr} {k n : Nat} {t : TGs} {pos : Pos} (e : X.K = K) (hc : X.calm = true) (h : PGs X es t) (hn : (assignEach es X.env).length = n := by rfl) (hst : (assignEach es X.env).findIdx? (·.1) = none := by rfl) : PG X (.Tuple es k pos) (gTup K n t) := by
  subst e; exact pg_tup hc h hn hst
theorem pe_fldK {X : Cx} {K : PySem.W.Frag} {e : Expr} {f : Str} {pos : Pos} {ta : TE} (ek : X.K = K) (he : PE X e ta) (hb : attributeBase e f X.env (eval e X.env) = eval e X.env) : PE X (.Attribute e f pos) (tFld K ta f) := by
  subst ek; exact pe_fld he hb
/-! ### what stands, what is new: F the frozen part (nobody changes it), H the heap; from F, H to F', H' with changes at mu alone -/
structure Gr (mu : Addr → Prop) (F H F' H' : Hp) : Prop where
  ff : Same F F'
  fh : Same F' H'
  nw : ∀ c o, F' c = some o → F c = some o ∨ H c = none
  fr : ∀ c o, H c = some o → ¬ mu c → H' c = some o
  th : ∀ c, H' c = none → H c = none
/-- nothing but new things -/
abbrev mu0 : Addr → Prop := fun _ => False
/-- the purse alone -/
abbrev muP (p : Addr) : Addr → Prop := fun c => c = p
section
variable {mu : Addr → Prop} {F H F1 H1 F2 H2 : Hp} {q : Addr} {o u : HO}
theorem Gr.refl (s : Same F H) : Gr mu F H F H := ⟨fun _ _ h => h, s, fun _ _ h => .inl h, fun _ _ h _ => h, fun _ h => h⟩
theorem Gr.trans (a : Gr mu F H F1 H1) (b : Gr mu F1 H1 F2 H2) : Gr mu F H F2 H2 where
  ff := fun c o h => b.ff c o (a.ff c o h)
  fh := b.fh
  nw := fun c o h => by
    rcases b.nw c o h with h | h
    · exact a.nw c o h
    · exact .inr (a.th c h)
  fr := fun c o h m => b.fr c o (a.fr c o h m) m
  th := fun c h => a.th c (b.th c h)
/-- a part that changes what is ours, or what mu has -/
theorem Gr.thn {mu' : Addr → Prop} (a : Gr mu F H F1 H1) (b : Gr mu' F1 H1 F2 H2) (k : ∀ c, mu' c → mu c ∨ H c = none) : Gr mu F H F2 H2 where
  ff := fun c o h => b.ff c o (a.ff c o h)
  fh := b.fh
  nw := fun c o h => by
    rcases b.nw c o h with h | h
    · exact a.nw c o h
    · exact .inr (a.th c h)
  fr := fun c o h m => b.fr c o (a.fr c o h m) fun z => (k c z).elim m fun n => by rw [n] at h; cases h
  th := fun c h => a.th c (b.th c h)
theorem Gr.weak {mu' : Addr → Prop} (a : Gr mu F H F1 H1) (m : ∀ c, mu c → mu' c) : Gr mu' F H F1 H1 :=
  ⟨a.ff, a.fh, a.nw, fun c o h n => a.fr c o h fun z => n (m c z), a.th⟩
theorem Gr.of0 (a : Gr mu0 F H F1 H1) : Gr mu F H F1 H1 := a.weak fun _ z => z.elim
/-- a new thing that nobody will change -/
theorem Gr.new (a : Gr mu F H F1 H1) (n : H1 q = none) : Gr mu F H (upd F1 q o) (upd H1 q o) where
  ff := fun c o h => by
    rw [upd_ne (ne_of_none (a.fh c o (a.ff c o h)) n)]
    exact a.ff c o h
  fh := fun c u h => by
    by_cases e : c = q
    · subst e; rw [upd_same] at h ⊢; exact h
    · rw [upd_ne e] at h ⊢; exact a.fh c u h
  nw := fun c u h => by
    by_cases e : c = q
    · subst e; exact .inr (a.th _ n)
    · rw [upd_ne e] at h; exact a.nw c u h
  fr := fun c u h m => by
    rw [upd_ne (ne_of_none (a.fr c u h m) n)]
    exact a.fr c u h m
  th := fun c h => by
    by_cases e : c = q
    · subst e; rw [upd_same] at h; cases h
    · rw [upd_ne e] at h; exact a.th c h
/-- a new thing that may be changed yet -/
theorem Gr.own (a : Gr mu F H F1 H1) (n : H1 q = none) : Gr mu F H F1 (upd H1 q o) where
  ff := a.ff
  fh := fun c u h => by
    rw [upd_ne (ne_of_none (a.fh c u h) n)]
    exact a.fh c u h
  nw := a.nw
  fr := fun c u h m => by
    rw [upd_ne (ne_of_none (a.fr c u h m) n)]
    exact a.fr c u h m
  th := fun c h => by
    by_cases e : c = q
    · subst e; rw [upd_same] at h; cases h
    · rw [upd_ne e] at h; exact a.th c h
/-- a change of what is ours, and not frozen -/
theorem Gr.set (a : Gr mu F H F1 H1) (f : F1 q = none) (m : H q = none ∨ mu q) : Gr mu F H F1 (upd H1 q o) where
  ff := a.ff
  fh := fun c u h => by
    rw [upd_ne (ne_of_none h f)]
    exact a.fh c u h
  nw := a.nw
  fr := fun c u h k => by
    have e : c ≠ q := by
      rintro rfl
      rcases m with m | m
      · rw [m] at h; cases h
      · exact k m
    rw [upd_ne e]
    exact a.fr c u h k
  th := fun c h => by
    by_cases e : c = q
    · subst e; rw [upd_same] at h; cases h
    · rw [upd_ne e] at h; exact a.th c h
/-- what was ours is changed no more -/
theorem Gr.frz (a : Gr mu F H F1 H1) (h : H1 q = some o) (n : H q = none) (f : F1 q = none) : Gr mu F H (upd F1 q o) H1 where
  ff := fun c u e => by
    rw [upd_ne (ne_of_none (a.ff c u e) f)]
    exact a.ff c u e
  fh := fun c u e => by
    by_cases k : c = q
    · subst k; rw [upd_same] at e; cases e; exact h
    · rw [upd_ne k] at e; exact a.fh c u e
  nw := fun c u e => by
    by_cases k : c = q
    · subst k; exact .inr n
    · rw [upd_ne k] at e; exact a.nw c u e
  fr := a.fr
  th := a.th
theorem Gr.free (a : Gr mu F H F1 H1) (n : H1 q = none) : F1 q = none := a.fh.free n
end
/-- an owned thing: new since H, not frozen, it is o now -/
structure Ow (H F H1 : Hp) (q : Addr) (o : HO) : Prop where
  n : H q = none
  f : F q = none
  h : H1 q = some o
section
variable {mu mu' : Addr → Prop} {H0 F H F1 H1 : Hp} {q r : Addr} {o u : HO}
theorem Ow.call (w : Ow H0 F H q o) (a : Gr mu F H F1 H1) (m : ¬ mu q) : Ow H0 F1 H1 q o :=
  ⟨w.n, (by
    cases e : F1 q with
    | none => rfl
    | some z =>
      rcases a.nw q z e with k | k
      · rw [w.f] at k; cases k
      · rw [w.h] at k; cases k), a.fr q o w.h m⟩
theorem Ow.ne (w : Ow H0 F H q o) (n : H r = none) : q ≠ r := ne_of_none w.h n
theorem Ow.new (w : Ow H0 F H q o) (n : H r = none) : Ow H0 (upd F r u) (upd H r u) q o :=
  ⟨w.n, by rw [upd_ne (w.ne n)]; exact w.f, by rw [upd_ne (w.ne n)]; exact w.h⟩
theorem Ow.own (w : Ow H0 F H q o) (n : H r = none) : Ow H0 F (upd H r u) q o :=
  ⟨w.n, w.f, by rw [upd_ne (w.ne n)]; exact w.h⟩
theorem Ow.mk1 (a : Gr mu H0' H0 F H) (n : H q = none) : Ow H0 F (upd H q o) q o := ⟨a.th q n, a.free n, upd_same⟩
theorem Ow.set (w : Ow H0 F H q o) : Ow H0 F (upd H q u) q u := ⟨w.n, w.f, upd_same⟩
theorem Ow.other (w : Ow H0 F H q o) (e : q ≠ r) : Ow H0 F (upd H r u) q o := ⟨w.n, w.f, by rw [upd_ne e]; exact w.h⟩
end
/-! ### what stands for a datum -/
def All2 {α β : Type} (r : α → β → Prop) (xs : List α) (ys : List β) : Prop := xs.length = ys.length ∧ ∀ (i : Nat) (x : α) (y : β), xs[i]? = some x → ys[i]? = some y → r x y
section
variable {α β : Type} {r s : α → β → Prop} {xs xs' : List α} {ys ys' : List β}
theorem All2.nil : All2 r [] [] := ⟨rfl, fun i x y h => by simp at h⟩
theorem All2.get (a : All2 r xs ys) {i : Nat} {y : β} (h : ys[i]? = some y) : ∃ x, xs[i]? = some x ∧ r x y := by
  have l := (List.getElem?_eq_some_iff.mp h).1
  have l' : i < xs.length := by rw [a.1]; exact l
  exact ⟨xs[i], List.getElem?_eq_getElem l', a.2 i _ y (List.getElem?_eq_getElem l') h⟩
theorem All2.get' (a : All2 r xs ys) {i : Nat} {x : α} (h : xs[i]? = some x) : ∃ y, ys[i]? = some y ∧ r x y := by
  have l := (List.getElem?_eq_some_iff.mp h).1
  have l' : i < ys.length := by rw [← a.1]; exact l
  exact ⟨ys[i], List.getElem?_eq_getElem l', a.2 i x _ h (List.getElem?_eq_getElem l')⟩
theorem All2.imp (a : All2 r xs ys) (f : ∀ x y, r x y → s x y) : All2 s xs ys := ⟨a.1, fun i x y h k => f x y (a.2 i x y h k)⟩
theorem All2.app (a : All2 r xs ys) (b : All2 r xs' ys') : All2 r (xs ++ xs') (ys ++ ys') := by
  refine ⟨by rw [List.length_append, List.length_append, a.1, b.1], fun i x y h k => ?_⟩
  by_cases l : i < xs.length
  · rw [List.getElem?_append_left l] at h
    rw [List.getElem?_append_left (by rw [← a.1]; exact l)] at k
    exact a.2 i x y h k
  · rw [List.getElem?_append_right (by omega)] at h
    rw [List.getElem?_append_right (by rw [← a.1]; omega), ← a.1] at k
    exact b.2 _ x y h k
theorem All2.one {x : α} {y : β} (h : r x y) : All2 r [x] [y] := ⟨rfl, fun i a b p q => by
  cases i with
  | zero => simp at p q; subst p; subst q; exact h
  | succ n => simp at p⟩
theorem All2.cons {x : α} {y : β} (h : r x y) (a : All2 r xs ys) : All2 r (x :: xs) (y :: ys) := (All2.one h).app a
theorem All2.set (a : All2 r xs ys) {x : α} {y : β} (h : r x y) (j : Nat) : All2 r (xs.set j x) (ys.set j y) := by
  refine ⟨by rw [List.length_set, List.length_set]; exact a.1, fun i u v p q => ?_⟩
  by_cases e : j = i
  · subst e
    rw [List.getElem?_set_self'] at p q
    cases e1 : xs[j]? with
    | none => rw [e1] at p; cases p
    | some z =>
      cases e2 : ys[j]? with
      | none => rw [e2] at q; cases q
      | some z2 =>
        rw [e1] at p; rw [e2] at q
        cases p; cases q
        exact h
  · rw [List.getElem?_set_ne e] at p q
    exact a.2 i u v p q
theorem All2.take (a : All2 r xs ys) (n : Nat) : All2 r (xs.take n) (ys.take n) := by
  refine ⟨by rw [List.length_take, List.length_take, a.1], fun i u v p q => ?_⟩
  rw [List.getElem?_take] at p q
  split at p
  · rw [if_pos (by assumption)] at q; exact a.2 i u v p q
  · cases p
theorem All2.drop (a : All2 r xs ys) (n : Nat) : All2 r (xs.drop n) (ys.drop n) := by
  refine ⟨by rw [List.length_drop, List.length_drop, a.1], fun i u v p q => ?_⟩
  rw [List.getElem?_drop] at p q
  exact a.2 _ u v p q
end
class Dat (α : Type) where
  rep : Hp → V → α → Prop
  mono : ∀ {H H' : Hp} {v : V} {d : α}, Same H H' → rep H v d → rep H' v d
  py : α → PyData
  dp : ∀ {K : PySem.W.Frag} {H : Hp} {v : V} {d : α}, rep H v d → Dp K H v (py d)
  can : ∀ d, (py d).canLay0 = true
  dep : Nat
  depth : ∀ d, (py d).depth ≤ dep
  eqv : ∀ a b, PyData.eqv (py a) (py b) = true ↔ a = b
section
variable {α β γ : Type}
/-- v stands for d in H -/
abbrev Is [Dat α] (H : Hp) (v : V) (d : α) : Prop := Dat.rep H v d
theorem Is.up [Dat α] {H H' : Hp} {v : V} {d : α} (h : Is H v d) (s : Same H H') : Is H' v d := Dat.mono s h
abbrev IsAll [Dat α] (H : Hp) (xs : List V) (ds : List α) : Prop := All2 (fun v d => Is H v d) xs ds
theorem IsAll.up [Dat α] {H H' : Hp} {xs : List V} {ds : List α} (h : IsAll H xs ds) (s : Same H H') : IsAll H' xs ds := h.imp fun _ _ z => Is.up z s
theorem dp_all [Dat α] {K : PySem.W.Frag} {H : Hp} : ∀ {xs : List V} {ds : List α}, IsAll H xs ds → DpAll K H xs (ds.map Dat.py)
  | [], [], _ => .nil
  | [], d :: ds, h => by have := h.1; simp at this
  | x :: xs, [], h => by have := h.1; simp at this
  | x :: xs, d :: ds, h => .cons (Dat.dp (h.2 0 x d rfl rfl)) (dp_all ⟨by have := h.1; simpa using this, fun i a b p q => h.2 (i + 1) a b (by simpa using p) (by simpa using q)⟩)
theorem can_all [Dat α] : ∀ ds : List α, PyData.canLayAll0 (ds.map Dat.py) = true
  | [] => rfl
  | d :: ds => by
    show (PyData.canLay0 (Dat.py d) && PyData.canLayAll0 (ds.map Dat.py)) = true
    rw [Dat.can, can_all ds]; rfl
theorem depth_all [Dat α] : ∀ ds : List α, PyData.depthAll (ds.map Dat.py) ≤ Dat.dep α
  | [] => Nat.zero_le _
  | d :: ds => by
    show max (PyData.depth (Dat.py d)) (PyData.depthAll (ds.map Dat.py)) ≤ _
    exact Nat.max_le.mpr ⟨Dat.depth d, depth_all ds⟩
theorem eqv_all [Dat α] : ∀ a b : List α, PyData.eqvAll (a.map Dat.py) (b.map Dat.py) = true ↔ a = b
  | [], [] => by simp [PyData.eqvAll]
  | [], _ :: _ => by simp [PyData.eqvAll]
  | _ :: _, [] => by simp [PyData.eqvAll]
  | x :: xs, y :: ys => by
    rw [List.map_cons, List.map_cons, PyData.eqvAll, Bool.and_eq_true, Dat.eqv, eqv_all xs ys, List.cons.injEq]
instance : Dat Int where
  rep := fun _ v i => v = .int i
  mono := fun _ h => h
  py := .int
  dp := fun h => h ▸ .int _
  can := fun _ => rfl
  dep := 0
  depth := fun _ => Nat.le_refl _
  eqv := fun a b => by simp [PyData.eqv]
instance : Dat Bool where
  rep := fun _ v i => v = .bl i
  mono := fun _ h => h
  py := .bool
  dp := fun h => h ▸ .bl _
  can := fun _ => rfl
  dep := 0
  depth := fun _ => Nat.le_refl _
  eqv := fun a b => by simp [PyData.eqv]
/-- a list of data -/
instance [Dat α] : Dat (List α) where
  rep := fun H v l => ∃ a xs, v = .ref a ∧ H a = some (.lst xs) ∧ IsAll H xs l
  mono := fun s h => by
    obtain ⟨a, xs, e, h, i⟩ := h
    exact ⟨a, xs, e, s _ _ h, IsAll.up i s⟩
  py := fun l => .list (l.map Dat.py)
  dp := fun h => by
    obtain ⟨a, xs, rfl, h, i⟩ := h
    exact .lst (SqL.of h) (dp_all i)
  can := fun d => can_all d
  dep := Dat.dep α + 1
  depth := fun d => Nat.succ_le_succ (depth_all d)
  eqv := fun a b => by rw [PyData.eqv]; exact eqv_all a b
/-- a tuple of data of one kind -/
structure Tup (α : Type) where
  l : List α
  deriving DecidableEq
instance [Dat α] : Dat (Tup α) where
  rep := fun H v l => ∃ a xs, v = .ref a ∧ H a = some (.tup xs) ∧ IsAll H xs l.l
  mono := fun s h => by
    obtain ⟨a, xs, e, h, i⟩ := h
    exact ⟨a, xs, e, s _ _ h, IsAll.up i s⟩
  py := fun l => .tuple (l.l.map Dat.py)
  dp := fun h => by
    obtain ⟨a, xs, rfl, h, i⟩ := h
    exact .tup (SqT.of h) (dp_all i)
  can := fun d => can_all d.l
  dep := Dat.dep α + 1
  depth := fun d => Nat.succ_le_succ (depth_all d.l)
  eqv := fun a b => by
    rw [PyData.eqv, eqv_all]
    obtain ⟨a⟩ := a; obtain ⟨b⟩ := b
    simp
/-- a pair; a triple -/
structure T2 (α β : Type) where
  a : α
  b : β
  deriving DecidableEq
structure T3 (α β γ : Type) where
  a : α
  b : β
  c : γ
  deriving DecidableEq
instance [Dat α] [Dat β] : Dat (T2 α β) where
  rep := fun H v d => ∃ p x y, v = .ref p ∧ H p = some (.tup [x, y]) ∧ Is H x d.a ∧ Is H y d.b
  mono := fun s h => by
    obtain ⟨p, x, y, e, h, i, j⟩ := h
    exact ⟨p, x, y, e, s _ _ h, Is.up i s, Is.up j s⟩
  py := fun d => .tuple [Dat.py d.a, Dat.py d.b]
  dp := fun h => by
    obtain ⟨p, x, y, rfl, h, i, j⟩ := h
    exact .tup (SqT.of h) (.cons (Dat.dp i) (.cons (Dat.dp j) .nil))
  can := fun d => by
    show (PyData.canLay0 (Dat.py d.a) && (PyData.canLay0 (Dat.py d.b) && true)) = true
    rw [Dat.can, Dat.can]; rfl
  dep := max (Dat.dep α) (Dat.dep β) + 1
  depth := fun d => by
    have h1 := Dat.depth d.a
    have h2 := Dat.depth d.b
    show max (PyData.depth (Dat.py d.a)) (max (PyData.depth (Dat.py d.b)) 0) + 1 ≤ _
    omega
  eqv := fun a b => by
    obtain ⟨a, a'⟩ := a; obtain ⟨b, b'⟩ := b
    simp [PyData.eqv, PyData.eqvAll, Dat.eqv]
instance [Dat α] [Dat β] [Dat γ] : Dat (T3 α β γ) where
  rep := fun H v d => ∃ p x y z, v = .ref p ∧ H p = some (.tup [x, y, z]) ∧ Is H x d.a ∧ Is H y d.b ∧ Is H z d.c
  mono := fun s h => by
    obtain ⟨p, x, y, z, e, h, i, j, k⟩ := h
    exact ⟨p, x, y, z, e, s _ _ h, Is.up i s, Is.up j s, Is.up k s⟩
  py := fun d => .tuple [Dat.py d.a, Dat.py d.b, Dat.py d.c]
  dp := fun h => by
    obtain ⟨p, x, y, z, rfl, h, i, j, k⟩ := h
    exact .tup (SqT.of h) (.cons (Dat.dp i) (.cons (Dat.dp j) (.cons (Dat.dp k) .nil)))
  can := fun d => by
    show (PyData.canLay0 (Dat.py d.a) && (PyData.canLay0 (Dat.py d.b) && (PyData.canLay0 (Dat.py d.c) && true))) = true
    rw [Dat.can, Dat.can, Dat.can]; rfl
  dep := max (Dat.dep α) (max (Dat.dep β) (Dat.dep γ)) + 1
  depth := fun d => by
    have h1 := Dat.depth d.a
    have h2 := Dat.depth d.b
    have h3 := Dat.depth d.c
    show max (PyData.depth (Dat.py d.a)) (max (PyData.depth (Dat.py d.b)) (max (PyData.depth (Dat.py d.c)) 0)) + 1 ≤ _
    omega
  eqv := fun a b => by
    obtain ⟨a, a', a''⟩ := a; obtain ⟨b, b', b''⟩ := b
    simp [PyData.eqv, PyData.eqvAll, Dat.eqv]
/-- None, or a datum that is a tuple or a list -/
class Big (α : Type) [Dat α] : Prop where
  big : ∀ d : α, (∃ l, Dat.py d = .tuple l) ∨ ∃ l, Dat.py d = .list l
instance [Dat α] : Big (List α) := ⟨fun d => .inr ⟨_, rfl⟩⟩
instance [Dat α] : Big (Tup α) := ⟨fun d => .inl ⟨_, rfl⟩⟩
instance [Dat α] [Dat β] : Big (T2 α β) := ⟨fun d => .inl ⟨_, rfl⟩⟩
instance [Dat α] [Dat β] [Dat γ] : Big (T3 α β γ) := ⟨fun d => .inl ⟨_, rfl⟩⟩
instance [Dat α] [Big α] : Dat (Option α) where
  rep := fun H v d => match d with
    | none => v = .non
    | some d => Is H v d
  mono := fun {H H' v d} s h => by
    cases d with
    | none => exact h
    | some d => exact Is.up (show Is H v d from h) s
  py := fun d => match d with
    | none => .none
    | some d => Dat.py d
  dp := fun {K H v d} h => by
    cases d with
    | none => cases h; exact .non
    | some d => exact Dat.dp (show Is H v d from h)
  can := fun d => by
    cases d with
    | none => rfl
    | some d => exact Dat.can d
  dep := Dat.dep α
  depth := fun d => by
    cases d with
    | none => exact Nat.zero_le _
    | some d => exact Dat.depth d
  eqv := fun a b => by
    cases a with
    | none =>
      cases b with
      | none => exact ⟨fun _ => rfl, fun _ => rfl⟩
      | some b =>
        refine ⟨fun h => ?_, fun h => nomatch h⟩
        have h : PyData.eqv .none (Dat.py b) = true := h
        rcases Big.big b with ⟨l, e⟩ | ⟨l, e⟩ <;> (rw [e] at h; simp only [PyData.eqv] at h; cases h)
    | some a =>
      cases b with
      | none =>
        refine ⟨fun h => ?_, fun h => nomatch h⟩
        have h : PyData.eqv (Dat.py a) .none = true := h
        rcases Big.big a with ⟨l, e⟩ | ⟨l, e⟩ <;> (rw [e] at h; simp only [PyData.eqv] at h; cases h)
      | some b =>
        show PyData.eqv (Dat.py a) (Dat.py b) = true ↔ _
        rw [Dat.eqv, Option.some.injEq]
end
/-- == and != of data -/
theorem eq_dat0 {α : Type} [Dat α] [DecidableEq α] {a b : α} (hd : Dat.dep α ≤ 64) : SeqAt.shaped (Dat.py a) = true ∧ SeqAt.shaped (Dat.py b) = true ∧ PyData.eqv (Dat.py a) (Dat.py b) = decide (a = b) := by
  refine ⟨?_, ?_, ?_⟩
  · show (PyData.canLay0 _ && decide _) = true
    rw [Dat.can, decide_eq_true (Nat.le_trans (Dat.depth a) hd)]; rfl
  · show (PyData.canLay0 _ && decide _) = true
    rw [Dat.can, decide_eq_true (Nat.le_trans (Dat.depth b) hd)]; rfl
  · rw [Bool.eq_iff_iff, Dat.eqv, decide_eq_true_iff]
theorem eq_dat {α : Type} [Dat α] [DecidableEq α] {K : PySem.W.Frag} {H : Hp} {x y : V} {a b : α} {Q : VK} (ha : Is H x a) (hb : Is H y b) (q : Q (.bl (decide (a = b))) H) (hd : Dat.dep α ≤ 64 := by decide) : rEqD K x y H Q := by
  obtain ⟨h1, h2, h3⟩ := eq_dat0 (a := a) (b := b) hd
  exact ⟨Dat.py a, Dat.py b, Dat.dp ha, Dat.dp hb, h1, h2, by rw [h3]; exact q⟩
theorem ne_dat {α : Type} [Dat α] [DecidableEq α] {K : PySem.W.Frag} {H : Hp} {x y : V} {a b : α} {Q : VK} (ha : Is H x a) (hb : Is H y b) (q : Q (.bl (!decide (a = b))) H) (hd : Dat.dep α ≤ 64 := by decide) : rNeD K x y H Q := by
  obtain ⟨h1, h2, h3⟩ := eq_dat0 (a := a) (b := b) hd
  exact ⟨Dat.py a, Dat.py b, Dat.dp ha, Dat.dp hb, h1, h2, by rw [h3]; exact q⟩
/-! ### machines -/
/-- an entry -/
inductive Ent where
  | emp
  | go (put way row : Int)
  deriving DecidableEq
def entO : Ent → HO
  | .emp => .tup []
  | .go p w r => .tup [.int p, .int w, .int r]
def entP : Ent → PyData
  | .emp => .tuple []
  | .go p w r => .tuple [.int p, .int w, .int r]
instance : Dat Ent where
  rep := fun H v e => ∃ a, v = .ref a ∧ H a = some (entO e)
  mono := fun s h => by obtain ⟨a, e, h⟩ := h; exact ⟨a, e, s _ _ h⟩
  py := entP
  dp := fun {K H v d} h => by
    obtain ⟨a, rfl, h⟩ := h
    cases d with
    | emp => exact .tup (SqT.of h) .nil
    | go p w r => exact .tup (SqT.of h) (.cons (.int _) (.cons (.int _) (.cons (.int _) .nil)))
  can := fun d => by cases d <;> rfl
  dep := 1
  depth := fun d => by cases d <;> simp [entP, PyData.depth, PyData.depthAll]
  eqv := fun a b => by cases a <;> cases b <;> simp [entP, PyData.eqv, PyData.eqvAll]
instance : Big Ent := ⟨fun d => by cases d <;> exact .inl ⟨_, rfl⟩⟩
abbrev Mach := List (List Ent)
/-! ### pairs of ints: a dict's items, sorted ones -/
abbrev PI := T2 Int Int
def dI (l : List PI) : List (Key × V) := l.map fun p => (Sum.inl p.a, V.int p.b)
def look (l : List PI) (x : Int) : Option Int := (l.find? fun p => decide (p.a = x)).map (·.b)
def put (l : List PI) (x v : Int) : List PI := if (l.any fun p => decide (p.a = x)) = true then l.map (fun p => if p.a = x then ⟨p.a, v⟩ else p) else l ++ [⟨x, v⟩]
def merge (l m : List PI) : List PI := m.foldl (fun acc p => put acc p.a p.b) l
theorem key_inl (a b : Int) : ((Sum.inl a : Key) = Sum.inl b) = (a = b) := propext ⟨Sum.inl.inj, fun h => by rw [h]⟩
theorem dI_val (x : Int) : ∀ l : List PI, valV (dI l) (Sum.inl x) = (look l x).map V.int
  | [] => rfl
  | p :: l => by
    have ih := dI_val x l
    show valV ((Sum.inl p.a, V.int p.b) :: dI l) (Sum.inl x) = _
    by_cases e : p.a = x
    · rw [valV_pos (by rw [key_inl]; exact e)]
      simp [look, e]
    · rw [valV_neg (by rw [key_inl]; exact e), ih]
      simp [look, e]
theorem dI_put (l : List PI) (x v : Int) : putK (dI l) (Sum.inl x) (.int v) = dI (put l x v) := by
  have e : ((dI l).any fun kv => decide (kv.1 = Sum.inl x)) = (l.any fun p => decide (p.a = x)) := by
    unfold dI
    rw [List.any_map]
    congr 1
    funext p
    simp only [Function.comp, key_inl]
  unfold putK put
  rw [e]
  by_cases a : (l.any fun p => decide (p.a = x)) = true
  · rw [if_pos a, if_pos a]
    unfold dI
    rw [List.map_map, List.map_map]
    congr 1
    funext p
    simp only [Function.comp, key_inl]
    by_cases h : p.a = x
    · rw [if_pos h, if_pos h]
    · rw [if_neg h, if_neg h]
  · rw [if_neg a, if_neg a]
    unfold dI
    rw [List.map_append]
    rfl
theorem dI_merge (m : List PI) : ∀ l : List PI, mergeK (dI l) (dI m) = dI (merge l m) := by
  induction m with
  | nil => intro l; rfl
  | cons p m ih =>
    intro l
    show mergeK (putK (dI l) (Sum.inl p.a) (.int p.b)) (dI m) = dI (merge (put l p.a p.b) m)
    rw [dI_put]
    exact ih _
theorem look_nil (x : Int) : look [] x = none := rfl
theorem look_cons (p : PI) (l : List PI) (x : Int) : look (p :: l) x = if p.a = x then some p.b else look l x := by
  unfold look
  rw [List.find?_cons]
  by_cases e : p.a = x
  · simp [e]
  · simp [e]
theorem look_any (x : Int) : ∀ l : List PI, (l.any fun p => decide (p.a = x)) = (look l x).isSome
  | [] => rfl
  | p :: l => by
    rw [List.any_cons, look_any x l, look_cons]
    by_cases e : p.a = x
    · simp [e]
    · simp [e]
theorem look_map (x y v : Int) : ∀ l : List PI, look (l.map fun p => if p.a = x then ⟨p.a, v⟩ else p) y = (look l y).map fun z => if y = x then v else z
  | [] => rfl
  | p :: l => by
    rw [List.map_cons, look_cons, look_cons, look_map x y v l]
    by_cases e : p.a = x
    · rw [if_pos e]
      by_cases f : p.a = y
      · rw [if_pos f, if_pos f]
        rw [← f, Option.map_some, if_pos e]
      · rw [if_neg f, if_neg f]
    · rw [if_neg e]
      by_cases f : p.a = y
      · rw [if_pos f, if_pos f, Option.map_some, if_neg (by rw [← f]; exact e)]
      · rw [if_neg f, if_neg f]
theorem look_app (l m : List PI) (x : Int) : look (l ++ m) x = (look l x).or (look m x) := by
  induction l with
  | nil => rfl
  | cons p l ih =>
    rw [List.cons_append, look_cons, look_cons, ih]
    by_cases e : p.a = x
    · rw [if_pos e, if_pos e]; rfl
    · rw [if_neg e, if_neg e]
theorem look_put (l : List PI) (x v y : Int) : look (put l x v) y = if y = x then some v else look l y := by
  unfold put
  by_cases a : (l.any fun p => decide (p.a = x)) = true
  · rw [if_pos a, look_map]
    by_cases e : y = x
    · rw [if_pos e, e]
      rw [look_any] at a
      obtain ⟨z, hz⟩ := Option.isSome_iff_exists.mp a
      rw [hz, Option.map_some, if_pos rfl]
    · rw [if_neg e]
      cases look l y with
      | none => rfl
      | some z => rw [Option.map_some, if_neg e]
  · rw [if_neg a, look_app]
    rw [look_any] at a
    by_cases e : y = x
    · rw [if_pos e, e]
      cases h : look l x with
      | none => rw [look_cons, if_pos rfl]; rfl
      | some z => rw [h] at a; exact absurd rfl a
    · rw [if_neg e, look_cons, if_neg (fun z => e z.symm), look_nil]
      cases look l y <;> rfl
/-- no place twice -/
def Nd (l : List PI) : Prop := (l.map (·.a)).Nodup
theorem look_none {l : List PI} {x : Int} : look l x = none ↔ x ∉ l.map (·.a) := by
  induction l with
  | nil => simp [look_nil]
  | cons p l ih =>
    rw [look_cons, List.map_cons, List.mem_cons]
    by_cases e : p.a = x
    · rw [if_pos e]; simp [e]
    · rw [if_neg e, ih]
      constructor
      · intro h z
        rcases z with z | z
        · exact e z.symm
        · exact h z
      · intro h z
        exact h (.inr z)
theorem look_mem {l : List PI} (h : Nd l) {p : PI} (m : p ∈ l) : look l p.a = some p.b := by
  induction l with
  | nil => cases m
  | cons q l ih =>
    have h' := List.nodup_cons.mp h
    rw [look_cons]
    rcases List.mem_cons.mp m with rfl | m
    · rw [if_pos rfl]
    · rw [if_neg (fun e => h'.1 (by show q.a ∈ _; rw [e]; exact List.mem_map.mpr ⟨p, m, rfl⟩))]
      exact ih h'.2 m
theorem mem_look {l : List PI} {x v : Int} (h : look l x = some v) : (⟨x, v⟩ : PI) ∈ l := by
  induction l with
  | nil => cases h
  | cons q l ih =>
    rw [look_cons] at h
    by_cases e : q.a = x
    · rw [if_pos e] at h
      cases h
      subst e
      exact List.mem_cons_self
    · rw [if_neg e] at h
      exact List.mem_cons_of_mem _ (ih h)
theorem nd_put {l : List PI} (h : Nd l) (x v : Int) : Nd (put l x v) := by
  unfold put
  by_cases a : (l.any fun p => decide (p.a = x)) = true
  · rw [if_pos a]
    unfold Nd
    rw [List.map_map]
    have e : ((fun p : PI => p.a) ∘ fun p : PI => if p.a = x then (⟨p.a, v⟩ : PI) else p) = fun p : PI => p.a := by
      funext p
      simp only [Function.comp]
      split <;> rfl
    rw [e]; exact h
  · rw [if_neg a]
    unfold Nd
    rw [List.map_append]
    refine nd_snoc h ?_
    rw [look_any] at a
    refine look_none.mp ?_
    cases q : look l x with
    | none => rfl
    | some z => rw [q] at a; exact absurd rfl a
theorem put_new {l : List PI} {x : Int} (v : Int) (h : look l x = none) : put l x v = l ++ [⟨x, v⟩] := by
  unfold put
  rw [look_any, h]
  rfl
theorem merge_nd {m : List PI} : ∀ {l : List PI}, Nd (l ++ m) → merge l m = l ++ m := by
  induction m with
  | nil => intro l _; simp [merge]
  | cons p m ih =>
    intro l h
    have e : l ++ p :: m = (l ++ [p]) ++ m := by simp
    have hn : look l p.a = none := by
      refine look_none.mpr fun z => ?_
      unfold Nd at h
      rw [List.map_append] at h
      exact (List.nodup_append.mp h).2.2 _ z _ (by rw [List.map_cons]; exact List.mem_cons_self) rfl
    show merge (put l p.a p.b) m = _
    rw [put_new _ hn, e]
    exact ih (by rw [← e]; exact h)
theorem nd_nil : Nd [] := List.nodup_nil
theorem put_len (l : List PI) (x v : Int) : (put l x v).length ≤ l.length + 1 := by
  unfold put
  split
  · rw [List.length_map]; omega
  · rw [List.length_append]; exact Nat.le_refl _
/-- Python's order of pairs -/
def leP (p q : PI) : Bool := decide (p.a < q.a) || (decide (p.a = q.a) && decide (p.b ≤ q.b))
theorem leP_iff {p q : PI} : leP p q = true ↔ p.a < q.a ∨ (p.a = q.a ∧ p.b ≤ q.b) := by simp [leP]
def ins (p : PI) : List PI → List PI
  | [] => [p]
  | q :: l => if leP p q = true then p :: q :: l else q :: ins p l
def srt (l : List PI) : List PI := l.foldr ins []
theorem ins_perm (p : PI) : ∀ l : List PI, (ins p l).Perm (p :: l)
  | [] => List.Perm.refl _
  | q :: l => by
    unfold ins
    split
    · exact List.Perm.refl _
    · exact (List.Perm.cons q (ins_perm p l)).trans (List.Perm.swap p q l)
theorem srt_perm : ∀ l : List PI, (srt l).Perm l
  | [] => List.Perm.refl _
  | p :: l => (ins_perm p (srt l)).trans ((srt_perm l).cons p)
abbrev LeP (p q : PI) : Prop := leP p q = true
theorem leP_trans {p q r : PI} (h1 : LeP p q) (h2 : LeP q r) : LeP p r := by
  have a := leP_iff.mp h1
  have b := leP_iff.mp h2
  exact leP_iff.mpr (by omega)
theorem leP_total (p q : PI) : LeP p q ∨ LeP q p := by
  show leP p q = true ∨ leP q p = true
  rw [leP_iff, leP_iff]
  omega
theorem ins_srt (p : PI) : ∀ {l : List PI}, l.Pairwise LeP → (ins p l).Pairwise LeP
  | [], _ => List.pairwise_singleton _ _
  | q :: l, h => by
    have h' := List.pairwise_cons.mp h
    unfold ins
    split
    · rename_i e
      refine List.pairwise_cons.mpr ⟨fun x m => ?_, h⟩
      rcases List.mem_cons.mp m with rfl | m
      · exact e
      · exact leP_trans e (h'.1 x m)
    · rename_i e
      refine List.pairwise_cons.mpr ⟨fun x m => ?_, ins_srt p h'.2⟩
      rcases List.mem_cons.mp ((ins_perm p l).mem_iff.mp m) with rfl | m
      · rcases leP_total q x with z | z
        · exact z
        · exact absurd z e
      · exact h'.1 x m
theorem srt_srt : ∀ l : List PI, (srt l).Pairwise LeP
  | [] => List.Pairwise.nil
  | p :: l => ins_srt p (srt_srt l)
theorem leP_anti {p q : PI} (h1 : LeP p q) (h2 : LeP q p) : p = q := by
  have a := leP_iff.mp h1
  have b := leP_iff.mp h2
  obtain ⟨x, y⟩ := p
  obtain ⟨x', y'⟩ := q
  have e1 : x = x' := by show x = x'; simp only at a b; omega
  have e2 : y = y' := by simp only at a b; omega
  rw [e1, e2]
/-- there is one sorted list of them -/
theorem srt_uniq : ∀ {l m : List PI}, l.Pairwise LeP → m.Pairwise LeP → l.Perm m → l = m
  | [], m, _, _, h => (List.Perm.eq_nil h.symm).symm
  | x :: l, [], _, _, h => absurd h.length_eq (by simp)
  | x :: l, y :: m, hl, hm, h => by
    have l' := List.pairwise_cons.mp hl
    have m' := List.pairwise_cons.mp hm
    have h1 : LeP y x := by
      rcases List.mem_cons.mp (h.mem_iff.mp (List.mem_cons_self (a := x) (l := l))) with e | z
      · rw [e]; rcases leP_total y y with z | z <;> exact z
      · exact m'.1 x z
    have h2 : LeP x y := by
      rcases List.mem_cons.mp (h.mem_iff.mpr (List.mem_cons_self (a := y) (l := m))) with e | z
      · rw [e]; rcases leP_total x x with z | z <;> exact z
      · exact l'.1 y z
    have e := leP_anti h2 h1
    subst e
    rw [srt_uniq l'.2 m'.2 h.cons_inv]
theorem srt_of {l m : List PI} (h : m.Pairwise LeP) (p : m.Perm l) : m = srt l := srt_uniq h (srt_srt l) (p.trans (srt_perm l).symm)
/-- what a value says as a pair, read off the heap -/
def pOf (H : Hp) : V → Int × Int
  | .ref t => match H t with
    | some (.tup [.int i, .int j]) => (i, j)
    | _ => (0, 0)
  | _ => (0, 0)
theorem pOf_is {H : Hp} {v : V} {d : PI} (h : Is H v d) : ∃ t, v = .ref t ∧ H t = some (.tup [.int (pOf H v).1, .int (pOf H v).2]) ∧ d = ⟨(pOf H v).1, (pOf H v).2⟩ := by
  obtain ⟨t, x, y, rfl, h1, h2, h3⟩ := h
  have h2 : x = .int d.a := h2
  have h3 : y = .int d.b := h3
  subst h2
  subst h3
  have e : pOf H (.ref t) = (d.a, d.b) := by simp only [pOf, h1]
  exact ⟨t, rfl, by rw [e]; exact h1, by rw [e]⟩
theorem all_of {H : Hp} : ∀ {xs : List V} {l : List PI}, IsAll H xs l → l = xs.map fun v => (⟨(pOf H v).1, (pOf H v).2⟩ : PI) := fun {xs l} h => by
  refine List.ext_getElem? fun i => ?_
  rw [List.getElem?_map]
  cases e : xs[i]? with
  | none =>
    have := List.getElem?_eq_none_iff.mp e
    exact List.getElem?_eq_none_iff.mpr (by rw [← h.1]; exact this)
  | some x =>
    obtain ⟨d, hd, hx⟩ := h.get' e
    obtain ⟨t, _, _, q⟩ := pOf_is hx
    rw [hd, q]
    rfl
/-- sorted of a list of pairs -/
theorem sort_pairs {K : PySem.W.Frag} {F H : Hp} {a : Addr} {xs : List V} {l : List PI} {Q : VK} (sF : Same F H) (hx : IsAll F xs l) (ha : SqL K H a xs) (q : ∀ ys p, H p = none → IsAll F ys (srt l) → Q (.ref p) (upd H p (.lst ys))) : rSortQ K [.ref a] H Q := by
  unfold rSortQ
  refine ⟨a, xs, pOf F, rfl, ha, fun x m => ?_, fun ys p hs hb np => q ys p np ?_⟩
  · obtain ⟨i, hi⟩ := List.getElem?_of_mem m
    obtain ⟨d, _, hd⟩ := hx.get' hi
    obtain ⟨t, e, h, _⟩ := pOf_is hd
    exact ⟨t, e, sF _ _ h⟩
  · have el := all_of hx
    have hys : IsAll F ys (ys.map fun v => (⟨(pOf F v).1, (pOf F v).2⟩ : PI)) := by
      refine ⟨by rw [List.length_map], fun i x y h1 h2 => ?_⟩
      rw [List.getElem?_map, h1] at h2
      cases h2
      have m : x ∈ xs := hb.perm.mem_iff.mp (List.mem_of_getElem? h1)
      obtain ⟨j, hj⟩ := List.getElem?_of_mem m
      obtain ⟨d, _, hd⟩ := hx.get' hj
      obtain ⟨t, e, h, e2⟩ := pOf_is hd
      exact ⟨t, _, _, e, h, rfl, rfl⟩
    have es : (ys.map fun v => (⟨(pOf F v).1, (pOf F v).2⟩ : PI)) = srt l := by
      refine srt_of ?_ ?_
      · refine List.pairwise_map.mpr (List.Pairwise.imp (fun {x y} h => ?_) hs)
        have h := SrtO.lexB_no.mp h
        exact leP_iff.mpr (by simp only; omega)
      · rw [el]
        exact hb.perm.map _
    rw [es] at hys
    exact hys
theorem pairs_of {K : PySem.W.Frag} {H : Hp} : ∀ {xs : List V} {l : List PI}, IsAll H xs l → ∃ ps : List Addr, xs = ps.map V.ref ∧ Paired (fun p kv => SqT K H p [kV kv.1, kv.2]) ps (dI l)
  | [], [], _ => ⟨[], rfl, .nil⟩
  | [], d :: l, h => by have := h.1; simp at this
  | x :: xs, [], h => by have := h.1; simp at this
  | x :: xs, d :: l, h => by
    obtain ⟨t, x1, x2, e, h1, h2, h3⟩ := h.2 0 x d rfl rfl
    have h2 : x1 = .int d.a := h2
    have h3 : x2 = .int d.b := h3
    subst h2
    subst h3
    obtain ⟨ps, e2, p⟩ := pairs_of (K := K) (xs := xs) (l := l) ⟨by have := h.1; simpa using this, fun i a b p q => h.2 (i + 1) a b (by simpa using p) (by simpa using q)⟩
    exact ⟨t :: ps, by rw [e, e2]; rfl, .cons (SqT.of h1) p⟩
/-- dict(pairs) -/
theorem dict_pairs {K : PySem.W.Frag} {H : Hp} {a : Addr} {xs : List V} {l : List PI} {Q : VK} (hx : IsAll H xs l) (ha : SqL K H a xs) (q : ∀ p, H p = none → Q (.ref p) (upd H p (.dK (dI (merge [] l))))) : rDictP K [.ref a] H Q := by
  unfold rDictP
  obtain ⟨ps, e, p⟩ := pairs_of (K := K) hx
  refine ⟨a, ps, dI l, rfl, by rw [← e]; exact ha, p, fun d nd => ?_⟩
  have e2 : mergeK [] (dI l) = dI (merge [] l) := dI_merge l []
  rw [e2]
  exact q d nd
/-! ### a dict under its lock -/
theorem lock_in {F H : Hp} {d : Addr} {o : HO} (s : Same F H) : Same (fun c => if c = d then none else F c) (upd H d o) := fun c u h => by
  by_cases e : c = d
  · simp only [e, if_true] at h; cases h
  · simp only [e, if_false] at h
    rw [upd_ne e]; exact s c u h
theorem lock_out {F H F2 H2 : Hp} {d : Addr} {o u : HO} (s : Same F H) (h : H d = some u) (g : Gr mu0 (fun c => if c = d then none else F c) (upd H d o) F2 H2) :
    H2 d = some o ∧ Same F2 (fun c => if c = d then F d else F2 c) ∧ Gr mu0 F H (fun c => if c = d then F d else F2 c) (upd H2 d u) := by
  have n2 : F2 d = none := by
    cases e : F2 d with
    | none => rfl
    | some z =>
      rcases g.nw d z e with k | k
      · simp only [if_true] at k; cases k
      · rw [upd_same] at k; cases k
  refine ⟨g.fr d o upd_same (fun z => z), fun c z e => ?_, ⟨fun c z e => ?_, fun c z e => ?_, fun c z e => ?_, fun c z e m => ?_, fun c e => ?_⟩⟩
  · by_cases k : c = d
    · rw [k, n2] at e; cases e
    · simp only [k, if_false]; exact e
  · by_cases k : c = d
    · simp only [k, if_true]; rw [← k]; exact e
    · simp only [k, if_false]
      exact g.ff c z (by simp only [k, if_false]; exact e)
  · by_cases k : c = d
    · simp only [k, if_true] at e
      rw [k, upd_same, ← h]
      exact s d z e
    · simp only [k, if_false] at e
      rw [upd_ne k]; exact g.fh c z e
  · by_cases k : c = d
    · simp only [k, if_true] at e
      exact .inl (by rw [k]; exact e)
    · simp only [k, if_false] at e
      rcases g.nw c z e with q | q
      · simp only [k, if_false] at q; exact .inl q
      · rw [upd_ne k] at q; exact .inr q
  · by_cases k : c = d
    · rw [k, upd_same]; rw [k, h] at e; exact e
    · rw [upd_ne k]
      exact g.fr c z (by rw [upd_ne k]; exact e) (fun z => z)
  · by_cases k : c = d
    · rw [k, upd_same] at e; cases e
    · rw [upd_ne k] at e
      have q := g.th c e
      rw [upd_ne k] at q; exact q
/-- the signs that aren't 0, in order -/
def nz (p : PI) : Bool := decide (p.b ≠ 0)
def told (l : List PI) : List PI := srt (l.filter nz)
theorem dI_get {l : List PI} {i : Nat} (h : i < l.length) : (dI l)[i]? = some (Sum.inl l[i].a, V.int l[i].b) := by
  unfold dI
  rw [List.getElem?_map, List.getElem?_eq_getElem h]
  rfl
theorem filter_take_succ {l : List PI} {f : PI → Bool} {i : Nat} (h : i < l.length) : (l.take (i + 1)).filter f = (l.take i).filter f ++ (if f l[i] = true then [l[i]] else []) := by
  rw [List.take_add_one, List.getElem?_eq_getElem h, List.filter_append]
  show _ ++ List.filter f [l[i]] = _
  rw [List.filter_cons]
  split <;> rfl
theorem nd_srt {l : List PI} (h : Nd l) : Nd (srt l) := ((srt_perm l).map (fun p : PI => p.a)).nodup_iff.mpr h
theorem mem_srt {l : List PI} {q : PI} : q ∈ srt l ↔ q ∈ l := (srt_perm l).mem_iff
theorem mem_put {l : List PI} {x v : Int} {q : PI} (m : q ∈ put l x v) : q ∈ l ∨ q = ⟨x, v⟩ := by
  unfold put at m
  split at m
  · obtain ⟨z, hz, e⟩ := List.mem_map.mp m
    split at e
    · rename_i h1 h2
      exact .inr (by rw [← e, h2])
    · exact .inl (by rw [← e]; exact hz)
  · rcases List.mem_append.mp m with m | m
    · exact .inl m
    · exact .inr (List.mem_singleton.mp m)
/-! ### sorted(d.items()), d a dict of ints to ints -/
section
open PySem.Spec PyProof.Rows
variable {X : Cx}
/-- many new things are tracked at once -/
theorem inv_many {pins : List (Addr × Obj)} {σ : L2.St} {H H' : Hp} {s : Shared} {h' : Heap} {tk : Nat} {as : List Addr} (I : Inv X pins σ H s) (k : ∀ b o, s.heap.get? b = some o → h'.get? b = some o) (hp : ∀ a ∈ as, s.heap.objs.size ≤ a)
    (p1 : ∀ b, b ∉ as → H' b = H b) (p2 : ∀ b ∈ as, ∀ o, H' b = some o → ObjOk X.prog X.w H' h' b o) : Inv X pins σ H' { s with heap := h', toks := tk } := by
  have old : ∀ b o, s.heap.get? b = some o → b ∉ as := fun b o e z => Nat.lt_irrefl _ (Nat.lt_of_lt_of_le (Heap.lt_size e) (hp b z))
  have trc : ∀ b o, H b = some o → b ∉ as := fun b o e z => by
    have := I.hok.lt e
    exact Nat.lt_irrefl _ (Nat.lt_of_lt_of_le this (hp b z))
  have kp : ∀ b o, H b = some o → H' b = some o := fun b o e => by rw [p1 b (trc b o e)]; exact e
  refine I.un ⟨fun b o q _ _ _ => k b o q, fun b o q _ _ _ => ⟨o.slots, k b o q⟩, fun b o q n _ => by rw [p1 b (old b o q)]; exact n, fun b o q _ => ⟨o, k b o q⟩, fun b xs e => kp b _ e, fun b o u e => kp b _ e, fun b ps e => ⟨#[], by rw [kp b _ e]; simp⟩⟩ fun b o e => ?_
  by_cases m : b ∈ as
  · exact p2 b m o e
  · rw [p1 b m] at e
    exact (I.hok b o e).stay (fun c u _ q => k c u q) (fun c q => kp c _ q) fun c xs q => kp c _ q
/-- the pair that stands at a -/
def pzAt (zs : List (Addr × PI)) (a : Addr) : Option PI := (zs.find? fun z => decide (z.1 = a)).map (·.2)
theorem pzAt_ix : ∀ {zs : List (Addr × PI)}, (zs.map (·.1)).Nodup → ∀ {j : Nat} {z : Addr × PI}, zs[j]? = some z → pzAt zs z.1 = some z.2
  | [], _, j, z, h => by cases h
  | y :: ys, nd, 0, z, h => by
    have e := Option.some.inj h
    subst e
    simp [pzAt]
  | y :: ys, nd, j + 1, z, h => by
    have nd' := List.nodup_cons.mp nd
    have m : z.1 ∈ ys.map (·.1) := List.mem_map.mpr ⟨z, List.mem_of_getElem? (show ys[j]? = some z from h), rfl⟩
    have ih := pzAt_ix nd'.2 (show ys[j]? = some z from h)
    have ne : ¬ y.1 = z.1 := fun e => nd'.1 (by show y.1 ∈ _; rw [e]; exact m)
    unfold pzAt at ih ⊢
    rw [List.find?_cons, decide_eq_false ne]
    exact ih
theorem pzAt_no {zs : List (Addr × PI)} {a : Addr} (h : a ∉ zs.map (·.1)) : pzAt zs a = none := by
  unfold pzAt
  rw [List.find?_eq_none.mpr fun z m e => h (List.mem_map.mpr ⟨z, m, of_decide_eq_true e⟩)]
  rfl
def trk (H : Hp) (B : Addr) (L : HO) (zs : List (Addr × PI)) : Hp := fun b => if b = B then some L else match pzAt zs b with
  | some q => some (.tup [.int q.a, .int q.b])
  | none => H b
def adOf : Value → Addr
  | .ref a => a
  | _ => 0
@[irreducible] def rSortIt : V → Hp → VK → Prop := fun x H Q => ∃ (d : Addr) (l : List PI), x = .ref d ∧ H d = some (.dK (dI l)) ∧
  ∀ (H' : Hp) (p : Addr) (ys : List Addr), Same H H' → H p = none → (∀ t ∈ ys, H t = none) → p ∉ ys → (∀ b, b ≠ p → b ∉ ys → H' b = H b) → H' p = some (.lst (ys.map V.ref)) → All2 (fun t (q : PI) => H' t = some (.tup [.int q.a, .int q.b])) ys (srt l) → Q (.ref p) H'
def tSortIt (te : TE) : TE := fun σ H Q => te σ H fun x H1 => rSortIt x H1 Q
theorem pe_sortedItems {e : Expr} {te : TE} {p apos cpos pos : Pos} (hc : X.calm = true) (he : PE X e te) (hg : Gl X "sorted") (hm : X.mg "sorted" = none) (hv : bootBuiltins "sorted" = some (.builtin "sorted")) (hbase : attributeBase e "items" X.env (eval e X.env) = eval e X.env := by rfl) (hline : (apos.endLine == cpos.line) = true := by rfl)
    (hs : starEach [.Call (.Attribute e "items" apos) [] [] cpos] X.env = (false, eval (.Call (.Attribute e "items" apos) [] [] cpos) X.env) :: starEach [] X.env := by rfl) :
    PE X (.Call (.Name "sorted" p) [.Call (.Attribute e "items" apos) [] [] cpos] [] pos) (tSortIt te) := by
  refine ⟨fun pins s σ H Q I hq => ?_⟩
  refine wpAny_Call_Name_kw (ld_blt I hg hm hv ?_)
  refine PyProof.Rows.callWith_builtin1 ?_ hs rfl
  rw [hs]
  show wpAny _ _ (spliced ((false, eval (.Call (.Attribute e "items" apos) [] [] cpos) X.env) :: backTo pos (starEach [] X.env))) _ _ s
  refine Calls.spliced_cons ?_
  refine wpAny_Call_method (T := "dict") (id := "dict.items") hbase rfl hline F.plainAttrs_dict F.slot_dict_items F.type_dict_items (thn (he.run pins s σ H _ I hq) fun u s1 ⟨x, H1, I1, rx, q⟩ => ?_)
  unfold rSortIt at q
  obtain ⟨d, l, rfl, hd, q⟩ := q
  obtain rfl : u = Value.ref d := rx
  obtain ⟨hz, hs0, vs, kv, hdo⟩ := I1.hok d _ hd
  obtain ⟨ep, hat⟩ := hdo.dictAt
  have lk : (dI l).length = vs.length := Paired.length kv
  have ll : (dI l).length = l.length := by unfold dI; rw [List.length_map]
  refine ⟨hdo.typeIs, hdo.mapOf.noDict, ?_⟩
  show wpAny _ _ (callWith cpos (.builtin "dict.items") [.ref d] [] []) _ X.xe s1
  refine method_meetsIn F.slot_dict_items F.entry_dict_items rfl (PySem.evalArgs_none ⟨rfl, hdo.typeIs, F.args_dict_items_1 _, _, meets_dict_items (mixKind X.prog X.w) d hs0, ⟨vs, hdo⟩, ?_⟩)
  refine Calls.spliced_nil ?_
  have I2 : Inv X pins σ H1 { s1 with heap := s1.heap.push { cls := .type "dict_items", data := .fields #[.ref d] } } := I1.kept (t' := s1.toks) fun b ob q => Heap.get?_push_of_some _ q
  have hB : ((H1 d).isSome) = true := by rw [hd]; rfl
  refine Calls.call_function_entry kind_sorted plain_sorted entry_sorted (args_sorted1 _) (by
    unfold Builtin.«sorted»
    refine wpAny_bind (m := checkCount "sorted" 1 1 _) (wpAny_pure (wpAny_bind (PySem.W.kdx_collect (knd := mixKind X.prog X.w) (kvs := vs) (ep := ep) (I1.ok.hd hc) ⟨_, Heap.get?_push_size _ rfl, rfl, rfl⟩ (hat.push _) (by omega) fun h1 tk as hk hl hG => ?_)))
    refine wpAny_bind (wpAny_newList ?_ (by rw [List.length_map, hl]; omega))
    -- the pairs' tuples: at as
    have nd : as.Nodup := hG.rise.imp fun {a b} h => Nat.ne_of_lt h
    have lz : (as.zip l).map (·.1) = as := List.map_fst_zip (by omega)
    have zx : ∀ (j : Nat) (a : Addr), as[j]? = some a → ∃ (q : PI) (t u : Tok), l[j]? = some q ∧ pzAt (as.zip l) a = some q ∧ h1.get? a = some { cls := .type "tuple", data := .seq #[.int q.a t, .int q.b u] } := fun j a h => by
      obtain ⟨key, k, x, e1, e2, e3⟩ := hG.pairs j a h
      have jl : j < l.length := by have := (List.getElem?_eq_some_iff.mp h).1; omega
      have lj : l[j]? = some l[j] := List.getElem?_eq_getElem jl
      obtain ⟨y, e4, e5, e6⟩ := LiI.paired_get kv (dI_get jl)
      rw [e1] at e4
      have e4 := Option.some.inj e4
      subst e4
      obtain ⟨i, tk1, e7, rfl⟩ | ⟨z, tk1, e7, _⟩ := keyIs_shape (show keyIs k key = true from e2)
      · have e5 : Sum.inl l[j].a = k := e5
        rw [e7] at e5
        have e5 := Sum.inl.inj e5
        subst e5
        obtain ⟨tk2, e6⟩ := (show RelV (.int l[j].b) x from e6)
        subst e6
        exact ⟨l[j], tk1, tk2, lj, pzAt_ix (zs := as.zip l) (by rw [lz]; exact nd) (j := j) (z := (a, l[j])) (List.getElem?_zip_eq_some.mpr ⟨h, lj⟩), e3⟩
      · have e5 : Sum.inl l[j].a = k := e5
        rw [e7] at e5
        cases e5
    have zm : ∀ a ∈ as, ∃ (q : PI) (t u : Tok), pzAt (as.zip l) a = some q ∧ h1.get? a = some { cls := .type "tuple", data := .seq #[.int q.a t, .int q.b u] } := fun a m => by
      obtain ⟨j, hj⟩ := List.getElem?_of_mem m
      obtain ⟨q, t, u, _, h2, h3⟩ := zx j a hj
      exact ⟨q, t, u, h2, h3⟩
    have lm : as.map (fun a => (pzAt (as.zip l) a).getD ⟨0, 0⟩) = l := by
      refine List.ext_getElem? fun j => ?_
      rw [List.getElem?_map]
      cases hj : as[j]? with
      | none =>
        have := List.getElem?_eq_none_iff.mp hj
        exact (List.getElem?_eq_none_iff.mpr (by omega)).symm
      | some a =>
        obtain ⟨q, t, u, h1, h2, _⟩ := zx j a hj
        rw [h1, Option.map_some, h2]; rfl
    generalize ezs : as.zip l = zs at zx zm lm lz
    have s12 : (s1.heap.push { cls := .type "dict_items", data := .fields #[.ref d] }).objs.size ≤ h1.objs.size := by
      have := Heap.lt_size (hk _ _ (Heap.get?_push_size s1.heap rfl))
      rw [Heap.size_push]; exact this
    have Bn : h1.objs.size ∉ as := fun z => Nat.lt_irrefl _ (hG.there z)
    let kk : Value → Int × Int := fun v => (((pzAt zs (adOf v)).getD ⟨0, 0⟩).a, ((pzAt zs (adOf v)).getD ⟨0, 0⟩).b)
    have ho : (h1.push { cls := .type "list", data := .seq (as.map Value.ref).toArray }).get? h1.objs.size = some (seqObj "list" (as.map Value.ref).toArray 0) := Heap.get?_push_size _ rfl
    refine wpAny_bind (wpAny_holding (wpAny_call_entry slot_list_sort ⟨_, ho, rfl⟩ entry_list_sort (SrtO.list_sort_ord (ltv := fun v u => SrtO.lexB (kk v) (kk u)) (SrtO.swo_lex kk) ho (by rw [List.length_map, hl]; omega) (fun h2 => ?_) fun out hso hbo => ⟨_, rfl, wpAny_pure ⟨_, rfl, ?_⟩⟩) (args_list_sort _)))
    · refine SrtO.pairs_sortableO (k := kk) (by omega) (fun v m => ?_) fun o e => ?_
      · obtain ⟨a, ma, rfl⟩ := List.mem_map.mp m
        obtain ⟨q, t, u, h1', h2'⟩ := zm a ma
        refine ⟨a, _, t, u, 0, rfl, Heap.get?_push_of_some _ h2', rfl, ?_⟩
        show _ = Data.seq #[.int ((pzAt zs a).getD ⟨0, 0⟩).a t, .int ((pzAt zs a).getD ⟨0, 0⟩).b u] 0
        rw [h1']
        rfl
      · rw [ho] at e
        cases e
        intro c
        exact absurd (Value.type.inj c) (by decide)
    · have outp : out.Perm (as.map Value.ref) := hbo.perm
      have oe : out = (out.map adOf).map Value.ref := by
        rw [List.map_map]
        refine (List.map_id out).symm.trans (List.map_congr_left fun v m => ?_)
        obtain ⟨a, _, rfl⟩ := List.mem_map.mp (outp.mem_iff.mp m)
        rfl
      have yp : (out.map adOf).Perm as := by
        have := outp.map adOf
        rw [List.map_map] at this
        have e : as.map (adOf ∘ Value.ref) = as := (List.map_congr_left fun a _ => rfl).trans (List.map_id as)
        rw [e] at this; exact this
      generalize out.map adOf = ys at oe yp
      have lo : out.length ≤ sizeLine := by rw [oe, List.length_map, yp.length_eq, hl]; omega
      obtain ⟨ep3, h3B⟩ := sortedHeap_at (vs := as.map Value.ref) (out := out.toArray) ho
      have h3o : ∀ b o, h1.get? b = some o → (sortedHeap (h1.push { cls := .type "list", data := .seq (as.map Value.ref).toArray }) h1.objs.size (as.map Value.ref) out.toArray).get? b = some o := fun b o e => by
        have bl := Heap.lt_size e
        rw [sortedHeap_old (Nat.ne_of_lt bl) (by rw [Heap.size_push]; exact Nat.lt_succ_of_lt bl)]
        exact Heap.get?_push_of_some _ e
      have tB : trk H1 h1.objs.size (.lst (ys.map V.ref)) zs h1.objs.size = some (.lst (ys.map V.ref)) := by unfold trk; rw [if_pos rfl]
      have tT : ∀ a ∈ as, ∀ q, pzAt zs a = some q → trk H1 h1.objs.size (.lst (ys.map V.ref)) zs a = some (.tup [.int q.a, .int q.b]) := fun a m q e => by
        unfold trk
        rw [if_neg (fun z => Bn (by rw [← z]; exact m)), e]
      have tO : ∀ b, b ≠ h1.objs.size → b ∉ as → trk H1 h1.objs.size (.lst (ys.map V.ref)) zs b = H1 b := fun b n m => by
        unfold trk
        rw [if_neg n, pzAt_no (by rw [lz]; exact m)]
      have big : ∀ a ∈ h1.objs.size :: as, (s1.heap.push { cls := .type "dict_items", data := .fields #[.ref d] }).objs.size ≤ a := fun a m => by
        rcases List.mem_cons.mp m with rfl | m
        · exact s12
        · exact Nat.le_of_lt (hG.above a m)
      have J := inv_many (tk := tk) (H' := trk H1 h1.objs.size (.lst (ys.map V.ref)) zs) (h' := sortedHeap (h1.push { cls := .type "list", data := .seq (as.map Value.ref).toArray }) h1.objs.size (as.map Value.ref) out.toArray) (as := h1.objs.size :: as) I2 (fun b o e => h3o b o (hk b o e)) big
          (fun b m => tO b (fun z => m (by rw [z]; exact List.mem_cons_self)) (fun z => m (List.mem_cons_of_mem _ z))) (fun b m o e => by
        by_cases hb : b = h1.objs.size
        · subst hb
          rw [tB] at e
          cases e
          refine ⟨by rw [List.length_map, yp.length_eq, hl]; omega, out, ep3, ?_, h3B⟩
          rw [oe]
          exact LiI.vals_refs ys
        · have m := (List.mem_cons.mp m).resolve_left hb
          obtain ⟨q, t, u, e1, e2⟩ := zm b m
          rw [tT b m q e1] at e
          cases e
          exact ⟨two_le, [.int q.a t, .int q.b u], .cons ⟨_, rfl⟩ (.cons ⟨_, rfl⟩ .nil), ⟨_, h3o b _ e2, rfl, _, rfl⟩⟩)
      have fr1 : ∀ a ∈ h1.objs.size :: as, H1 a = none := fun a m => I2.hok.fresh (big a m)
      have ym : ∀ a, a ∈ ys ↔ a ∈ as := fun a => yp.mem_iff
      refine ⟨.ref h1.objs.size, _, J, rfl, q _ _ ys (fun b o e => ?_) (fr1 _ List.mem_cons_self) (fun t m => fr1 t (List.mem_cons_of_mem _ ((ym t).mp m))) (fun z => Bn ((ym _).mp z)) (fun b n m => tO b n fun z => m ((ym b).mpr z)) tB ?_⟩
      · rw [tO b (fun z => by rw [z, fr1 _ List.mem_cons_self] at e; cases e) (fun z => by rw [fr1 b (List.mem_cons_of_mem _ z)] at e; cases e)]
        exact e
      · have es : ys.map (fun a => (pzAt zs a).getD ⟨0, 0⟩) = srt l := by
          refine srt_of ?_ (by rw [← lm]; exact yp.map _)
          rw [oe] at hso
          have hso := List.pairwise_map.mp hso
          refine List.pairwise_map.mpr (hso.imp fun {x y} h => ?_)
          have h := SrtO.lexB_no.mp h
          exact leP_iff.mpr (by simp only [kk, adOf] at h; omega)
        rw [← es]
        refine ⟨by rw [List.length_map], fun i x y h1 h2 => ?_⟩
        rw [List.getElem?_map, h1] at h2
        cases h2
        have m := (ym x).mp (List.mem_of_getElem? h1)
        obtain ⟨q, t, u, e1, e2⟩ := zm x m
        rw [tT x m q e1]
        show _ = some (HO.tup [V.int ((pzAt zs x).getD ⟨0, 0⟩).a, V.int ((pzAt zs x).getD ⟨0, 0⟩).b])
        rw [e1]
        rfl)
theorem sitems {F H : Hp} {d : Addr} {l : List PI} {Q : VK} (sF : Same F H) (hd : H d = some (.dK (dI l))) (q : ∀ (F' H' : Hp) (p : Addr) (xs : List V), Gr mu0 F H F' H' → Ow H F' H' p (.lst xs) → IsAll F' xs (srt l) → Q (.ref p) H') : rSortIt (.ref d) H Q := by
  unfold rSortIt
  refine ⟨d, l, rfl, hd, fun H' p ys s n nt pn off hp al => ?_⟩
  have fy : ∀ b ∈ ys, F b = none := fun b m => sF.free (nt b m)
  have s' : Same F (fun b => if b ∈ ys then H' b else F b) := fun b o e => by
    by_cases m : b ∈ ys
    · rw [fy b m] at e; cases e
    · simp only [m, if_false]; exact e
  have e2 : ∀ b, b ∈ ys → (if b ∈ ys then H' b else F b) = H' b := fun b m => if_pos m
  refine q (fun b => if b ∈ ys then H' b else F b) H' p (ys.map V.ref) ⟨s', fun b o e => ?_, fun b o e => ?_, fun b o e _ => s b o e, fun b e => s.free e⟩ ⟨n, ?_, hp⟩ ⟨by rw [List.length_map]; exact al.1, fun i x y h1 h2 => ?_⟩
  · by_cases m : b ∈ ys
    · simp only [m, if_true] at e; exact e
    · simp only [m, if_false] at e; exact s b o (sF b o e)
  · by_cases m : b ∈ ys
    · exact .inr (nt b m)
    · simp only [m, if_false] at e; exact .inl e
  · show (if p ∈ ys then H' p else F p) = none
    rw [if_neg pn]; exact sF.free n
  · rw [List.getElem?_map] at h1
    cases e : ys[i]? with
    | none => rw [e] at h1; cases h1
    | some t =>
      rw [e] at h1
      cases h1
      refine ⟨t, _, _, rfl, ?_, rfl, rfl⟩
      show (if t ∈ ys then H' t else F t) = _
      rw [if_pos (List.mem_of_getElem? e)]
      exact al.2 i t y e h2
end
/-! ### sum of a tuple; a tuple not at all or once -/
section
open PySem.Spec PyProof.Rows
variable {X : Cx}
def rSumT (K : PySem.W.Frag) : List V → Hp → VK → Prop := fun vs H Q => ∃ (a : Addr) (ns : List Int), vs = [V.ref a] ∧ SqT K H a (ns.map V.int) ∧ Q (.int ns.sum) H
theorem cr_sumT (hc : X.calm = true) : CallR X (.builtin "sum") (rSumT X.K) := by
  intro pins s σ H vs us Q I r h
  obtain ⟨a, ns, rfl, ht, q⟩ := h
  obtain ⟨its, rv, ⟨o, ho, hcl, n, hd⟩, _⟩ := I.tuple ht
  have hi := rv.ints
  obtain ⟨xs, e⟩ := hi.allInts.items
  have hn : numsOf (intItems xs).toList = ns := by rw [← e]; exact hi.numsOf
  rw [nums_intItems] at hn
  rw [e] at hd
  rw [Vals.ref1 r]
  refine PySem.W.ktm_sumG (I.ok.hd hc) ⟨o, ho, hcl, n, hd⟩ fun h' tk t' hk => ?_
  rw [preSum_eq, List.take_of_length_le (by simp), hn]
  exact ⟨.int _, H, I.kept hk, ⟨_, rfl⟩, q⟩
theorem tup_mul1 (l : Addr) (items : Array Value) (n : Nat) (dd : Option Addr) (sl : Array (Option Value)) (u : Tok) (hne : items.isEmpty = false) :
    Meets (Builtin.«tuple.__mul__» ⟨[.ref l, .int 1 u], []⟩) (fun _ R s => s.heap.get? l = some { cls := .type "tuple", dict := dd, data := .seq items n, slots := sl } ∧ R (.ok (.ret (Value.ref l))) s) :=
  .of_wp fun prog w A R s h => by
    obtain ⟨hp, g, d, tk, os⟩ := s
    obtain ⟨hl, h⟩ := h
    have f1 := AutoSeq1.idx_int
    wp_walk using wpAny_loadPart' hl
    exact ⟨_, rfl, h⟩
theorem tup_mul0 (l : Addr) (items : Array Value) (n : Nat) (dd : Option Addr) (sl : Array (Option Value)) (u : Tok) (hne : items.isEmpty = false) :
    Meets (Builtin.«tuple.__mul__» ⟨[.ref l, .int 0 u], []⟩) (fun _ R s => s.heap.get? l = some { cls := .type "tuple", dict := dd, data := .seq items n, slots := sl } ∧
      R (.ok (.ret (Value.ref s.heap.objs.size))) { s with heap := s.heap.push { cls := Value.type "tuple", data := Data.seq #[] }, toks := s.toks }) :=
  .of_wp fun prog w A R s h => by
    obtain ⟨hp, g, d, tk, os⟩ := s
    obtain ⟨hl, h⟩ := h
    have f1 := AutoSeq1.idx_int
    wp_walk using wpAny_loadPart' hl
    exact ⟨_, rfl, h⟩
def rRep01 (K : PySem.W.Frag) : R2 := fun x y H Q => ∃ l k xs, x = .ref l ∧ y = .int k ∧ SqT K H l xs ∧ xs ≠ [] ∧ ((k = 1 ∧ Q (.ref l) H) ∨ (k = 0 ∧ ∀ p, H p = none → Q (.ref p) (upd H p (.tup []))))
theorem op_rep01 : OpR X (binaryOp .Mult) (rRep01 X.K) := by
  intro pins s σ H x y v u Q I rx ry h
  obtain ⟨l, k, xs, rfl, rfl, hT, hne, h⟩ := h
  cases rx
  obtain ⟨tk, rfl⟩ := ry
  obtain ⟨its, r, ⟨⟨cls, dd, data, sl⟩, ho, hc, n, hd⟩, hs⟩ := I.tuple hT
  simp only at hc hd
  subst hc hd
  have hi : its.toArray.isEmpty = false := by
    cases its with
    | nil => have := r.length; exact absurd (List.eq_nil_of_length_eq_zero this) hne
    | cons a b => rfl
  rcases h with ⟨rfl, q⟩ | ⟨rfl, q⟩
  · refine wpAny_binaryOp_repeat_ref (T := "tuple") (U := "int") (by decide) ⟨_, ho, rfl⟩ (fun s' => typeIs_int s' 1 tk) noFill_tuple_mul F.fills_int_mul F.slot_int_rmul repeat_tuple F.slot_int_index.lookup
      (call_meets F.slot_int_rmul (typeIs_int s 1 tk) F.entry_int_rmul (F.args_int_rmul_2 _ _) (int_rmul_tuple 1 tk l its.toArray n dd sl)
        ⟨ho, rfl, ⟨_, ho, rfl⟩, call_meets F.slot_tuple_mul ⟨_, ho, rfl⟩ F.entry_tuple_mul (F.args_tuple_mul_2 _ _) (tup_mul1 l its.toArray n dd sl tk hi) ⟨ho, ?_⟩⟩)
    exact ⟨.ref l, H, I, rfl, q⟩
  · refine wpAny_binaryOp_repeat_ref (T := "tuple") (U := "int") (by decide) ⟨_, ho, rfl⟩ (fun s' => typeIs_int s' 0 tk) noFill_tuple_mul F.fills_int_mul F.slot_int_rmul repeat_tuple F.slot_int_index.lookup
      (call_meets F.slot_int_rmul (typeIs_int s 0 tk) F.entry_int_rmul (F.args_int_rmul_2 _ _) (int_rmul_tuple 0 tk l its.toArray n dd sl)
        ⟨ho, rfl, ⟨_, ho, rfl⟩, call_meets F.slot_tuple_mul ⟨_, ho, rfl⟩ F.entry_tuple_mul (F.args_tuple_mul_2 _ _) (tup_mul0 l its.toArray n dd sl tk hi) ⟨ho, ?_⟩⟩)
    refine ⟨.ref s.heap.objs.size, _, I.laid (t' := s.toks) (o := .tup []) (fun b ob q => Heap.get?_push_of_some _ q) (Nat.le_refl _) ?_, rfl, q _ (I.hok.fresh (Nat.le_refl _))⟩
    exact ⟨nil_le, _, .nil, IsTup.new _ _⟩
end
/-! slices of tuples, +: the ways -/
@[irreducible] def rSlQ (K : PySem.W.Frag) : V → Option Int → Option Int → Hp → VK → Prop := rSlA K
theorem sl_tupQ {X : Cx} : SlR X (rSlQ X.K) := by
  unfold rSlQ
  exact sl_tupA
@[irreducible] def rCatQ (K : PySem.W.Frag) : R2 := rCatA K
theorem op_catQ {X : Cx} : OpR X (binaryOp .Add) (rCatQ X.K) := by
  unfold rCatQ
  exact op_catA
theorem slA_all {K : PySem.W.Frag} {H : Hp} {a : Addr} {xs : List V} {lo hi : Option Int} {Q : VK} (h : SqT K H a xs) (w : HT.sIx xs.length 0 lo = 0 ∧ HT.sIx xs.length xs.length hi = xs.length) (q : Q (.ref a) H) : rSlQ K (.ref a) lo hi H Q := by
  unfold rSlQ
  exact ⟨a, xs, rfl, h, fun _ => q, fun n => absurd w n⟩
theorem slA_cut {K : PySem.W.Frag} {H : Hp} {a : Addr} {xs : List V} {lo hi : Option Int} {Q : VK} (h : SqT K H a xs) (w : ¬ (HT.sIx xs.length 0 lo = 0 ∧ HT.sIx xs.length xs.length hi = xs.length)) (q : ∀ p, H p = none → Q (.ref p) (upd H p (.tup (cutV xs lo hi)))) : rSlQ K (.ref a) lo hi H Q := by
  unfold rSlQ
  exact ⟨a, xs, rfl, h, fun n => absurd n w, fun _ => q⟩
theorem catA_nil {K : PySem.W.Frag} {H : Hp} {a b : Addr} {ys : List V} {Q : VK} (h : SqT K H a []) (h2 : SqT K H b ys) (l : ys.length ≤ sizeLine) (q : Q (.ref b) H) : rCatQ K (.ref a) (.ref b) H Q := by
  unfold rCatQ
  exact ⟨a, b, [], ys, rfl, rfl, h, h2, by simpa using l, fun _ => q, fun n => absurd rfl n, fun n => absurd rfl n⟩
theorem catA_new {K : PySem.W.Frag} {H : Hp} {a b : Addr} {xs ys : List V} {Q : VK} (h : SqT K H a xs) (h2 : SqT K H b ys) (l : xs.length + ys.length ≤ sizeLine) (n1 : xs ≠ []) (n2 : ys ≠ []) (q : ∀ p, H p = none → Q (.ref p) (upd H p (.tup (xs ++ ys)))) : rCatQ K (.ref a) (.ref b) H Q := by
  unfold rCatQ
  exact ⟨a, b, xs, ys, rfl, rfl, h, h2, l, fun e => absurd e n1, fun _ e => absurd e n2, fun _ _ => q⟩
/-! ### exceptions kept in a name beyond their suite -/
section
open PySem.Spec PyProof.Rows
/-- an exception that was caught: its class, its dict -/
def Kp (a : Addr) (cls : Value) (d : Option Addr) : HO := .ext fun h => ∃ oe : Obj, h.get? a = some oe ∧ Zc cls d oe ∧ ∃ vs, oe.data = .fields vs
section
variable {X : Cx} {pins : List (Addr × Obj)} {σ : L2.St} {H : Hp} {s sI : Shared} {a : Addr} {oe : Obj} {cls : Value} {d : Option Addr} {B : Heap}
/-- what is in hand may be tracked -/
theorem kp_track (I : Inv X pins σ H s) (he : s.heap.get? a = some oe) (hz : Zc cls d oe) (hf : ∃ vs, oe.data = .fields vs) (na : H a = none) (nL : a ≠ X.env.locals) (n0 : X.s_0.heap.get? a = none ∨ a ∈ X.ex) (np : ∀ p ∈ X.pn ++ pins, p.1 ≠ a) :
    Inv X pins σ (upd H a (Kp a cls d)) s where
  ok := I.ok
  os := I.os
  bare := I.bare
  base :=
    { keep := I.base.keep
      slot := I.base.slot
      free := fun b o e n x => by
        have nb : b ≠ a := by
          rintro rfl
          rcases n0 with z | z
          · rw [z] at e; cases e
          · exact x z
        rw [upd_ne nb]; exact I.base.free b o e n x
      there := I.base.there
      tups := fun b xs q => by have z := I.base.tups b xs q; rw [upd_ne (ne_of_none z na)]; exact z
      frzs := fun b o u q => by have z := I.base.frzs b o u q; rw [upd_ne (ne_of_none z na)]; exact z
      tbls := fun b ps q => by
        obtain ⟨m, z⟩ := I.base.tbls b ps q
        exact ⟨m, by rw [upd_ne (ne_of_none z na)]; exact z⟩ }
  loc := I.loc
  cell := I.cell
  free := by rw [upd_ne (Ne.symm nL)]; exact I.free
  freeC := fun x c q => by
    have nc : c ≠ a := by
      rintro rfl
      obtain ⟨v, o, ho, hd⟩ := I.cell x _ q
      obtain ⟨vs, hv⟩ := hf
      rw [he] at ho; cases ho
      rw [hv] at hd; cases hd
    rw [upd_ne nc]; exact I.freeC x c q
  pin := fun p hp => by
    obtain ⟨z1, z2, z3⟩ := I.pin p hp
    exact ⟨z1, by rw [upd_ne (np p hp)]; exact z2, z3⟩
  hok := fun b u q => by
    by_cases hb : b = a
    · subst hb
      rw [upd_same] at q; cases q
      exact ⟨⟨oe, he, hz, hf⟩, ⟨oe, he⟩, fun _ _ ⟨o, z, r⟩ k => ⟨o, k o z, r⟩⟩
    · rw [upd_ne hb] at q
      exact (I.hok b u q).stay (fun _ _ _ z => z) (fun c z => by rw [upd_ne (ne_of_none z na)]; exact z) fun c xs z => by rw [upd_ne (ne_of_none z na)]; exact z
  len := I.len
/-- what came into being on the way stands apart from all that was there -/
theorem kp_new (J : Inv X pins σ H sI) (nb : ∀ b o, sI.heap.get? b = some o → b ∉ frs X.stack → B.get? b = some o) (hB : B.get? a = none) (nf : a ∉ frs X.stack) :
    (X.s_0.heap.get? a = none ∨ a ∈ X.ex) ∧ ∀ p ∈ X.pn ++ pins, p.1 ≠ a := by
  have gone : ∀ o, ¬ sI.heap.get? a = some o := fun o e => by
    have z := nb a o e nf
    rw [hB] at z; cases z
  refine ⟨?_, fun p hp z => ?_⟩
  · by_cases hx : a ∈ X.ex
    · exact .inr hx
    · cases e : X.s_0.heap.get? a with
      | none => exact .inl rfl
      | some o =>
        obtain ⟨o', e'⟩ := J.base.there a o e hx
        exact absurd e' (gone o')
  · have e := (J.pin p hp).1
    rw [z] at e
    exact gone _ e
end
/-- what 'except x as n' wishes of an exception that it always catches: behind the suite it is tracked -/
def wKp (K : PySem.W.Frag) (c : Value) (i : Nat) (ts : Addr → Value → Option Addr → TS) (D : Ends) : WX := fun cls d σ H =>
  PySem.W.exmOne K cls c = some true ∧ ∀ a, H a = none → ts a cls d { nx := fun σ' H' => D.nx (σ'.set i none) (upd H' a (Kp a cls d)), rt := D.rt, bk := fun σ' H' => D.bk (σ'.set i none) H', ct := fun σ' H' => D.ct (σ'.set i none) H' } (σ.set i (some (.ref a))) H
section
variable {X : Cx} {x n : Str} {c : Value} {i : Nat} {body suite : List Stmt} {b0 : Stmt} {np pos pos' : Pos} {tb : WX → TS} {ts : Addr → Value → Option Addr → TS}
theorem ps_try_kp (hst : X.stack = X.env :: X.outer) (hfr : X.env.frame = some X.env.locals) (hN : X.N.Nodup) (hi : X.N[i]? = some n) (hl : X.env.kindOf n = some .local) (hc : Names X x c)
    (hb : ∀ (W : WX) (pn : List (Addr × Obj)) (xe : Value → Shared → Prop), Takes (X.tr pn xe) W → PassesOwn (model X.prog X.w) X.A X.env xe → PSs (X.tr pn xe) body (tb W))
    (hsu : ∀ (a : Addr) (oe : Obj) (cls : Value) (d : Option Addr) (pn : List (Addr × Obj)), Zc cls d oe → (∃ vs, oe.data = .fields vs) → PSs (X.suite a ((a, oe) :: pn)) (b0 :: suite) (ts a cls d)) :
    PS X (.Try body [.ExceptHandler (some (.Name x np)) (some n) (b0 :: suite) pos'] [] [] pos) (fun D σ H => tb (wKp X.K c i ts D) D σ H) := by
  refine ⟨fun pins s σ H D I h => ?_⟩
  have ok := I.ok
  have hA : X.A.frames = some (X.env :: X.outer) := ok.frames.trans (congrArg some hst)
  refine wpAny_Try_except (wpAny_mono
    ((hb (wKp X.K c i ts D) (X.pn ++ pins) _ (fun u s' q => ?_) PassesOwn.looking).run [] s σ H D (I.toTry _) h)
    (fun f s1 hsp => ?_) (fun _ _ q => q))
  · obtain ⟨a, B, sI, pi, σ1, H1, cls, d, rfl, J0, nb, up, sky, na, os, ag, hb1, hyes⟩ := q
    have J := J0.ofTry ok
    rw [show (X.tr (X.pn ++ pins) _).stack = X.env :: X.outer from hst] at sky
    show wpAny (model X.prog X.w) X.A (noteFrame (.ref a) X.env) _ _ _
    refine Sky.land Zc.steady hA hfr sky fun hp fl up1 => ?_
    have J1 : Inv X pins σ1 H1 { s' with heap := hp } := J.landed nb fl.1 (up.trans up1) os ag
    obtain ⟨o1, vs1, e1, z1, d1⟩ := fl.there
    have off : a ∉ frs (X.env :: X.outer) := fun hm => by
      obtain ⟨_, o', e', nof⟩ := fl.2.2.1.mem hm
      rw [e1] at e'; cases e'
      exact nof _ d1
    have nL : a ≠ X.env.locals := by
      rintro rfl
      exact off (List.mem_filterMap.mpr ⟨X.env, List.mem_cons_self, hfr⟩)
    have nF : a ∉ X.fs := fun hm => by
      obtain ⟨v, hv, q⟩ := List.mem_filterMap.mp hm
      exact off (List.mem_filterMap.mpr ⟨v, List.mem_cons_of_mem _ hv, q⟩)
    obtain ⟨n0, np0⟩ := kp_new J nb fl.2.1 (by rw [hst]; exact off)
    have K1 := J1.suite e1 d1 na nL nF
    refine wpAny_handleBy_cons (codeAny_handlers_test ?_) (fun z => nomatch z)
    have lt : PySem.W.Looks (model X.prog X.w) hp (typeOf (.ref a)) cls := fun A Q E s k q => wpAny_typeOf_ref (k _ _ e1) (by rw [z1.1]; exact q)
    have lm := PySem.W.exm_one (M := model X.prog X.w) J1.kIn lt hb1
    have nm : ∀ {Q : Value → Shared → Prop} {E : Value → Shared → Prop}, Q c { s' with heap := hp } → wpAny (model X.prog X.w) (X.A.mark (some (.ref a))) (eval (.Name x np) X.env) Q E { s' with heap := hp } := fun q => by
      obtain ⟨g1, g2, g3 | ⟨g3, g4, g5⟩⟩ := hc
      · exact ld_glob (X := X.suite a ((a, o1) :: (X.pn ++ pins))) K1 g1 g3 q g2
      · exact ld_blt (X := X.suite a ((a, o1) :: (X.pn ++ pins))) K1 g1 g3 g4 q g5 g2
    refine nm (lm.here (codeAny_handlers_suite_as (HandSPX.lands_againZ fl fun hq fm up2 => ?_)))
    have J2 : Inv X pins σ1 H1 { s' with heap := hq } := J.landed nb fm.1 ((up.trans up1).trans up2) os ag
    obtain ⟨o2, vs2, e2, z2, d2⟩ := fm.there
    have K2 := J2.suite e2 d2 na nL nF
    refine store_ok (X := X.suite a ((a, o2) :: (X.pn ++ pins))) (v := .ref a) K2 hN hi (.inl hl) rfl (fun s5 K5 => ?_) (.inr hl)
    refine wpAny_mono ((hsu a o2 cls d (X.pn ++ pins) z2 ⟨_, d2⟩).run [] s5 _ H1 _ K5 (hyes a na)) (fun f s6 hsp => ?_) (fun _ _ z => False.elim z)
    cases f with
    | next =>
      obtain ⟨σ6, H6, K6, q6⟩ := hsp
      obtain ⟨e6, n6, _⟩ := K6.pin (a, o2) (List.mem_append_left _ List.mem_cons_self)
      exact gone_ok (kp_track (K6.unsuite ok) e6 z2 ⟨_, d2⟩ n6 nL n0 np0) hN hi hl fun s7 J7 => ⟨_, _, J7, q6⟩
    | brk =>
      obtain ⟨σ6, H6, K6, q6⟩ := hsp
      exact gone_ok (K6.unsuite ok) hN hi hl fun s7 J7 => ⟨_, _, J7, q6⟩
    | cont =>
      obtain ⟨σ6, H6, K6, q6⟩ := hsp
      exact gone_ok (K6.unsuite ok) hN hi hl fun s7 J7 => ⟨_, _, J7, q6⟩
    | ret u =>
      obtain ⟨v6, σ6, H6, K6, r6, q6⟩ := hsp
      exact gone_ok (K6.unsuite ok) hN hi hl fun s7 J7 => ⟨_, _, _, J7, r6, q6⟩
  · cases f with
    | next =>
      obtain ⟨σ6, H6, K6, q6⟩ := hsp
      exact wpAny_execs_nil ⟨σ6, H6, K6.ofTry ok, q6⟩
    | brk =>
      obtain ⟨σ6, H6, K6, q6⟩ := hsp
      exact ⟨σ6, H6, K6.ofTry ok, q6⟩
    | cont =>
      obtain ⟨σ6, H6, K6, q6⟩ := hsp
      exact ⟨σ6, H6, K6.ofTry ok, q6⟩
    | ret u =>
      obtain ⟨v6, σ6, H6, K6, r6, q6⟩ := hsp
      exact ⟨v6, σ6, H6, K6.ofTry ok, r6, q6⟩
end
/-- isinstance(e, c), e a kept exception of the class at D without a dict of its own -/
@[irreducible] def rIsK (K : PySem.W.Frag) : List V → Hp → VK → Prop := fun xs H Q => ∃ (a D : Addr) (c : V) (cv : Value) (b : Bool), xs = [.ref a, c] ∧ H a = some (Kp a (.ref D) none) ∧ ExcC K D ∧ (∀ u, RelV c u → u = cv) ∧ PySem.W.kitOne K (.ref D) cv = some b ∧ Q (.bl b) H
theorem rIsK.mk {K : PySem.W.Frag} {H : Hp} {Q : VK} {a D : Addr} {c : V} {cv : Value} {b : Bool} (h : H a = some (Kp a (.ref D) none)) (hC : ExcC K D) (hc : ∀ u, RelV c u → u = cv) (e : PySem.W.kitOne K (.ref D) cv = some b) (q : Q (.bl b) H) : rIsK K [.ref a, c] H Q := by
  unfold rIsK; exact ⟨a, D, c, cv, b, rfl, h, hC, hc, e, q⟩
theorem kp_inst {X : Cx} {pins : List (Addr × Obj)} {σ : L2.St} {H : Hp} {s : Shared} {a D : Addr} (I : Inv X pins σ H s) (h : H a = some (Kp a (.ref D) none)) : ∃ oe, PySem.W.InstAt s.heap a oe D none := by
  obtain ⟨⟨oe, he, ⟨z1, z2⟩, vs, hv⟩, _⟩ := I.hok a _ h
  obtain ⟨oc, od, oda, osl⟩ := oe
  dsimp only at z1 z2 hv
  subst z1 z2 hv
  exact ⟨_, he, rfl, rfl, trivial⟩
theorem call_isK {X : Cx} : CallR X (.builtin "isinstance") (rIsK X.K) := by
  intro pins s σ H xs us Q I r h
  unfold rIsK at h
  obtain ⟨a, D, c, cv, b, rfl, hH, C, hcv, e, q⟩ := h
  cases r with
  | cons rx rr =>
    cases rr with
    | cons rt rr =>
      cases rr
      cases rx
      obtain rfl := hcv _ rt
      obtain ⟨oe, J⟩ := kp_inst I hH
      exact PySem.W.kia_one (PySem.W.handS_kitx_exc C.hg C.hk C.hs C.hd C.ha C.hn C.ht C.hm) I.kIn J e (fun z => nomatch z) fun tk => ⟨.bl b, H, I.kept (t' := tk) fun _ _ z => z, rfl, q⟩
/-- isinstance(None, ..) and of other things: the list layer's rule, or a kept exception -/
@[irreducible] def rIsB (K : PySem.W.Frag) : List V → Hp → VK → Prop := fun xs H Q => rIsK K xs H Q ∨ rIsi K xs H Q
theorem call_isB {X : Cx} : CallR X (.builtin "isinstance") (rIsB X.K) := by
  intro pins s σ H xs us Q I r h
  unfold rIsB at h
  rcases h with h | h
  · exact call_isK pins s σ H xs us Q I r h
  · exact call_isi pins s σ H xs us Q I r h
theorem rIsB.k {K : PySem.W.Frag} {H : Hp} {Q : VK} {xs : List V} (h : rIsK K xs H Q) : rIsB K xs H Q := by unfold rIsB; exact .inl h
theorem rIsB.i {K : PySem.W.Frag} {H : Hp} {Q : VK} {xs : List V} (h : rIsi K xs H Q) : rIsB K xs H Q := by unfold rIsB; exact .inr h
/-- whether an instance of t is one of C; of a built-in class -/
theorem kit_own {K : PySem.W.Frag} {t : Value} {C : Addr} {b : Bool} (i : PySem.W.isClsIn K C = true) (ty : PySem.W.typeIn K (.ref C) = some (.type "type")) (s : PySem.W.subIn K t (.ref C) = some b) (se : PySem.W.subIn K (.ref C) (.ref C) = some true) : PySem.W.kitOne K t (.ref C) = some b := by
  unfold PySem.W.kitOne
  by_cases e : (t == Value.ref C) = true
  · rw [if_pos e]
    have e' : t = .ref C := eq_of_beq e
    rw [e', se] at s
    exact s
  · rw [if_neg e]
    have i' : (PySem.W.clsIn K C).isSome = true := i
    show (if ((PySem.W.clsIn K C).isSome && PySem.W.typeIn K (.ref C) == some (.type "type")) = true then PySem.W.subIn K t (.ref C) else none) = some b
    rw [if_pos (by rw [i', ty]; rfl)]
    exact s
theorem kit_blt {K : PySem.W.Frag} {D : Addr} {T : String} {b : Bool} (s : PySem.W.subIn K (.ref D) (.type T) = some b) (m : PySem.W.kitMeta T = true := by decide +kernel) : PySem.W.kitOne K (.ref D) (.type T) = some b := by
  unfold PySem.W.kitOne
  rw [if_neg (by
    intro e
    have e' : Value.ref D = .type T := eq_of_beq e
    cases e')]
  show (if PySem.W.kitMeta T = true then PySem.W.subIn K (.ref D) (.type T) else none) = some b
  rw [if_pos m]
  exact s
/-- isinstance(e, (C1, C2, ..)) -/
@[irreducible] def rIsKT (K : PySem.W.Frag) : List V → Hp → VK → Prop := fun xs H Q => ∃ (a D tp : Addr) (cs : List V) (us : List Value) (b : Bool), xs = [.ref a, .ref tp] ∧ H a = some (Kp a (.ref D) none) ∧ ExcC K D ∧ H tp = some (.tup cs) ∧ Paired ClsV cs us ∧ PySem.W.kitAny K (.ref D) us = some b ∧ Q (.bl b) H
theorem rIsKT.mk {K : PySem.W.Frag} {H : Hp} {Q : VK} {a D tp : Addr} {cs : List V} {us : List Value} {b : Bool} (h : H a = some (Kp a (.ref D) none)) (hC : ExcC K D) (ht : H tp = some (.tup cs)) (hc : Paired ClsV cs us) (e : PySem.W.kitAny K (.ref D) us = some b) (q : Q (.bl b) H) : rIsKT K [.ref a, .ref tp] H Q := by
  unfold rIsKT; exact ⟨a, D, tp, cs, us, b, rfl, h, hC, ht, hc, e, q⟩
theorem call_isKT {X : Cx} : CallR X (.builtin "isinstance") (rIsKT X.K) := by
  intro pins s σ H xs us0 Q I r h
  unfold rIsKT at h
  obtain ⟨a, D, tp, cs, us, b, rfl, hH, C, hT, k, e, q⟩ := h
  obtain ⟨u1, u2, rfl, r1, r2⟩ := vals2 r
  cases r1
  cases r2
  obtain ⟨oe, J⟩ := kp_inst I hH
  obtain ⟨_, its, rv, o, h1, h2, n, h3⟩ := (show ObjOk X.prog X.w H s.heap tp (.tup cs) from I.hok tp _ hT)
  have e3 := ClsV.all k rv
  subst e3
  obtain ⟨oc, od, dt, sl⟩ := o
  simp only at h2 h3
  subst h2 h3
  exact PySem.W.kia_tup (PySem.W.handS_kitx_exc C.hg C.hk C.hs C.hd C.ha C.hn C.ht C.hm) I.kIn J h1 e (fun z => nomatch z) fun tk => ⟨.bl b, H, I.tok tk, rfl, q⟩
@[irreducible] def rIsBT (K : PySem.W.Frag) : List V → Hp → VK → Prop := fun xs H Q => rIsKT K xs H Q ∨ rIsiT K xs H Q
theorem call_isBT {X : Cx} : CallR X (.builtin "isinstance") (rIsBT X.K) := by
  intro pins s σ H xs us Q I r h
  unfold rIsBT at h
  rcases h with h | h
  · exact call_isKT pins s σ H xs us Q I r h
  · exact call_isiT pins s σ H xs us Q I r h
theorem rIsBT.k {K : PySem.W.Frag} {H : Hp} {Q : VK} {xs : List V} (h : rIsKT K xs H Q) : rIsBT K xs H Q := by unfold rIsBT; exact .inl h
theorem rIsBT.i {K : PySem.W.Frag} {H : Hp} {Q : VK} {xs : List V} (h : rIsiT K xs H Q) : rIsBT K xs H Q := by unfold rIsBT; exact .inr h
/-- a def that lets nothing out serves where something may be let out; two promises of one def -/
theorem FnOk.lift {P : Program} {w : World} {K : PySem.W.Frag} {mg : Str → Option Value} {base : Heap} {k : Nat} {f : Addr} {fd : FuncData} {ps : List Str} {sp : Sp} (F : FnOk P w K mg base CX0 k f fd ps sp) : FnOk P w K mg base (L2.CX P w) k f fd ps sp :=
  ⟨F.len, fun A outer s H args us vs Q E hr he hb hv hs => codeAny_mono (F.run A outer s H args us vs Q E hr he hb hv hs) fun r s' hq => by
    cases r with
    | error e => exact False.elim hq
    | ok fl =>
      cases fl with
      | ret u => exact hq
      | _ => exact False.elim hq⟩
theorem FnOk.or {P : Program} {w : World} {K : PySem.W.Frag} {mg : Str → Option Value} {base : Heap} {CX : CXT} {k : Nat} {f : Addr} {fd : FuncData} {ps : List Str} {sp sp' : Sp} (F : FnOk P w K mg base CX k f fd ps sp) (G : FnOk P w K mg base CX k f fd ps sp') :
    FnOk P w K mg base CX k f fd ps fun vs H Q E => sp vs H Q E ∨ sp' vs H Q E :=
  ⟨fun vs H Q E h => h.elim (F.len vs H Q E) (G.len vs H Q E), fun A outer s H args us vs Q E hr he hb hv hs => hs.elim (F.run A outer s H args us vs Q E hr he hb hv) (G.run A outer s H args us vs Q E hr he hb hv)⟩
end
def top (i : Nat) : Stmt := PySem.Challenge.pw_endnever_k12_machines_read.main.body.getD i (.Pass ⟨0, 0, 0, 0⟩)
abbrev s_L_mixed : Stmt := top 23
abbrev N_L_mixed : List Str := ["_law_cell", "_law_k", "_law_rest", "_law_number"]
theorem sc_L_mixed : FnScope ["_law_cell", "_law_k", "_law_rest", "_law_number"] ["_law_cell", "_law_k"] (defScope s_L_mixed) := ⟨rfl, rfl, rfl, by decide +kernel, rfl, by decide +kernel, by decide +kernel⟩
abbrev s_L_purse : Stmt := top 24
abbrev N_L_purse : List Str := ["_law_script", "_law_cells", "_law_number", "_law_k"]
theorem sc_L_purse : FnScope ["_law_script", "_law_cells", "_law_number", "_law_k"] ["_law_script"] (defScope s_L_purse) := ⟨rfl, rfl, rfl, by decide +kernel, rfl, by decide +kernel, by decide +kernel⟩
abbrev s_L_draw : Stmt := top 25
abbrev N_L_draw : List Str := ["_law_purse_here", "_law_out_of", "_law_drawn"]
theorem sc_L_draw : FnScope ["_law_purse_here", "_law_out_of", "_law_drawn"] ["_law_purse_here", "_law_out_of"] (defScope s_L_draw) := ⟨rfl, rfl, rfl, by decide +kernel, rfl, by decide +kernel, by decide +kernel⟩
abbrev s_L_machine : Stmt := top 26
abbrev N_L_machine : List Str := ["_law_purse_here", "_law_rows", "_law_signs", "_law_kind", "_law_found", "_law_k", "_law_row", "_law_j", "_law_entry"]
theorem sc_L_machine : FnScope ["_law_purse_here", "_law_rows", "_law_signs", "_law_kind", "_law_found", "_law_k", "_law_row", "_law_j", "_law_entry"] ["_law_purse_here"] (defScope s_L_machine) := ⟨rfl, rfl, rfl, by decide +kernel, rfl, by decide +kernel, by decide +kernel⟩
abbrev s_L_entry_text : Stmt := top 29
abbrev N_L_entry_text : List Str := ["_law_entry"]
theorem sc_L_entry_text : FnScope ["_law_entry"] ["_law_entry"] (defScope s_L_entry_text) := ⟨rfl, rfl, rfl, by decide +kernel, rfl, by decide +kernel, by decide +kernel⟩
abbrev s_L_text : Stmt := top 30
abbrev N_L_text : List Str := ["_law_machine_here", "_law_rows", "_law_row", "_law_entry"]
theorem sc_L_text : FnScope ["_law_machine_here", "_law_rows", "_law_row", "_law_entry"] ["_law_machine_here"] (defScope s_L_text) := ⟨rfl, rfl, rfl, by decide +kernel, rfl, by decide +kernel, by decide +kernel⟩
abbrev s_L_is_entry : Stmt := top 27
abbrev N_L_is_entry : List Str := ["_law_entry", "_law_rows", "_law_signs"]
theorem sc_L_is_entry : FnScope ["_law_entry", "_law_rows", "_law_signs"] ["_law_entry", "_law_rows", "_law_signs"] (defScope s_L_is_entry) := ⟨rfl, rfl, rfl, by decide +kernel, rfl, by decide +kernel, by decide +kernel⟩
abbrev s_L_is_machine : Stmt := top 28
abbrev N_L_is_machine : List Str := ["_law_machine_here", "_law_counts", "_law_row", "_law_entry"]
theorem sc_L_is_machine : FnScope ["_law_machine_here", "_law_counts", "_law_row", "_law_entry"] ["_law_machine_here"] (defScope s_L_is_machine) := ⟨rfl, rfl, rfl, by decide +kernel, rfl, by decide +kernel, by decide +kernel⟩
abbrev s_L_entry_of : Stmt := top 34
abbrev N_L_entry_of : List Str := ["_law_text_here"]
theorem sc_L_entry_of : FnScope ["_law_text_here"] ["_law_text_here"] (defScope s_L_entry_of) := ⟨rfl, rfl, rfl, by decide +kernel, rfl, by decide +kernel, by decide +kernel⟩
abbrev s_L_machine_of : Stmt := top 35
abbrev N_L_machine_of : List Str := ["_law_text_here", "_law_found", "_law_row", "_law_entries", "_law_word_here"]
theorem sc_L_machine_of : FnScope ["_law_text_here", "_law_found", "_law_row", "_law_entries", "_law_word_here"] ["_law_text_here"] (defScope s_L_machine_of) := ⟨rfl, rfl, rfl, by decide +kernel, rfl, by decide +kernel, by decide +kernel⟩
abbrev s_must : Stmt := top 19
abbrev N_must : List Str := ["good"]
theorem sc_must : FnScope ["good"] ["good"] (defScope s_must) := ⟨rfl, rfl, rfl, by decide +kernel, rfl, by decide +kernel, by decide +kernel⟩
abbrev s_is_entry : Stmt := top 14
abbrev N_is_entry : List Str := ["entry", "rows", "signs"]
theorem sc_is_entry : FnScope ["entry", "rows", "signs"] ["entry", "rows", "signs"] (defScope s_is_entry) := ⟨rfl, rfl, rfl, by decide +kernel, rfl, by decide +kernel, by decide +kernel⟩
abbrev s_is_machine : Stmt := top 15
abbrev N_is_machine : List Str := ["machine", "rows", "signs", "row", "entry"]
theorem sc_is_machine : FnScope ["machine", "rows", "signs", "row", "entry"] ["machine"] (defScope s_is_machine) := ⟨rfl, rfl, rfl, by decide +kernel, rfl, by decide +kernel, by decide +kernel⟩
abbrev s_read_entry : Stmt := top 20
abbrev N_read_entry : List Str := ["text"]
theorem sc_read_entry : FnScope ["text"] ["text"] (defScope s_read_entry) := ⟨rfl, rfl, rfl, by decide +kernel, rfl, by decide +kernel, by decide +kernel⟩
abbrev s_read_machine : Stmt := top 21
abbrev N_read_machine : List Str := ["text", "machine", "row", "entry"]
theorem sc_read_machine : FnScope ["text", "machine", "row", "entry"] ["text"] (defScope s_read_machine) := ⟨rfl, rfl, rfl, by decide +kernel, rfl, by decide +kernel, by decide +kernel⟩
abbrev s_L_read : Stmt := top 36
abbrev N_L_read : List Str := ["_law_text_here", "_law_found", "_law_caught", "e"]
theorem sc_L_read : FnScope ["_law_text_here", "_law_found", "_law_caught", "e"] ["_law_text_here"] (defScope s_L_read) := ⟨rfl, rfl, rfl, by decide +kernel, rfl, by decide +kernel, by decide +kernel⟩
abbrev s_L_same : Stmt := top 31
abbrev N_L_same : List Str := ["_law_found", "_law_due", "_law_k"]
theorem sc_L_same : FnScope ["_law_found", "_law_due", "_law_k"] ["_law_found", "_law_due"] (defScope s_L_same) := ⟨rfl, rfl, rfl, by decide +kernel, rfl, by decide +kernel, by decide +kernel⟩
abbrev s_L_word : Stmt := top 32
abbrev N_L_word : List Str := ["_law_caught", "_law_found"]
theorem sc_L_word : FnScope ["_law_caught", "_law_found"] ["_law_caught"] (defScope s_L_word) := ⟨rfl, rfl, rfl, by decide +kernel, rfl, by decide +kernel, by decide +kernel⟩
abbrev s_L_right : Stmt := top 37
abbrev N_L_right : List Str := ["_law_text_here", "_law_due", "_law_found", "_law_caught", "_law_row"]
theorem sc_L_right : FnScope ["_law_text_here", "_law_due", "_law_found", "_law_caught", "_law_row"] ["_law_text_here"] (defScope s_L_right) := ⟨rfl, rfl, rfl, by decide +kernel, rfl, by decide +kernel, by decide +kernel⟩
abbrev s_L_bent_text : Stmt := top 33
abbrev N_L_bent_text : List Str := ["_law_purse_here", "_law_text_here", "_law_near", "_law_signs", "_law_sign", "_law_at", "_law_kind", "_law_pair", "_law_words", "_law_spot", "_law_far"]
theorem sc_L_bent_text : FnScope ["_law_purse_here", "_law_text_here", "_law_near", "_law_signs", "_law_sign", "_law_at", "_law_kind", "_law_pair", "_law_words", "_law_spot", "_law_far"] ["_law_purse_here", "_law_text_here", "_law_near"] (defScope s_L_bent_text) := ⟨rfl, rfl, rfl, by decide +kernel, rfl, by decide +kernel, by decide +kernel⟩
abbrev s_law : Stmt := top 38
abbrev N_law : List Str := ["_law_script", "_law_purse_here", "_law_some", "_law_text_here", "_law_k", "_law_machine_here", "_law_turn"]
theorem sc_law : FnScope ["_law_script", "_law_purse_here", "_law_some", "_law_text_here", "_law_k", "_law_machine_here", "_law_turn"] ["_law_script"] (defScope s_law) := ⟨rfl, rfl, rfl, by decide +kernel, rfl, by decide +kernel, by decide +kernel⟩
/-- what the top has written: where each def stands, what the names hold -/
structure Tx (K : PySem.W.Frag) (mg : Str → Option Value) where
  a_L_mixed : Addr
  fd_L_mixed : FuncData
  F_L_mixed : Fun K "_law_mixed" "_law_mixed" s_L_mixed a_L_mixed fd_L_mixed
  b_L_mixed : Binds K fd_L_mixed ["_law_cell", "_law_k"] []
  m_L_mixed : mg "_law_mixed" = some (.ref a_L_mixed)
  a_L_purse : Addr
  fd_L_purse : FuncData
  F_L_purse : Fun K "_law_purse" "_law_purse" s_L_purse a_L_purse fd_L_purse
  b_L_purse : Binds K fd_L_purse ["_law_script"] []
  m_L_purse : mg "_law_purse" = some (.ref a_L_purse)
  a_L_draw : Addr
  fd_L_draw : FuncData
  F_L_draw : Fun K "_law_draw" "_law_draw" s_L_draw a_L_draw fd_L_draw
  b_L_draw : Binds K fd_L_draw ["_law_purse_here", "_law_out_of"] []
  m_L_draw : mg "_law_draw" = some (.ref a_L_draw)
  a_L_machine : Addr
  fd_L_machine : FuncData
  F_L_machine : Fun K "_law_machine" "_law_machine" s_L_machine a_L_machine fd_L_machine
  b_L_machine : Binds K fd_L_machine ["_law_purse_here"] []
  m_L_machine : mg "_law_machine" = some (.ref a_L_machine)
  a_L_entry_text : Addr
  fd_L_entry_text : FuncData
  F_L_entry_text : Fun K "_law_entry_text" "_law_entry_text" s_L_entry_text a_L_entry_text fd_L_entry_text
  b_L_entry_text : Binds K fd_L_entry_text ["_law_entry"] []
  m_L_entry_text : mg "_law_entry_text" = some (.ref a_L_entry_text)
  a_L_text : Addr
  fd_L_text : FuncData
  F_L_text : Fun K "_law_text" "_law_text" s_L_text a_L_text fd_L_text
  b_L_text : Binds K fd_L_text ["_law_machine_here"] []
  m_L_text : mg "_law_text" = some (.ref a_L_text)
  a_L_is_entry : Addr
  fd_L_is_entry : FuncData
  F_L_is_entry : Fun K "_law_is_entry" "_law_is_entry" s_L_is_entry a_L_is_entry fd_L_is_entry
  b_L_is_entry : Binds K fd_L_is_entry ["_law_entry", "_law_rows", "_law_signs"] []
  m_L_is_entry : mg "_law_is_entry" = some (.ref a_L_is_entry)
  a_L_is_machine : Addr
  fd_L_is_machine : FuncData
  F_L_is_machine : Fun K "_law_is_machine" "_law_is_machine" s_L_is_machine a_L_is_machine fd_L_is_machine
  b_L_is_machine : Binds K fd_L_is_machine ["_law_machine_here"] []
  m_L_is_machine : mg "_law_is_machine" = some (.ref a_L_is_machine)
  a_L_entry_of : Addr
  fd_L_entry_of : FuncData
  F_L_entry_of : Fun K "_law_entry_of" "_law_entry_of" s_L_entry_of a_L_entry_of fd_L_entry_of
  b_L_entry_of : Binds K fd_L_entry_of ["_law_text_here"] []
  m_L_entry_of : mg "_law_entry_of" = some (.ref a_L_entry_of)
  a_L_machine_of : Addr
  fd_L_machine_of : FuncData
  F_L_machine_of : Fun K "_law_machine_of" "_law_machine_of" s_L_machine_of a_L_machine_of fd_L_machine_of
  b_L_machine_of : Binds K fd_L_machine_of ["_law_text_here"] []
  m_L_machine_of : mg "_law_machine_of" = some (.ref a_L_machine_of)
  a_must : Addr
  fd_must : FuncData
  F_must : Fun K "must" "must" s_must a_must fd_must
  b_must : Binds K fd_must ["good"] []
  m_must : mg "must" = some (.ref a_must)
  a_is_entry : Addr
  fd_is_entry : FuncData
  F_is_entry : Fun K "is_entry" "is_entry" s_is_entry a_is_entry fd_is_entry
  b_is_entry : Binds K fd_is_entry ["entry", "rows", "signs"] []
  m_is_entry : mg "is_entry" = some (.ref a_is_entry)
  a_is_machine : Addr
  fd_is_machine : FuncData
  F_is_machine : Fun K "is_machine" "is_machine" s_is_machine a_is_machine fd_is_machine
  b_is_machine : Binds K fd_is_machine ["machine"] []
  m_is_machine : mg "is_machine" = some (.ref a_is_machine)
  a_read_entry : Addr
  fd_read_entry : FuncData
  F_read_entry : Fun K "read_entry" "read_entry" s_read_entry a_read_entry fd_read_entry
  b_read_entry : Binds K fd_read_entry ["text"] []
  m_read_entry : mg "read_entry" = some (.ref a_read_entry)
  a_read_machine : Addr
  fd_read_machine : FuncData
  F_read_machine : Fun K "read_machine" "read_machine" s_read_machine a_read_machine fd_read_machine
  b_read_machine : Binds K fd_read_machine ["text"] []
  m_read_machine : mg "read_machine" = some (.ref a_read_machine)
  a_L_read : Addr
  fd_L_read : FuncData
  F_L_read : Fun K "_law_read" "_law_read" s_L_read a_L_read fd_L_read
  b_L_read : Binds K fd_L_read ["_law_text_here"] []
  m_L_read : mg "_law_read" = some (.ref a_L_read)
  a_L_same : Addr
  fd_L_same : FuncData
  F_L_same : Fun K "_law_same" "_law_same" s_L_same a_L_same fd_L_same
  b_L_same : Binds K fd_L_same ["_law_found", "_law_due"] []
  m_L_same : mg "_law_same" = some (.ref a_L_same)
  a_L_word : Addr
  fd_L_word : FuncData
  F_L_word : Fun K "_law_word" "_law_word" s_L_word a_L_word fd_L_word
  b_L_word : Binds K fd_L_word ["_law_caught"] []
  m_L_word : mg "_law_word" = some (.ref a_L_word)
  a_L_right : Addr
  fd_L_right : FuncData
  F_L_right : Fun K "_law_right" "_law_right" s_L_right a_L_right fd_L_right
  b_L_right : Binds K fd_L_right ["_law_text_here"] []
  m_L_right : mg "_law_right" = some (.ref a_L_right)
  a_L_bent_text : Addr
  fd_L_bent_text : FuncData
  F_L_bent_text : Fun K "_law_bent_text" "_law_bent_text" s_L_bent_text a_L_bent_text fd_L_bent_text
  b_L_bent_text : Binds K fd_L_bent_text ["_law_purse_here", "_law_text_here", "_law_near"] []
  m_L_bent_text : mg "_law_bent_text" = some (.ref a_L_bent_text)
  a_law : Addr
  fd_law : FuncData
  F_law : Fun K "law" "law" s_law a_law fd_law
  b_law : Binds K fd_law ["_law_script"] []
  m_law : mg "law" = some (.ref a_law)
  C_NoText : Addr
  m_NoText : mg "NoText" = some (.ref C_NoText)
  C_MillError : Addr
  m_MillError : mg "MillError" = some (.ref C_MillError)
  C_NoMachine : Addr
  m_NoMachine : mg "NoMachine" = some (.ref C_NoMachine)
  C_NoName : Addr
  m_NoName : mg "NoName" = some (.ref C_NoName)
  C_Twice : Addr
  m_Twice : mg "Twice" = some (.ref C_Twice)
  C_Full : Addr
  m_Full : mg "Full" = some (.ref C_Full)
  C_NoSuch : Addr
  m_NoSuch : mg "NoSuch" = some (.ref C_NoSuch)
  C_NoPaper : Addr
  m_NoPaper : mg "NoPaper" = some (.ref C_NoPaper)
  C_NoDeed : Addr
  m_NoDeed : mg "NoDeed" = some (.ref C_NoDeed)
  C_NoSize : Addr
  m_NoSize : mg "NoSize" = some (.ref C_NoSize)
  tk_MOST_ROWS : Tok
  m_MOST_ROWS : mg "MOST_ROWS" = some (.int 4 tk_MOST_ROWS)
  tk_MOST_SIGNS : Tok
  m_MOST_SIGNS : mg "MOST_SIGNS" = some (.int 4 tk_MOST_SIGNS)
  tk_FIGURES : Tok
  m_FIGURES : mg "FIGURES" = some (.str "0123456789" tk_FIGURES)
  tk_ROWS : Tok
  m_ROWS : mg "ROWS" = some (.str "ABCD" tk_ROWS)
  n_range : mg "range" = none
  n_len : mg "len" = none
  n_abs : mg "abs" = none
  n_str : mg "str" = none
  n_int : mg "int" = none
  n_min : mg "min" = none
  n_max : mg "max" = none
  n_all : mg "all" = none
  n_isinstance : mg "isinstance" = none
  n_tuple : mg "tuple" = none
  n_list : mg "list" = none
  n_bool : mg "bool" = none
  n_ValueError : mg "ValueError" = none
  x_NoText : PySem.W.excIn K C_NoText [.type "ValueError", .type "Exception", .type "BaseException", .type "object"] "ValueError.__new__" = true
  k_NoText : PySem.W.keepIn K (.ref C_NoText) = true
  b_NoText : PySem.W.subIn K (.ref C_NoText) (.type "BaseException") = some true
  t_NoText : PySem.W.typeIn K (.ref C_NoText) = some (.type "type")
  h_NoText : PySem.W.hasDictIn K C_NoText = true
  k_MillError : PySem.W.keepIn K (.ref C_MillError) = true
  b_MillError : PySem.W.subIn K (.ref C_MillError) (.type "BaseException") = some true
  t_MillError : PySem.W.typeIn K (.ref C_MillError) = some (.type "type")
  h_MillError : PySem.W.hasDictIn K C_MillError = true
  hg_NoText : PySem.W.findIn K (.ref C_NoText) "__getattribute__" = some (some (.builtin "BaseException.__getattribute__"))
  hk_NoText : PySem.W.findIn K (.ref C_NoText) "__getattr__" = some none
  ha_NoText : PySem.W.findIn K (.ref C_NoText) "__class__" = some (some (.builtin "object.__class__"))
  hm_NoText : PySem.W.mroIn K C_NoText (.type "object") = some true
  s_NoText_MillError : PySem.W.subIn K (.ref C_NoText) (.ref C_MillError) = some true
  hn_ : PySem.W.specialIn K (.builtin "object.__class__") "__get__" = some (some (.builtin "getset_descriptor.__get__"))
  ht_ : PySem.W.takesIn K (.builtin "object.__class__") = some true
  i_NoMachine : PySem.W.isClsIn K C_NoMachine = true
  se_NoMachine : PySem.W.subIn K (.ref C_NoMachine) (.ref C_NoMachine) = some true
  t_NoMachine : PySem.W.typeIn K (.ref C_NoMachine) = some (.type "type")
  s_NoText_NoMachine : PySem.W.subIn K (.ref C_NoText) (.ref C_NoMachine) = some false
  sn_NoMachine : PySem.W.subIn K (.type "NoneType") (.ref C_NoMachine) = some false
  i_NoText : PySem.W.isClsIn K C_NoText = true
  se_NoText : PySem.W.subIn K (.ref C_NoText) (.ref C_NoText) = some true
  s_NoText_NoText : PySem.W.subIn K (.ref C_NoText) (.ref C_NoText) = some true
  sn_NoText : PySem.W.subIn K (.type "NoneType") (.ref C_NoText) = some false
  i_NoName : PySem.W.isClsIn K C_NoName = true
  se_NoName : PySem.W.subIn K (.ref C_NoName) (.ref C_NoName) = some true
  t_NoName : PySem.W.typeIn K (.ref C_NoName) = some (.type "type")
  s_NoText_NoName : PySem.W.subIn K (.ref C_NoText) (.ref C_NoName) = some false
  sn_NoName : PySem.W.subIn K (.type "NoneType") (.ref C_NoName) = some false
  i_Twice : PySem.W.isClsIn K C_Twice = true
  se_Twice : PySem.W.subIn K (.ref C_Twice) (.ref C_Twice) = some true
  t_Twice : PySem.W.typeIn K (.ref C_Twice) = some (.type "type")
  s_NoText_Twice : PySem.W.subIn K (.ref C_NoText) (.ref C_Twice) = some false
  sn_Twice : PySem.W.subIn K (.type "NoneType") (.ref C_Twice) = some false
  i_Full : PySem.W.isClsIn K C_Full = true
  se_Full : PySem.W.subIn K (.ref C_Full) (.ref C_Full) = some true
  t_Full : PySem.W.typeIn K (.ref C_Full) = some (.type "type")
  s_NoText_Full : PySem.W.subIn K (.ref C_NoText) (.ref C_Full) = some false
  sn_Full : PySem.W.subIn K (.type "NoneType") (.ref C_Full) = some false
  i_NoSuch : PySem.W.isClsIn K C_NoSuch = true
  se_NoSuch : PySem.W.subIn K (.ref C_NoSuch) (.ref C_NoSuch) = some true
  t_NoSuch : PySem.W.typeIn K (.ref C_NoSuch) = some (.type "type")
  s_NoText_NoSuch : PySem.W.subIn K (.ref C_NoText) (.ref C_NoSuch) = some false
  sn_NoSuch : PySem.W.subIn K (.type "NoneType") (.ref C_NoSuch) = some false
  i_NoPaper : PySem.W.isClsIn K C_NoPaper = true
  se_NoPaper : PySem.W.subIn K (.ref C_NoPaper) (.ref C_NoPaper) = some true
  t_NoPaper : PySem.W.typeIn K (.ref C_NoPaper) = some (.type "type")
  s_NoText_NoPaper : PySem.W.subIn K (.ref C_NoText) (.ref C_NoPaper) = some false
  sn_NoPaper : PySem.W.subIn K (.type "NoneType") (.ref C_NoPaper) = some false
  i_NoDeed : PySem.W.isClsIn K C_NoDeed = true
  se_NoDeed : PySem.W.subIn K (.ref C_NoDeed) (.ref C_NoDeed) = some true
  t_NoDeed : PySem.W.typeIn K (.ref C_NoDeed) = some (.type "type")
  s_NoText_NoDeed : PySem.W.subIn K (.ref C_NoText) (.ref C_NoDeed) = some false
  sn_NoDeed : PySem.W.subIn K (.type "NoneType") (.ref C_NoDeed) = some false
  i_NoSize : PySem.W.isClsIn K C_NoSize = true
  se_NoSize : PySem.W.subIn K (.ref C_NoSize) (.ref C_NoSize) = some true
  t_NoSize : PySem.W.typeIn K (.ref C_NoSize) = some (.type "type")
  s_NoText_NoSize : PySem.W.subIn K (.ref C_NoText) (.ref C_NoSize) = some false
  sn_NoSize : PySem.W.subIn K (.type "NoneType") (.ref C_NoSize) = some false
  i_MillError : PySem.W.isClsIn K C_MillError = true
  se_MillError : PySem.W.subIn K (.ref C_MillError) (.ref C_MillError) = some true
  sn_MillError : PySem.W.subIn K (.type "NoneType") (.ref C_MillError) = some false
  s_NoText_ValueError : PySem.W.subIn K (.ref C_NoText) (.type "ValueError") = some true
theorem ec_NoText {K : PySem.W.Frag} {mg : Str → Option Value} (t : Tx K mg) : ExcC K t.C_NoText := ⟨t.hg_NoText, t.hk_NoText, t.b_NoText, t.h_NoText, t.ha_NoText, t.hn_, t.ht_, t.hm_NoText⟩
theorem em_NoText_MillError {K : PySem.W.Frag} {mg : Str → Option Value} (t : Tx K mg) : PySem.W.exmOne K (.ref t.C_NoText) (.ref t.C_MillError) = some true := PySem.W.exm_ref t.b_MillError t.h_MillError t.t_MillError t.s_NoText_MillError
section
variable {P : Program} {w : World} {K : PySem.W.Frag} {mg : Str → Option Value} {base : Heap}
/-! ### draws -/
def sp_L_mixed : Sp := fun vs H Q _ => ∃ c k : Int, vs = [.int c, .int k] ∧ 0 ≤ k ∧ k < 1000 ∧ ∀ n : Int, 0 ≤ n → n < 2147483587 → Q (.int n) H
theorem ok_L_mixed (t : Tx K mg) : FnOk P w K mg base CX0 1 t.a_L_mixed t.fd_L_mixed ["_law_cell", "_law_k"] sp_L_mixed := by
  refine t.F_L_mixed.ok sc_L_mixed (fun vs H Q E h => ?_) (fun cdv A outer s H vs Q E hr h => ?_)
  · obtain ⟨c, k, rfl, _⟩ := h
    rfl
  · obtain ⟨c, k, rfl, k0, k1, q⟩ := h
    refine ⟨_, (pss_cons (ps_set (i := 2) sc_L_mixed.nd rfl (by first | exact Or.inl rfl | exact Or.inr rfl) (pe_op op_mod (pv 0) (pe_op op_pow pe_int pe_int)))
      (pss_cons (ps_set (i := 3) sc_L_mixed.nd rfl (by first | exact Or.inl rfl | exact Or.inr rfl) (pe_op op_mod (pe_op op_mul (pe_op op_add (pe_op op_add (pe_op op_add (pe_op op_mul (pv 2) (pv 2)) (pe_op op_mul pe_int (pv 2))) (pe_op op_mul pe_int (pv 1))) pe_int) pe_int) pe_int))
      (pss_one (ps_ret (pe_op op_mod (pe_op op_add (pe_op op_mul (pv 3) (pv 3)) pe_int) pe_int))))), ?_⟩
    have e15 : (10 : Int) ^ (15 : Int).toNat = 1000000000000000 := by decide
    refine ⟨_, rfl, _, _, rfl, rfl, ⟨by decide, by decide, by decide⟩, _, _, rfl, rfl, (by show (0 : Int) < 10 ^ (15 : Int).toNat; decide), ?_⟩
    rw [e15]
    have h0 : (0 : Int) ≤ c % 1000000000000000 := Int.emod_nonneg _ (by decide)
    have h1 : c % 1000000000000000 < 1000000000000000 := Int.emod_lt_of_pos _ (by decide)
    generalize c % 1000000000000000 = r at h0 h1
    refine ⟨_, rfl, _, rfl, _, _, rfl, rfl, .inl ⟨by omega, by omega⟩, _, rfl, _, _, rfl, rfl, .inl ⟨by decide, by decide⟩, _, _, rfl, rfl, _, rfl, _, _, rfl, rfl, .inl ⟨by decide, by decide⟩, _, _, rfl, rfl, _, _, rfl, rfl,
      _, _, rfl, rfl, .inr ⟨by decide, by decide⟩, _, _, rfl, rfl, (by show (0 : Int) < 2147483629; decide), ?_⟩
    have g0 := Int.emod_nonneg ((r * r + 3 * r + 7919 * k + 1) * 48271) (show (2147483629 : Int) ≠ 0 by decide)
    have g1 := Int.emod_lt_of_pos ((r * r + 3 * r + 7919 * k + 1) * 48271) (show (0 : Int) < 2147483629 by decide)
    generalize (r * r + 3 * r + 7919 * k + 1) * 48271 % 2147483629 = n at g0 g1
    refine ⟨_, rfl, _, rfl, _, _, rfl, rfl, .inl ⟨by omega, by omega⟩, _, _, rfl, rfl, _, _, rfl, rfl, (by show (0 : Int) < 2147483587; decide), ?_⟩
    exact q _ (Int.emod_nonneg _ (by decide)) (Int.emod_lt_of_pos _ (by decide))
/-- the purse: two numbers that aren't below 0 -/
def PurseO (a b : Int) : HO := .lst [.int a, .int b]
def sp_L_purse (K : PySem.W.Frag) : Sp := fun vs H Q _ => ∃ (l : Addr) (ns : List Int), vs = [.ref l] ∧ SqL K H l (ns.map V.int) ∧ ns.length ≤ 63 ∧
  ∀ (a b : Int) (p : Addr) (H' : Hp), 0 ≤ a → 0 ≤ b → Same H H' → H p = none → H' p = some (PurseO a b) → Q (.ref p) H'
theorem ok_L_purse (t : Tx K mg) : FnOk P w K mg base CX0 2 t.a_L_purse t.fd_L_purse ["_law_script"] (sp_L_purse K) := by
  refine t.F_L_purse.ok sc_L_purse (fun vs H Q E h => ?_) (fun cdv A outer s H vs Q E hr h => ?_)
  · obtain ⟨l, ns, rfl, _⟩ := h
    rfl
  · obtain ⟨l, ns, rfl, hS, hn, q⟩ := h
    refine ⟨_, (pss_cons (ps_set (i := 1) sc_L_purse.nd rfl (by first | exact Or.inl rfl | exact Or.inr rfl) (pe_op op_cat (pe_slice sl_list (pv 0) po_none (po_some pe_int)) (pe_lst (pa_cons pe_int pa_nil))))
      (pss_cons (ps_set (i := 2) sc_L_purse.nd rfl (by first | exact Or.inl rfl | exact Or.inr rfl) pe_int)
      (pss_cons (ps_for PassesOwn.never rfl (pi_range1 (by rfl) t.n_range (pa_cons pe_int pa_nil)) (pg_name (i := 3) sc_L_purse.nd rfl (by first | exact Or.inl rfl | exact Or.inr rfl)) (pss_one (ps_set (i := 2) sc_L_purse.nd rfl (by first | exact Or.inl rfl | exact Or.inr rfl) (pe_op op_add (pe_op op_mul (pv 2) pe_int) (pe_call (ok_L_mixed t) (hr.mono (by decide)) (by rfl) t.m_L_mixed t.F_L_mixed.kp t.b_L_mixed .nil pass0 (pa_cons (pe_ix ix_list (pv 1) (pe_op op_mod (pv 3) (pe_callB (id := "len") call_lenQ (by rfl) t.n_len (by decide +kernel) (pa_cons (pv 1) pa_nil))) (fun _ _ => rfl)) (pa_cons (pv 3) pa_nil)))))))
      (pss_cons (ps_if (pt_cmpR op_ge (pe_callB (id := "abs") call_abs (by rfl) t.n_abs (by decide +kernel) (pa_cons (pe_ix ix_list (pv 1) pe_int (fun _ _ => rfl)) pa_nil)) (pe_op op_pow pe_int pe_int) (nomark _)) (pss_one (ps_ret (pe_lst (pa_cons (pe_callB (id := "abs") call_abs (by rfl) t.n_abs (by decide +kernel) (pa_cons (pe_ix ix_list (pv 1) pe_int (fun _ _ => rfl)) pa_nil)) (pa_cons (pv 2) pa_nil))))) pss_nil)
      (pss_one (ps_ret (pe_lst (pa_cons (pv 2) (pa_cons (pv 2) pa_nil))))))))), ?_⟩
    refine ⟨_, rfl, _, rfl, l, _, rfl, hS, fun p np => ?_⟩
    rw [cut_63 hn]
    have e0 : ([V.int 0] : List V) = [(0 : Int)].map V.int := rfl
    refine ⟨by show 1 ≤ sizeLine; decide, fun p2 np2 => ⟨p, p2, _, _, rfl, rfl, (by rw [upd_ne (ne_of_none upd_same np2)]; exact upd_same), upd_same, (by show _ + 1 ≤ _; rw [List.length_map]; exact Nat.le_trans (Nat.add_le_add_right hn 1) (by decide)), fun p3 np3 => ?_⟩⟩
    rw [e0, ← List.map_append]
    have s3 : Same H (upd (upd (upd H p (.lst (ns.map V.int))) p2 (.lst ([(0 : Int)].map V.int))) p3 (.lst ((ns ++ [0]).map V.int))) := sm_new (sm_new (sm_new (Same.refl H) np) np2) np3
    have hl : 0 < (ns ++ [0]).length := by simp
    generalize ec : ns ++ [0] = cs at s3 hl
    have h3 : (upd (upd (upd H p (.lst (ns.map V.int))) p2 (.lst ([(0 : Int)].map V.int))) p3 (.lst (cs.map V.int))) p3 = some (.lst (cs.map V.int)) := upd_same
    generalize upd (upd (upd H p (.lst (ns.map V.int))) p2 (.lst ([(0 : Int)].map V.int))) p3 (.lst (cs.map V.int)) = H3 at s3 h3
    refine ⟨64, rfl, by decide, by decide, for_range (lo := 0) (n := 64) (fun i σ H2 => ∃ (n : Int) (v : Option V), σ = [some (.ref l), some (.ref p3), some (.int n), v] ∧ H2 = H3 ∧ 0 ≤ n) ⟨1, none, rfl, rfl, by decide⟩ ?_ ?_⟩
    · rintro i σ H2 hi ⟨n, v, rfl, rfl, hn0⟩
      refine ⟨_, rfl, _, _, rfl, rfl, .inr ⟨by decide, by decide⟩, ?_⟩
      have hm := Int.emod_nonneg (0 + (i : Int)) (show ((cs.map V.int).length : Int) ≠ 0 by rw [List.length_map]; omega)
      have hm1 := Int.emod_lt_of_pos (0 + (i : Int)) (show (0 : Int) < ((cs.map V.int).length : Int) by rw [List.length_map]; omega)
      have hj : (((0 + (i : Int)) % ((cs.map V.int).length : Int)).toNat : Int) = (0 + (i : Int)) % ((cs.map V.int).length : Int) := Int.toNat_of_nonneg hm
      have hj1 : ((0 + (i : Int)) % ((cs.map V.int).length : Int)).toNat < cs.length := by rw [List.length_map] at hm1 ⊢; omega
      refine ⟨_, rfl, _, rfl, _, rfl, p3, _, rfl, .inl (SqL.of h3), _, _, rfl, rfl, (by rw [List.length_map]; omega), p3, _, _, _, rfl, rfl, SqL.of h3, at_of hj.symm (by rw [List.getElem?_map, List.getElem?_eq_getElem hj1]; rfl), ?_⟩
      refine ⟨_, rfl, _, _, rfl, by omega, by omega, fun m m0 m1 => ⟨_, _, rfl, rfl, ?_⟩⟩
      exact ⟨_, _, rfl, rfl, by omega⟩
    · rintro σ H2 ⟨n, v, rfl, rfl, hn0⟩
      have h0 : (cs.map V.int)[0]? = some (.int (cs[0])) := by rw [List.getElem?_map, List.getElem?_eq_getElem hl]; rfl
      refine ⟨_, rfl, p3, _, _, _, rfl, rfl, SqL.of h3, atI_nat (j := 0) h0, _, rfl, _, _, rfl, rfl, ⟨by decide, by decide, by decide⟩, _, _, rfl, rfl, _, rfl, ?_⟩
      refine ite2 (fun c => ?_) (fun c => ?_)
      · refine ⟨_, rfl, p3, _, _, _, rfl, rfl, SqL.of h3, atI_nat (j := 0) h0, _, rfl, _, rfl, by show 2 ≤ sizeLine; decide, fun q0 nq => ?_⟩
        exact q _ _ q0 _ (by split <;> omega) hn0 (sm_new s3 nq) (s3.free nq) upd_same
      · refine ⟨_, rfl, _, rfl, by show 2 ≤ sizeLine; decide, fun q0 nq => ?_⟩
        exact q _ _ q0 _ hn0 hn0 (sm_new s3 nq) (s3.free nq) upd_same
def sp_L_draw : Sp := fun vs H Q _ => ∃ (p : Addr) (a b n : Int), vs = [.ref p, .int n] ∧ H p = some (PurseO a b) ∧ 0 ≤ a ∧ 0 ≤ b ∧ 0 < n ∧ n < 1267650600228229401496703205376 ∧
  ∀ d a' b' : Int, 0 ≤ d → d < n → 0 ≤ a' → 0 ≤ b' → Q (.int d) (upd H p (PurseO a' b'))
theorem ok_L_draw (t : Tx K mg) : FnOk P w K mg base CX0 1 t.a_L_draw t.fd_L_draw ["_law_purse_here", "_law_out_of"] sp_L_draw := by
  refine t.F_L_draw.ok sc_L_draw (fun vs H Q E h => ?_) (fun cdv A outer s H vs Q E hr h => ?_)
  · obtain ⟨p, a, b, n, rfl, _⟩ := h
    rfl
  · obtain ⟨p, a, b, n, rfl, hp, ha, hb, n0, n1, q⟩ := h
    refine ⟨_, (pss_cons (ps_if (pt_cmpR op_eq (pe_ix ix_list (pv 0) pe_int (fun _ _ => rfl)) pe_int (nomark _)) (pss_one (ps_asg (pe_ix ix_list (pv 0) pe_int (fun _ _ => rfl)) (pg_sub (pv 0) pe_int set_list))) pss_nil)
      (pss_cons (ps_set (i := 2) sc_L_draw.nd rfl (by first | exact Or.inl rfl | exact Or.inr rfl) (pe_op op_mod (pe_ix ix_list (pv 0) pe_int (fun _ _ => rfl)) (pv 1)))
      (pss_cons (ps_asg (pe_op op_fdivW (pe_ix ix_list (pv 0) pe_int (fun _ _ => rfl)) (pv 1)) (pg_sub (pv 0) pe_int set_list))
      (pss_one (ps_ret (pv 2)))))), ?_⟩
    refine ⟨_, rfl, p, _, _, _, rfl, rfl, SqL.of hp, atI_nat (j := 0) rfl, rfl, _, rfl, ?_⟩
    refine ite2 (fun c => ?_) (fun c => ?_)
    · refine ⟨_, rfl, p, _, _, _, rfl, rfl, SqL.of hp, atI_nat (j := 1) rfl, _, rfl, p, _, _, 0, rfl, rfl, hp, rfl, ?_⟩
      refine ⟨_, rfl, p, _, _, _, rfl, rfl, SqL.of upd_same, atI_nat (j := 0) rfl, _, rfl, _, _, rfl, rfl, n0, ?_⟩
      refine ⟨_, rfl, p, _, _, _, rfl, rfl, SqL.of upd_same, atI_nat (j := 0) rfl, _, rfl, _, _, rfl, rfl, wide_div n0 (b := 100) (by have e : (2 : Nat) ^ 100 = 1267650600228229401496703205376 := rfl; rw [e]; omega) (by decide) (by decide), _, rfl, p, _, _, 0, rfl, rfl, upd_same, rfl, _, rfl, ?_⟩
      rw [upd_upd]
      exact q _ _ _ (Int.emod_nonneg _ (by omega)) (Int.emod_lt_of_pos _ n0) (Int.ediv_nonneg hb (by omega)) hb
    · refine ⟨_, rfl, p, _, _, _, rfl, rfl, SqL.of hp, atI_nat (j := 0) rfl, _, rfl, _, _, rfl, rfl, n0, ?_⟩
      refine ⟨_, rfl, p, _, _, _, rfl, rfl, SqL.of hp, atI_nat (j := 0) rfl, _, rfl, _, _, rfl, rfl, wide_div n0 (b := 100) (by have e : (2 : Nat) ^ 100 = 1267650600228229401496703205376 := rfl; rw [e]; omega) (by decide) (by decide), _, rfl, p, _, _, 0, rfl, rfl, hp, rfl, _, rfl, ?_⟩
      exact q _ _ _ (Int.emod_nonneg _ (by omega)) (Int.emod_lt_of_pos _ n0) (Int.ediv_nonneg ha (by omega)) hb
/-! ### a list comprehension whose element may let an exception out -/
section
variable {X : Cx}
/-- an exception in our air goes out of a block whose names lie at C -/
theorem XE.block {W : WX} {C : Addr} {ce : Env} {m : Str → Option Value} {u : Value} {s' : Shared} (hst : X.stack = X.env :: X.outer) (hfr : X.env.frame = some X.env.locals) (tk : Takes X W)
    (x : XE X (fun cls d σ H => W cls d σ H ∧ H C = none) u s') (hcf : ce.frame = X.env.frame) (hcl : ce.locals = C) (hn : s'.heap.Ns C m)
    (cL : C ≠ X.env.locals) (cS : C ∉ frs X.stack) (cE : C ∈ X.ex ∨ X.s_0.heap.objs.size ≤ C) (cC : ∀ y c, X.env.cells.lookup y = some c → c ≠ C) (cP : ∀ p ∈ X.pn, p.1 ≠ C) :
    notedBy (model X.prog X.w) X.A ce (CompFails (model X.prog X.w) X.A X.xe ce) u s' := by
  obtain ⟨a, B, sI, pI, σI, HI, cls, d, rfl, J, nb, up, sky, na, os, ag, hw, hHC⟩ := x
  have hA : X.A.frames = some (X.env :: X.outer) := J.ok.frames.trans (congrArg some hst)
  have fin : ∀ h1, HandSPX.HeldZ B X.stack a (Zc cls d) X.env.locals h1 → s'.heap.UpToSlots h1 → CompFails (model X.prog X.w) X.A X.xe ce (.ref a) { s' with heap := h1 } := fun h1 hh up1 => by
    obtain ⟨b1, bn, fr, oe, vs, T, oT, ts, he, hz, hd, hv, hnT, hTe, hT, hdT, h3⟩ := hh
    refine ⟨m, by rw [hcl]; exact hn.upToSlots up1, fun h2 m2 hn2 hs2 => ?_⟩
    rw [hcl] at hn2 hs2
    obtain ⟨oC, es, ep, hoC, hdC, _⟩ := hn.upToSlots up1
    have aC : a ≠ C := fun z => by
      rw [z, hoC] at he
      cases he
      rw [hdC] at hd; cases hd
    have tC : T ≠ C := fun z => by
      rw [z, hoC] at hT
      cases hT
      rw [hdC] at hdT; cases hdT
    have keep2 : ∀ b o, b ≠ C → h1.get? b = some o → h2.get? b = some o := fun b o hb e => (hs2.2 b hb).trans e
    have none1 : ∀ b, B.get? b = none → (PySem.W.hideAll B [C]).get? b = none := fun b e => by
      cases q : (PySem.W.hideAll B [C]).get? b with
      | none => rfl
      | some o =>
        rw [PySem.W.of_hideAll _ q] at e; cases e
    have ofC : ∀ {h : Heap} {b o}, (PySem.W.hideAll h [C]).get? b = some o → b ≠ C := fun {h b o} e z => by
      rw [z, PySem.W.hideAll_none [C] List.mem_cons_self] at e; cases e
    have held : HandSPX.HeldZ (PySem.W.hideAll B [C]) X.stack a (Zc cls d) X.env.locals h2 :=
      ⟨fun b o e => keep2 b o (ofC e) (b1 b o (PySem.W.of_hideAll _ e)), none1 a bn, funFrames_none (Heap.FunFrames.sameBut hs2 hn2 fr) fun L hL => none1 L (by
          obtain ⟨k, _⟩ := fr.mem hL
          exact k), oe, vs, T, oT, ts, keep2 a _ aC he, hz, hd, hv, none1 T hnT, hTe, keep2 T _ tC hT, hdT, h3⟩
    unfold passOn
    refine wpAny_bind (wpAny_field (keep2 a _ aC he) hd hv ?_)
    rw [if_neg (show ¬ ((Value.ref T == Value.none) = true) from by simp), hcf, hfr]
    refine wpAny_bind (HandSPX.setFlight_onZ held fun h4 held4 up4 => wpAny_throw ?_)
    refine tk _ _ ⟨a, PySem.W.hideAll B [C], { sI with heap := PySem.W.hideAll sI.heap [C] }, [], σI, HI, cls, d, rfl, ?_, fun b o e hb => ?_, fun b o e nf => ?_, .inr (.inr held4), na, os, ag, hw⟩
    · exact (J.unpinned (pins := [])).turned (t' := sI.toks) (fun b o hb e => PySem.W.hideAll_get [C] e (by simpa using hb)) hHC cL cE cC (fun p hp => cP p (by simpa using hp))
    · exact PySem.W.hideAll_get [C] (nb b o (PySem.W.of_hideAll _ e) hb) (by simpa using ofC e)
    · obtain ⟨sl1, e1⟩ := up b o (PySem.W.of_hideAll _ e) nf
      obtain ⟨sl2, e2⟩ := up1 b _ e1 nf
      have e3 := keep2 b _ (ofC e) e2
      obtain ⟨sl3, e4⟩ := up4 b _ e3 nf
      exact ⟨sl3, e4⟩
  show wpAny _ X.A (noteFrame (.ref a) ce) _ _ s'
  rw [noteFrame_env _ hcf]
  rw [hst] at sky fin
  rcases sky with ⟨hB, hn0, hl, oe, vs, he, hz, hd, h1⟩ | fl | hh
  · exact HandSPX.look_newZ Zc.steady hA hl hfr he hB hn0 hd h1 hz fin
  · exact HandSPX.looks_onZ Zc.steady hA hfr fl fin
  · exact HandSPX.againZ hfr hh.2.2.2 (fin s'.heap hh (Heap.UpToSlots.refl _))
/-- what a block's element lets out: a call's exception, from a state of the block -/
def BlkX (X Y : Cx) (EX : XK) : Value → Shared → Prop := fun u s' => ∃ (pY : List (Addr × Obj)) (σY : St) (H1 : Hp) (s0 : Shared), Inv Y pY σY H1 s0 ∧ L2.CX X.prog X.w X.stack H1 s0 EX u s'
theorem lcx_core {pins : List (Addr × Obj)} {s : Shared} {σ : St} {H : Hp} {Q : VK} {EX : XK} {elt tg iter : Expr} {ifs : List Expr} {scope : Scope} {own : List (Str × Nat)} {pos pos' : Pos} {wi : TI} {g : TG} {tt : TT} {te : TE} {use : Option (Value → Sem Unit)} {Qf : Value → Shared → Prop}
    (hst : X.stack = X.env :: X.outer) (hfr : X.env.frame = some X.env.locals) (tk : Takes X (fun cls d _ H => EX cls d H)) (hc : X.calm = true) (hN : X.N.Nodup) (I : Inv X pins σ H s) (hi : L2.PI X tg iter wi) (ok : BlkOk X.N X.env.scope scope own)
    (hg : ∀ (s : Shared) (H : Hp) (C : Addr) (cl : List (Str × Addr)) (fp : List Addr), PG (X.blk s H scope (compEnvC scope cl C X.env) fp) tg g) (ht : ∀ (s : Shared) (H : Hp) (C : Addr) (cl : List (Str × Addr)) (fp : List Addr), PTs (X.blk s H scope (compEnvC scope cl C X.env) fp) ifs tt)
    (he : ∀ (s : Shared) (H : Hp) (C : Addr) (cl : List (Str × Addr)) (fp : List Addr) (xe : Value → Shared → Prop), (∀ σ, PassesAt (L2.CX X.prog X.w) ((X.blk s H scope (compEnvC scope cl C X.env) fp).wish xe) σ EX) → PE ((X.blk s H scope (compEnvC scope cl C X.env) fp).wish xe) elt te)
    (hs : ∀ x, foldedSetIterable iter X.env x = pure x) (h : tLc wi g tt te (own.map (·.2)) σ H Q)
    (fin : ∀ (D : Addr) (s' : Shared) (m : Str → Option Value) (H' : Hp) (ce : Env), Inv X pins σ H' s' → Q (.ref D) H' → s'.heap.Ns ce.locals m → FpOk X pins H' ce.locals → compEnds (model X.prog X.w) X.A X.xe use Qf (.ref D) ce (.ok .next) s') :
    wpAny (model X.prog X.w) X.A (comprehension (.ListComp elt [⟨tg, iter, ifs, 0⟩] scope pos) scope X.env pos' (newList []) false (eval iter X.env) use) Qf X.xe s := by
  have frees : ∀ y ∈ scope.names, y.2 = .free → ∃ c, X.env.cells.lookup y.1 = some c := fun y my yf => (ok.free y my yf).elim (fun k => I.ok.has _ (.inl k)) fun k => I.ok.has _ (.inr k)
  refine comprehension_at (use := use) rfl hs (closure_ok frees) ok.kind (fun y my yl => by rw [ok.uniq y my, yl]) (thn (hi.run pins s σ H _ I h) fun v1 t1 p1 => thn p1 fun v2 t2 p2 => ?_)
  obtain ⟨it, fp, tn, J, H2, rfl, I2, T, st2, f2, q⟩ := p2
  refine wpAny_newObj_type (newEnv_comp ?_) (by show 0 ≤ sizeLine; decide)
  -- the list
  obtain ⟨D, eD⟩ : ∃ D, t2.heap.objs.size = D := ⟨_, rfl⟩
  obtain ⟨W, ⟨n0, w0⟩, turn⟩ := q D (I2.hok.fresh (Nat.le_of_eq eD))
  obtain ⟨sL, eL⟩ : ∃ sL : Shared, ({ t2 with heap := t2.heap.push { cls := .type "list", data := .seq ([] : List Value).toArray } } : Shared) = sL := ⟨_, rfl⟩
  have hL : sL.heap = t2.heap.push { cls := .type "list", data := .seq ([] : List Value).toArray } := by rw [← eL]
  have toL : ∀ b o, t2.heap.get? b = some o → sL.heap.get? b = some o := fun b o z => by rw [hL]; exact Heap.get?_push_of_some _ z
  have IL : Inv X pins σ (upd H2 D (.lst [])) sL := by
    subst eL
    exact I2.laid (t' := t2.toks) (fun b o z => Heap.get?_push_of_some _ z) (Nat.le_of_eq eD) ⟨Nat.zero_le _, [], 0, .nil, by rw [← eD]; exact Heap.get?_push_size _ rfl⟩
  have fL : ∀ b ∈ fp, FpOk X pins (upd H2 D (.lst [])) b ∧ b < sL.heap.objs.size := fun b hb => by
    obtain ⟨o, z, _⟩ := T.obj _ _ st2 b hb
    have lt := Heap.lt_size z
    exact ⟨⟨by rw [upd_ne (by rw [← eD]; exact Nat.ne_of_lt lt)]; exact (f2 b hb).1, (f2 b hb).2⟩, by rw [hL, Heap.size_push]; exact Nat.lt_succ_of_lt lt⟩
  -- the block
  have IB := block_start IL ok hN fL
  have pgs := hg sL (upd H2 D (.lst [])) sL.heap.objs.size (cellsFrom (sL.heap.objs.size + 1) scope.names (cloFrom X.env.cells scope.names [])) fp
  have pts := ht sL (upd H2 D (.lst [])) sL.heap.objs.size (cellsFrom (sL.heap.objs.size + 1) scope.names (cloFrom X.env.cells scope.names [])) fp
  have pes := he sL (upd H2 D (.lst [])) sL.heap.objs.size (cellsFrom (sL.heap.objs.size + 1) scope.names (cloFrom X.env.cells scope.names [])) fp
  rw [show ({ t2 with heap := t2.heap.push { cls := .type "list", data := .seq ([] : List Value).toArray } } : Shared) = sL from eL]
  have stL : tn 0 sL.heap := T.keep _ _ _ st2 fun b _ o z => toL b o z
  show codeAny _ _ (.compStart (.ListComp elt [⟨tg, iter, ifs, 0⟩] scope pos) 0 (.ref it) (.ref t2.heap.objs.size) (compEnvC scope (cellsFrom (sL.heap.objs.size + 1) scope.names (cloFrom X.env.cells scope.names [])) sL.heap.objs.size X.env)) (compEnds (model X.prog X.w) X.A X.xe use Qf (.ref t2.heap.objs.size) (compEnvC scope (cellsFrom (sL.heap.objs.size + 1) scope.names (cloFrom X.env.cells scope.names [])) sL.heap.objs.size X.env)) _
  rw [eD]
  obtain ⟨ce, ece⟩ : ∃ ce, compEnvC scope (cellsFrom (sL.heap.objs.size + 1) scope.names (cloFrom X.env.cells scope.names [])) sL.heap.objs.size X.env = ce := ⟨_, rfl⟩
  have ceL : ce.locals = sL.heap.objs.size := by subst ece; rfl
  have ceF : ce.frame = X.env.frame := by subst ece; rfl
  rw [ece] at IB pgs pts pes ⊢
  obtain ⟨HL, eHL⟩ : ∃ HL, upd H2 D (.lst []) = HL := ⟨_, rfl⟩
  rw [eHL] at IL IB pgs pts pes w0 fL
  obtain ⟨sB, eB⟩ : ∃ sB : Shared, ({ sL with heap := pushCells (sL.heap.push { cls := .type "dict", data := .dict #[] }) scope.names } : Shared) = sB := ⟨_, rfl⟩
  rw [eB] at IB ⊢
  have stB : tn 0 sB.heap := T.keep _ _ _ stL fun b _ o z => by rw [← eB]; exact pushCells_keeps _ _ _ _ (Heap.get?_push_of_some _ z)
  have errs : ∀ (e : Value) (s' : Shared), CompFails (model X.prog X.w) X.A X.xe ce e s' → compEnds (model X.prog X.w) X.A X.xe use Qf (.ref D) ce (.error e) s' := fun e s' z => by cases use <;> exact z
  have back : ∀ {pY : List (Addr × Obj)} {σY : St} {H1 : Hp} {s0 : Shared}, Inv (X.blk sL HL scope ce fp) pY σY H1 s0 → Inv X pins σ H1 s0 ∧ FpOk X pins H1 ce.locals := fun {pY σY H1 s0} I0 => by
    have n0 : H1 sL.heap.objs.size = none := by rw [← ceL]; exact I0.free
    exact ⟨IL.call' (ch := fp) I0.os I0.base I0.hok I0.bare fun b hb => ⟨(fL b hb).1.2.2.2.1, (fL b hb).1.2.1, (fL b hb).1.2.2.2.2.1, (fL b hb).1.2.2.2.2.2⟩, by rw [ceL]; exact IL.fpOk (Nat.le_refl _) n0⟩
  have goes : ∀ (u : Value) (s' : Shared), BlkX X (X.blk sL HL scope ce fp) EX u s' → notedBy (model X.prog X.w) X.A ce (fun e s'' => compEnds (model X.prog X.w) X.A X.xe use Qf (.ref D) ce (.error e) s'') u s' := by
    rintro u s' ⟨pY, σY, H1, s0, I0, c⟩
    obtain ⟨I1, fC⟩ := back I0
    obtain ⟨mC, ⟨oC, es, ep, hoC, r⟩, _⟩ := I0.loc
    obtain ⟨a, B, H', cls, d, rfl, fl, hok, ub, na, os, ag, hE⟩ := c
    have cS : ce.locals ∉ frs X.stack := fun hm => by
      rcases List.mem_cons.mp (IL.stkSub _ hm) with z | z
      · exact fC.2.1 z
      · exact fC.2.2.1 z
    have hC : s'.heap.get? ce.locals = some oC := fl.1 _ _ (ub.keep _ _ hoC fC.1 cS)
    have x : XE X (fun cls d _ H => EX cls d H ∧ H ce.locals = none) (.ref a) s' := XE.of_call (E := fun cls d H => EX cls d H ∧ H ce.locals = none) I1 (fun _ _ _ z => z) ⟨a, B, H', cls, d, rfl, fl, hok, ub, na, os, ag, hE, ub.free _ _ hoC fC.1⟩
    exact wpAny_mono (XE.block (m := mC) (W := fun cls d _ H => EX cls d H) hst hfr tk x ceF rfl ⟨oC, es, ep, hC, r⟩ fC.2.1 cS fC.2.2.2.1 fC.2.2.2.2.1 fun p hp => fC.2.2.2.2.2 p (List.mem_append_left _ hp)) (fun _ s'' z => errs _ s'' z) fun _ _ z => z
  have at_ : ∀ {σY : St} {H1 : Hp} {s0 : Shared}, Inv (X.blk sL HL scope ce fp) [] σY H1 s0 → (∀ b ∈ fp, H1 b = none) → ∀ b ∈ fp, FpOk (X.blk sL HL scope ce fp) [] H1 b := fun {σY H1 s0} I0 nb b hb =>
    ⟨nb b hb, (I0.ok.exf b hb).1, I0.ok.exfs b hb, .inl hb, (I0.ok.exf b hb).2, fun p hp => by simp at hp⟩
  refine codeAny_compStart_list ?_ (T.self X.A 0 _ _ _ stB ?_)
  all_goals
    refine compLoop_any (fun n s' => ∃ i H', Inv (X.blk sL HL scope ce fp) [] (wipe σ (own.map (·.2))) H' s' ∧ tn i s'.heap ∧ (∀ b ∈ fp, H' b = none) ∧ W i n H') ?_ n0 ⟨0, HL, IB, stB, fun b hb => (fL b hb).1.1, w0⟩
    rintro n s1 ⟨i, H1, I1, st1, nb1, w1⟩
    rcases turn i n H1 w1 with ⟨stop, qD⟩ | ⟨go, Nx, hNx, step⟩
    · refine thnF (T.done (X.blk sL HL scope ce fp) rfl rfl rfl hc i [] s1 _ H1 (fun _ _ => False) I1 (at_ I1 nb1) st1 stop) fun r s2 ⟨er, I2⟩ => ?_
      subst er
      obtain ⟨I3, fC⟩ := back I2
      obtain ⟨m, hm, _⟩ := I2.loc
      exact fin D s2 m H1 ce I3 qD hm fC
    · refine thnF (T.item (X.blk sL HL scope ce fp) rfl rfl rfl hc i [] s1 _ H1 (fun _ _ => False) I1 (at_ I1 nb1) st1 go) fun r s2 ⟨u, er, p2⟩ => ?_
      subst er
      refine thnF p2 fun _ s3 ⟨x, H3, I3, rx, yx, st3, nb3⟩ => ?_
      have IP := I3.pinned (at_ I3 nb3) (T.obj _ _ st3)
      refine thnF (pgs.run _ s3 _ H3 x u _ IP rx (step x H3 yx)) fun _ s4 ⟨σ4, H4, I4, hw, q4⟩ => ?_
      refine thnF (pts.run _ s4 σ4 H4 _ I4 q4) fun b s5 ⟨H5, I5, q5⟩ => ?_
      have next : ∀ {s' : Shared} {H' : Hp}, Inv (X.blk sL HL scope ce fp) ([] ++ pinsAt fp s3.heap) σ4 H' s' → Nx H' → ∃ m, m < n ∧ ∃ i H', Inv (X.blk sL HL scope ce fp) [] (wipe σ (own.map (·.2))) H' s' ∧ tn i s'.heap ∧ (∀ b ∈ fp, H' b = none) ∧ W i m H' := fun {s' H'} I' nx => by
        obtain ⟨m', lt, w'⟩ := hNx H' nx
        have pin : ∀ b ∈ fp, ∀ o, s3.heap.get? b = some o → s'.heap.get? b = some o ∧ H' b = none := fun b hb o z => by
          have k := I'.pin (b, o) (List.mem_append_right _ (List.mem_append_right _ (mem_pinsAt hb z)))
          exact ⟨k.1, k.2.1⟩
        refine ⟨m', lt, i + 1, H', (I'.unpinned (pins := [])).weak (by rw [← hw, wipe_length]) (fun j v z => (wipe_some (by rw [hw]; exact z)).1), T.keep _ _ _ st3 fun b hb o z => (pin b hb o z).1, fun b hb => ?_, w'⟩
        obtain ⟨o, z, _⟩ := T.obj _ _ st3 b hb
        exact (pin b hb o z).2
      cases b with
      | false => exact next I5 q5
      | true =>
        have pe := pes (BlkX X (X.blk sL HL scope ce fp) EX) fun σY pY H1 s0 e s' I0 c => ⟨pY, σY, H1, s0, I0.unwish, c⟩
        refine wpAny_mono (pe.run _ s5 σ4 H5 _ (I5.wish _) q5) (fun z s6 ⟨y, H6, I6, ry, acc, hD, hz, nx⟩ => ?_) fun e s6 z => goes e s6 z
        exact app_ok (X := X.blk sL HL scope ce fp) I6.unwish hD hz ry fun s7 I7 => next I7 nx
/-- the list as a value -/
theorem pe_lcX {EX : XK} {elt tg iter : Expr} {ifs : List Expr} {scope : Scope} {own : List (Str × Nat)} {pos : Pos} {wi : TI} {g : TG} {tt : TT} {te : TE} (tk : Takes X (fun cls d _ H => EX cls d H)) (hst : X.stack = X.env :: X.outer) (hfr : X.env.frame = some X.env.locals)
    (hc : X.calm = true) (hN : X.N.Nodup) (hi : L2.PI X tg iter wi) (ok : BlkOk X.N X.env.scope scope own)
    (hg : ∀ (s : Shared) (H : Hp) (C : Addr) (cl : List (Str × Addr)) (fp : List Addr), PG (X.blk s H scope (compEnvC scope cl C X.env) fp) tg g) (ht : ∀ (s : Shared) (H : Hp) (C : Addr) (cl : List (Str × Addr)) (fp : List Addr), PTs (X.blk s H scope (compEnvC scope cl C X.env) fp) ifs tt)
    (he : ∀ (s : Shared) (H : Hp) (C : Addr) (cl : List (Str × Addr)) (fp : List Addr) (xe : Value → Shared → Prop), (∀ σ, PassesAt (L2.CX X.prog X.w) ((X.blk s H scope (compEnvC scope cl C X.env) fp).wish xe) σ EX) → PE ((X.blk s H scope (compEnvC scope cl C X.env) fp).wish xe) elt te)
    (hs : ∀ x, foldedSetIterable iter X.env x = pure x := by intro _; rfl) : PE X (.ListComp elt [⟨tg, iter, ifs, 0⟩] scope pos) (tLc wi g tt te (own.map (·.2))) := by
  constructor
  intro pins s σ H Q I h
  rw [eval_ListComp]
  refine lcx_core hst hfr tk hc hN I hi ok hg ht he hs h fun D s1 m H1 ce I1 qD hm fC => ⟨m, hm, fun h2 same => ?_⟩
  exact ⟨.ref D, H1, I1.turned (t' := s1.toks) (fun b o hb z => (same.2 b hb).trans z) fC.1 fC.2.1 fC.2.2.2.1 fC.2.2.2.2.1 fC.2.2.2.2.2, rfl, qD⟩
/-- the list given to a local, on one line -/
theorem ps_setLcX {EX : XK} {i : Nat} {y : Str} {py : Pos} {elt tg iter : Expr} {ifs : List Expr} {scope : Scope} {own : List (Str × Nat)} {pos spos : Pos} {wi : TI} {g : TG} {tt : TT} {te : TE} (tk : Takes X (fun cls d _ H => EX cls d H)) (hst : X.stack = X.env :: X.outer) (hfr : X.env.frame = some X.env.locals)
    (hc : X.calm = true) (hN : X.N.Nodup) (hy : X.N[i]? = some y) (hyl : X.env.scope.names.lookup y = some .local) (hsw : swapsWith (.ListComp elt [⟨tg, iter, ifs, 0⟩] scope pos) (some (.Name y py)) spos.line X.env = pure true) (hi : L2.PI X tg iter wi) (ok : BlkOk X.N X.env.scope scope own)
    (hg : ∀ (s : Shared) (H : Hp) (C : Addr) (cl : List (Str × Addr)) (fp : List Addr), PG (X.blk s H scope (compEnvC scope cl C X.env) fp) tg g) (ht : ∀ (s : Shared) (H : Hp) (C : Addr) (cl : List (Str × Addr)) (fp : List Addr), PTs (X.blk s H scope (compEnvC scope cl C X.env) fp) ifs tt)
    (he : ∀ (s : Shared) (H : Hp) (C : Addr) (cl : List (Str × Addr)) (fp : List Addr) (xe : Value → Shared → Prop), (∀ σ, PassesAt (L2.CX X.prog X.w) ((X.blk s H scope (compEnvC scope cl C X.env) fp).wish xe) σ EX) → PE ((X.blk s H scope (compEnvC scope cl C X.env) fp).wish xe) elt te)
    (hs : ∀ x, foldedSetIterable iter X.env x = pure x := by intro _; rfl) : PS X (.Assign [.Name y py] (.ListComp elt [⟨tg, iter, ifs, 0⟩] scope pos) spos) (tAsg (tLc wi g tt te (own.map (·.2))) (gName i)) := by
  constructor
  intro pins s σ H D I h
  rw [exec_Assign_Name_used _ _ _ _ hsw]
  have h' : tLc wi g tt te (own.map (·.2)) σ H (fun x H1 => gName i x σ H1 D.nx) := h
  refine wpAny_bind (wpAny_standAt (wpAny_bind (wpAny_bind (thn (lcx_core (use := some (assign (.Name y py) X.env)) (Qf := fun _ s1 => SP X pins D .next s1) hst hfr tk hc hN I hi ok hg ht he hs h' fun L s1 m H1 ce I1 qL hm fC => ?_) fun _ s1 z => wpAny_pure (wpAny_pure z)))))
  show wpAny _ _ (assign (.Name y py) X.env (.ref L)) _ _ _
  refine wpAny_assign_Name (store_ok2 (v := V.ref L) I1 hN hy (.inl hyl) rfl (fun s2 I2 ⟨a, sb, ha⟩ => ?_) (.inr hyl))
  have apart : ce.locals ≠ a := fun z => by
    rcases ha with e | e
    · exact fC.2.1 (z.trans e)
    · exact fC.2.2.2.2.1 y a e z.symm
  exact ⟨m, hm.sameBut sb apart, fun h3 same => ⟨_, H1, I2.turned (t' := s2.toks) (fun b o hb z => (same.2 b hb).trans z) fC.1 fC.2.1 fC.2.2.2.1 fC.2.2.2.2.1 fC.2.2.2.2.2, qL⟩⟩
end
/-! ### what is a machine, of lists of lists of tuples of whole numbers -/
abbrev GE := Tup Int
abbrev GM := List (List GE)
/-! ### entries read -/
def sp_mustB (C : Addr) : Sp := fun vs H Q E => ∃ b : Bool, vs = [.bl b] ∧ (b = true → Q .non H) ∧ (b = false → E (.ref C) none H)
theorem okx_must (t : Tx K mg) : FnOk P w K mg base (L2.CX P w) 1 t.a_must t.fd_must ["good"] (sp_mustB t.C_NoText) := by
  refine t.F_must.okX sc_must (fun vs H Q E h => ?_) (fun cdv A outer s H vs Q E hr h => ?_)
  · obtain ⟨b, rfl, _⟩ := h
    rfl
  · obtain ⟨b, rfl, q1, q2⟩ := h
    refine ⟨_, (pss_one (ps_if (pt_not (pt_val (pv 0))) (pss_one (ps_raise rfl (takes_of rfl rfl rfl rfl) (pmk_own PySem.F.excBase_ValueError t.x_NoText t.m_NoText t.k_NoText (raises_own t.b_NoText t.t_NoText) (by rfl)))) pss_nil)), ?_⟩
    refine ⟨_, rfl, _, rfl, ?_⟩
    cases b with
    | true => exact ifF rfl (q1 rfl)
    | false => exact ifT rfl (q2 rfl)
/-- an entry by the signs of its text, its figure below hi -/
def eP (hi : Nat) (l : List Nat) : Option GE :=
  if l = [45, 45, 45] then some ⟨[]⟩ else
  match l with
  | [a, b, c] => if (48 ≤ a ∧ a < 48 + hi) ∧ (b = 76 ∨ b = 82) ∧ (65 ≤ c ∧ c < 69) then some ⟨[(a : Int) - 48, if b = 82 then 1 else -1, (c : Int) - 65]⟩ else none
  | _ => none
theorem str_eq_iff {x y : Str} : V.str x = V.str y ↔ TL.tl x = TL.tl y := ⟨fun h => by rw [V.str.inj h], fun h => by rw [← TL.mk_tl x, ← TL.mk_tl y, h]⟩
theorem dash_tl : TL.tl ("---" : Str) = [45, 45, 45] := by decide +kernel
theorem figs_tl : ("0123456789" : Str).cps.toList = [48, 49, 50, 51, 52, 53, 54, 55, 56, 57] := by decide +kernel
theorem mem_figs {a : Nat} : a ∈ ("0123456789" : Str).cps.toList ↔ 48 ≤ a ∧ a < 58 := by
  rw [figs_tl]; simp only [List.mem_cons, List.not_mem_nil, or_false]; omega
theorem mem_lr {b : Nat} : b ∈ ("LR" : Str).cps.toList ↔ b = 76 ∨ b = 82 := by
  rw [show ("LR" : Str).cps.toList = [76, 82] by decide +kernel]; simp only [List.mem_cons, List.not_mem_nil, or_false]
theorem mem_abcd {c : Nat} : c ∈ ("ABCD" : Str).cps.toList ↔ 65 ≤ c ∧ c < 69 := by
  rw [show ("ABCD" : Str).cps.toList = [65, 66, 67, 68] by decide +kernel]; simp only [List.mem_cons, List.not_mem_nil, or_false]; omega
theorem occ_fig {a : Nat} (h : 48 ≤ a ∧ a < 58) : Builtin.Str.occurrences ("0123456789" : Str) ⟨#[a]⟩ 0 ("0123456789" : Str).length 1 = (a - 48) :: [] := by
  have : a = 48 ∨ a = 49 ∨ a = 50 ∨ a = 51 ∨ a = 52 ∨ a = 53 ∨ a = 54 ∨ a = 55 ∨ a = 56 ∨ a = 57 := by omega
  rcases this with rfl | rfl | rfl | rfl | rfl | rfl | rfl | rfl | rfl | rfl <;> decide +kernel
theorem occ_abcd {c : Nat} (h : 65 ≤ c ∧ c < 69) : Builtin.Str.occurrences ("ABCD" : Str) ⟨#[c]⟩ 0 ("ABCD" : Str).length 1 = (c - 65) :: [] := by
  have : c = 65 ∨ c = 66 ∨ c = 67 ∨ c = 68 := by omega
  rcases this with rfl | rfl | rfl | rfl <;> decide +kernel
theorem occ_lr {b : Nat} (h : b = 76 ∨ b = 82) : ∃ k, Builtin.Str.occurrences ("LR" : Str) ⟨#[b]⟩ 0 ("LR" : Str).length 1 = k :: [] ∧ atI [V.int (-1), V.int 1] (k : Int) = some (.int (if b = 82 then 1 else -1)) := by
  rcases h with rfl | rfl
  · exact ⟨0, by decide +kernel, by decide +kernel⟩
  · exact ⟨1, by decide +kernel, by decide +kernel⟩
def sp_readE (C : Addr) : Sp := fun vs H Q E => ∃ (F : Hp) (x : Str), vs = [.str x] ∧ Same F H ∧ x.length ≤ 1000000 ∧
  (∀ e, eP 10 (TL.tl x) = some e → ∀ (F' H' : Hp) (v : V), Gr mu0 F H F' H' → Is F' v e → Q v H') ∧ (eP 10 (TL.tl x) = none → ∀ H', Gr mu0 F H F H' → E (.ref C) none H')
theorem okx_read_entry (t : Tx K mg) : FnOk P w K mg base (L2.CX P w) 2 t.a_read_entry t.fd_read_entry ["text"] (sp_readE t.C_NoText) := by
  refine t.F_read_entry.okX sc_read_entry (fun vs H Q E h => ?_) (fun cdv A outer s H vs Q E hr h => ?_)
  · obtain ⟨F, x, rfl, _⟩ := h
    rfl
  · obtain ⟨F, x, rfl, sF, hx, q1, q2⟩ := h
    refine ⟨_, (pss_cons (ps_if (pt_cmpR op_eq (pv 0) pe_str (nomark _)) (pss_one (ps_ret (pe_tup pa_nil))) pss_nil)
      (pss_cons (ps_expr (pe_callS (okx_must t) (hr.mono (by decide)) (by rfl) t.m_must t.F_must.kp t.b_must (fun σ => passAt (takes_of rfl rfl rfl rfl) σ) (pa_cons (pe_and (pe_cmpR op_eq (pe_callB (id := "len") call_len_str (by rfl) t.n_len (by decide +kernel) (pa_cons (pv 0) pa_nil)) pe_int (nomark _)) (pe_and (pe_cmpR op_in_sign (pe_ix ix_str (pv 0) pe_int (fun _ _ => rfl)) (pe_glob (v := .str "0123456789") (by rfl) t.m_FIGURES ⟨_, rfl⟩) (by rfl)) (pe_and (pe_cmpR op_in_sign (pe_ix ix_str (pv 0) pe_int (fun _ _ => rfl)) pe_str (by rfl)) (pe_one (pe_cmpR op_in_sign (pe_ix ix_str (pv 0) pe_int (fun _ _ => rfl)) (pe_glob (v := .str "ABCD") (by rfl) t.m_ROWS ⟨_, rfl⟩) (by rfl)))))) pa_nil)))
      (pss_one (ps_ret (pe_tup (pa_cons (pe_m1 PySem.F.slot_str_index PySem.F.type_str_index mt_sindex (pe_glob (v := .str "0123456789") (by rfl) t.m_FIGURES ⟨_, rfl⟩) (pe_ix ix_str (pv 0) pe_int (fun _ _ => rfl))) (pa_cons (pe_ix ix_list (pe_lst (pa_cons (pe_un un_neg pe_int) (pa_cons pe_int pa_nil))) (pe_m1 PySem.F.slot_str_index PySem.F.type_str_index mt_sindex pe_str (pe_ix ix_str (pv 0) pe_int (fun _ _ => rfl))) (fun _ _ => rfl)) (pa_cons (pe_m1 PySem.F.slot_str_index PySem.F.type_str_index mt_sindex (pe_glob (v := .str "ABCD") (by rfl) t.m_ROWS ⟨_, rfl⟩) (pe_ix ix_str (pv 0) pe_int (fun _ _ => rfl))) pa_nil)))))))), ?_⟩
    have g0 : Gr mu0 F H F H := Gr.refl sF
    have xl : x.length = (TL.tl x).length := TL.len_tl x
    refine ⟨_, rfl, rfl, _, rfl, ?_⟩
    by_cases hd : TL.tl x = [45, 45, 45]
    · refine ifT (decide_eq_true (str_eq_iff.mpr (hd.trans dash_tl.symm))) ⟨nil_le, fun p np => ?_⟩
      exact q1 ⟨[]⟩ (by unfold eP; rw [if_pos hd]) _ _ _ (g0.new np) ⟨p, _, rfl, upd_same, All2.nil⟩
    · refine ifF (decide_eq_false fun z => hd ((str_eq_iff.mp z).trans dash_tl)) ?_
      refine ⟨_, rfl, _, rfl, le_size hx, rfl, _, rfl, ?_⟩
      by_cases h3 : (TL.tl x).length = 3
      case neg =>
        refine ifF (decide_eq_false fun z => h3 (by have z : ((x.length : Int)) = 3 := V.int.inj z; omega)) ⟨false, rfl, (fun z => nomatch z), fun _ => q2 ?_ _ g0⟩
        unfold eP
        rw [if_neg hd]
        split
        · rename_i e; rw [e] at h3; exact absurd rfl h3
        · rfl
      obtain ⟨a, b, c, e⟩ : ∃ a b c, TL.tl x = [a, b, c] := by
        match TL.tl x, h3 with
        | [a, b, c], _ => exact ⟨a, b, c, rfl⟩
      have ex : x.cps.toList = [a, b, c] := e
      have ep : eP 10 (TL.tl x) = if (48 ≤ a ∧ a < 48 + 10) ∧ (b = 76 ∨ b = 82) ∧ (65 ≤ c ∧ c < 69) then some ⟨[(a : Int) - 48, if b = 82 then 1 else -1, (c : Int) - 65]⟩ else none := by
        unfold eP
        rw [if_neg hd, e]
      refine ifT (decide_eq_true (congrArg V.int (by omega))) ?_
      refine ⟨_, rfl, _, _, a, rfl, rfl, le_size hx, by rw [ex]; exact atI_nat (j := 0) rfl, _, _, rfl, rfl, _, rfl, ?_⟩
      by_cases ha : 48 ≤ a ∧ a < 58
      case neg => exact ifF (decide_eq_false fun z => ha (mem_figs.mp z)) ⟨false, rfl, (fun z => nomatch z), fun _ => q2 (ep.trans (if_neg fun z => ha z.1)) _ g0⟩
      refine ifT (decide_eq_true (mem_figs.mpr ha)) ?_
      refine ⟨_, rfl, _, _, b, rfl, rfl, le_size hx, by rw [ex]; exact atI_nat (j := 1) rfl, _, _, rfl, rfl, _, rfl, ?_⟩
      by_cases hb : b = 76 ∨ b = 82
      case neg => exact ifF (decide_eq_false fun z => hb (mem_lr.mp z)) ⟨false, rfl, (fun z => nomatch z), fun _ => q2 (ep.trans (if_neg fun z => hb z.2.1)) _ g0⟩
      refine ifT (decide_eq_true (mem_lr.mpr hb)) ?_
      refine ⟨_, rfl, _, _, c, rfl, rfl, le_size hx, by rw [ex]; exact atI_nat (j := 2) rfl, _, _, rfl, rfl, ?_⟩
      refine ⟨_, rfl, fun z => ?_, fun z => q2 (ep.trans (if_neg fun w => (of_decide_eq_false z) (mem_abcd.mpr w.2.2))) _ g0⟩
      have hc := mem_abcd.mp (of_decide_eq_true z)
      have es := ep.trans (if_pos ⟨ha, hb, hc⟩)
      obtain ⟨k, ok, hk⟩ := occ_lr hb
      refine ⟨⟨_, rfl⟩, _, rfl, _, _, a, rfl, rfl, le_size hx, by rw [ex]; exact atI_nat (j := 0) rfl, _, _, _, _, rfl, rfl, occ_fig ha, ?_⟩
      refine ⟨_, rfl, two_le, fun D nD => ?_⟩
      dsimp only
      have g1 := g0.own (o := .lst [.int (-1), .int 1]) nD
      have hD : (upd H D (.lst [.int (-1), .int 1])) D = some (.lst [.int (-1), .int 1]) := upd_same
      generalize upd H D (.lst [.int (-1), .int 1]) = H1 at g1 hD ⊢
      refine ⟨⟨_, rfl⟩, _, rfl, _, _, b, rfl, rfl, le_size hx, by rw [ex]; exact atI_nat (j := 1) rfl, _, _, _, _, rfl, rfl, ok, D, _, _, _, rfl, rfl, SqL.of hD, hk, ?_⟩
      refine ⟨⟨_, rfl⟩, _, rfl, _, _, c, rfl, rfl, le_size hx, by rw [ex]; exact atI_nat (j := 2) rfl, _, _, _, _, rfl, rfl, occ_abcd hc, three_le, fun u nu => ?_⟩
      have n1 : ((a - 48 : Nat) : Int) = (a : Int) - 48 := by omega
      have n2 : ((c - 65 : Nat) : Int) = (c : Int) - 65 := by omega
      rw [n1, n2]
      refine q1 _ es _ _ (.ref u) (g1.new nu) ⟨u, _, rfl, upd_same, ?_⟩
      exact All2.cons rfl (All2.cons rfl (All2.one rfl))
def isE (R S : Nat) : List Int → Bool
  | [] => true
  | [p, w, r] => decide (0 ≤ p) && decide (p < (S : Int)) && (decide (w = -1) || decide (w = 1)) && decide (0 ≤ r) && decide (r < (R : Int))
  | _ => false
def isM (M : GM) : Bool := decide (1 ≤ M.length) && decide (M.length ≤ 4) && decide (2 ≤ (M.headD []).length) && decide ((M.headD []).length ≤ 4) && M.all (fun r => decide (r.length = (M.headD []).length)) && M.all (fun r => r.all fun e => isE M.length (M.headD []).length e.l)
theorem ints_of {F : Hp} {xs : List V} : ∀ {l : List Int}, IsAll F xs l → xs = l.map V.int := fun {l} h => by
  refine List.ext_getElem? fun i => ?_
  rw [List.getElem?_map]
  cases e : xs[i]? with
  | none =>
    have := List.getElem?_eq_none_iff.mp e
    rw [List.getElem?_eq_none (by rw [← h.1]; exact this)]; rfl
  | some x =>
    obtain ⟨z, hz, ez⟩ := h.get' e
    rw [hz]
    show some x = some (V.int z)
    rw [show x = V.int z from ez]
theorem all_intsT {F : Hp} (l : List Int) : IsAll F (l.map V.int) l := ⟨by rw [List.length_map], fun i x y h1 h2 => by
  rw [List.getElem?_map, h2] at h1
  exact (Option.some.inj h1).symm⟩
theorem inW (w : Int) : inV (V.int w) [V.int (-1), V.int 1] = (decide (w = -1) || decide (w = 1)) := by
  have h : ∀ a b : Int, (a == b) = decide (b = a) := fun a b => by rw [Bool.eq_iff_iff, beq_iff_eq, decide_eq_true_iff, eq_comm]
  simp [inV, eqV, h]
def sp_is_entry : Sp := fun vs H Q _ => ∃ (F : Hp) (v : V) (e : GE) (R S : Nat), vs = [v, .int R, .int S] ∧ Same F H ∧ Is F v e ∧ ∀ H', Gr mu0 F H F H' → Q (.bl (isE R S e.l)) H'
theorem ok_is_entry (t : Tx K mg) : FnOk P w K mg base CX0 1 t.a_is_entry t.fd_is_entry ["entry", "rows", "signs"] sp_is_entry := by
  refine t.F_is_entry.ok sc_is_entry (fun vs H Q E h => ?_) (fun cdv A outer s H vs Q E hr h => ?_)
  · obtain ⟨F, v, e, R, S, rfl, _⟩ := h
    rfl
  · obtain ⟨F, v, e, R, S, rfl, sF, hv, q⟩ := h
    refine ⟨_, (pss_cons (ps_if (pt_cmpR (op_eqD hr.units) (pv 0) (pe_tup pa_nil) (nomark _)) (pss_one (ps_ret pe_bl)) pss_nil)
      (pss_one (ps_ret (pe_and (pe_cmpR op_eq (pe_callB (id := "len") call_lenQ (by rfl) t.n_len (by decide +kernel) (pa_cons (pv 0) pa_nil)) pe_int (nomark _)) (pe_and (pe_chain op_le op_lt pe_int (pe_ix ix_tup (pv 0) pe_int (fun _ _ => rfl)) (pv 2)) (pe_and (pe_cmpR op_in_seq (pe_ix ix_tup (pv 0) pe_int (fun _ _ => rfl)) (pe_lst (pa_cons (pe_un un_neg pe_int) (pa_cons pe_int pa_nil))) (by rfl)) (pe_one (pe_chain op_le op_lt pe_int (pe_ix ix_tup (pv 0) pe_int (fun _ _ => rfl)) (pv 1))))))))), ?_⟩
    have g0 : Gr mu0 F H F H := Gr.refl sF
    refine ⟨_, rfl, nil_le, fun p np => ?_⟩
    have g1 : Gr mu0 F H F (upd H p (.tup [])) := g0.own np
    refine eq_dat (a := e) (b := (⟨[]⟩ : GE)) (hv.up g1.fh) ⟨p, _, rfl, upd_same, All2.nil⟩ ?_
    refine ⟨_, rfl, ?_⟩
    obtain ⟨l⟩ := e
    obtain ⟨a, xs, rfl, ha, hx⟩ := hv
    have hx : IsAll F xs l := hx
    obtain rfl := ints_of hx
    generalize upd H p (.tup []) = H1 at g1 ⊢
    have h1 := SqT.of (K := K) (g1.fh _ _ ha)
    match l, h1, q with
    | [], _, q => exact ifT (decide_eq_true rfl) (q _ g1)
    | [p], h1, q =>
      refine ifF (decide_eq_false (fun z => by cases z)) ?_
      exact ⟨_, rfl, a, _, rfl, .inr h1, rfl, _, rfl, ifF rfl (q _ g1)⟩
    | [p, w], h1, q =>
      refine ifF (decide_eq_false (fun z => by cases z)) ?_
      exact ⟨_, rfl, a, _, rfl, .inr h1, rfl, _, rfl, ifF rfl (q _ g1)⟩
    | p :: w :: r :: u :: l, h1, q =>
      refine ifF (decide_eq_false (fun z => by cases z)) ?_
      refine ⟨_, rfl, a, _, rfl, .inr h1, rfl, _, rfl, ifF ?_ (q _ g1)⟩
      refine decide_eq_false fun z => ?_
      have := V.int.inj z
      simp only [List.length_map, List.length_cons] at this
      omega
    | [p, w, r], h1, q =>
      refine ifF (decide_eq_false (fun z => by cases z)) ?_
      refine ⟨_, rfl, a, _, rfl, .inr h1, rfl, _, rfl, ifT rfl ?_⟩
      have q : ∀ H', Gr mu0 F H F H' → Q (.bl (decide (0 ≤ p) && decide (p < (S : Int)) && (decide (w = -1) || decide (w = 1)) && decide (0 ≤ r) && decide (r < (R : Int)))) H' := q
      refine ⟨_, rfl, a, _, _, _, rfl, rfl, h1, atI_nat (j := 0) rfl, _, _, rfl, rfl, _, rfl, ?_⟩
      by_cases o1 : 0 ≤ p
      · refine ifT (decide_eq_true o1) ⟨_, rfl, _, _, rfl, rfl, _, rfl, ?_⟩
        by_cases o2 : p < (S : Int)
        · refine ifT (decide_eq_true o2) ?_
          refine ⟨_, rfl, a, _, _, _, rfl, rfl, h1, atI_nat (j := 1) rfl, _, rfl, two_le, fun l nl => ?_⟩
          have g2 := g1.own (o := .lst [.int (-1), .int 1]) nl
          have h2 := SqT.of (K := K) (g2.fh _ _ ha)
          refine ⟨l, _, rfl, .inl (SqL.of upd_same), rfl, rfl, _, rfl, ?_⟩
          generalize upd H1 l (.lst [.int (-1), .int 1]) = H2 at g2 h2 ⊢
          rw [inW]
          cases o3 : (decide (w = -1) || decide (w = 1)) with
          | false => exact ifF rfl (by have z := q _ g2; rw [o3, Bool.and_false, Bool.false_and, Bool.false_and] at z; exact z)
          | true =>
            refine ifT rfl ?_
            rw [decide_eq_true o1, decide_eq_true o2, o3] at q
            refine ⟨_, rfl, a, _, _, _, rfl, rfl, h2, atI_nat (j := 2) rfl, _, _, rfl, rfl, _, rfl, ?_⟩
            by_cases o4 : 0 ≤ r
            · refine ifT (decide_eq_true o4) ⟨_, rfl, _, _, rfl, rfl, ?_⟩
              have z := q _ g2
              rw [decide_eq_true o4] at z
              exact z
            · refine ifF (decide_eq_false o4) ?_
              have z := q _ g2
              rw [decide_eq_false o4] at z
              exact z
        · refine ifF (decide_eq_false o2) ?_
          have z := q _ g1
          rw [decide_eq_false o2, Bool.and_false] at z
          exact z
      · refine ifF (decide_eq_false o1) ⟨_, rfl, ifF rfl ?_⟩
        have z := q _ g1
        rw [decide_eq_false o1] at z
        exact z
theorem mt1 {α β : Type} {f : α → β} {l : List α} {i : Nat} {x : α} (h : l[i]? = some x) : (l.take (i + 1)).map f = (l.take i).map f ++ [f x] := by
  rw [List.take_add_one, h, List.map_append]; rfl
theorem mt2 {α : Type} {f : α → Bool} {l : List α} {i : Nat} {x : α} (h : l[i]? = some x) : ((l.take i).map f).map V.bl ++ [V.bl (f x)] = ((l.take (i + 1)).map f).map V.bl := by
  rw [mt1 h, List.map_append]; rfl
theorem all_id {α : Type} (f : α → Bool) (l : List α) : (l.map f).all id = l.all f := by rw [List.all_map]; rfl
def sp_is_machine : Sp := fun vs H Q _ => ∃ (F : Hp) (v : V) (M : GM), vs = [v] ∧ Same F H ∧ Is F v M ∧ ∀ H', Gr mu0 F H F H' → Q (.bl (isM M)) H'
theorem ok_is_machine (t : Tx K mg) : FnOk P w K mg base CX0 2 t.a_is_machine t.fd_is_machine ["machine"] sp_is_machine := by
  refine t.F_is_machine.ok sc_is_machine (fun vs H Q E h => ?_) (fun cdv A outer s H vs Q E hr h => ?_)
  · obtain ⟨F, v, M, rfl, _⟩ := h
    rfl
  · obtain ⟨F, v, M, rfl, sF, hv, q⟩ := h
    refine ⟨_, (pss_cons (ps_set (i := 1) sc_is_machine.nd rfl (by first | exact Or.inl rfl | exact Or.inr rfl) (pe_callB (id := "len") call_lenQ (by rfl) t.n_len (by decide +kernel) (pa_cons (pv 0) pa_nil)))
      (pss_cons (ps_if (pt_not (pt_chain op_le op_le pe_int (pv 1) (pe_glob (v := .int 4) (by rfl) t.m_MOST_ROWS ⟨_, rfl⟩))) (pss_one (ps_ret pe_bl)) pss_nil)
      (pss_cons (ps_set (i := 2) sc_is_machine.nd rfl (by first | exact Or.inl rfl | exact Or.inr rfl) (pe_callB (id := "len") call_lenQ (by rfl) t.n_len (by decide +kernel) (pa_cons (pe_ix ix_list (pv 0) pe_int (fun _ _ => rfl)) pa_nil)))
      (pss_cons (ps_if (PW.pt (pw_or (pt_not (pt_chain op_le op_le pe_int (pv 2) (pe_glob (v := .int 4) (by rfl) t.m_MOST_SIGNS ⟨_, rfl⟩))) (pw_or1 (pt_not (pt_val (pe_callB (id := "all") (cr_all rfl) (by rfl) t.n_all (by decide +kernel) (pa_cons (pe_lc (own := [("row", 3)]) (g := gName 3) (tt := tYes) rfl sc_is_machine.nd (pi_list (pv 0)) (blkOk_by (N := N_is_machine) (sc := defScope s_is_machine) (by decide +kernel)) (fun _ _ _ _ _ => (pg_name (i := 3) sc_is_machine.nd rfl (by first | exact Or.inl rfl | exact Or.inr rfl))) (fun _ _ _ _ _ => pts_nil) (fun _ _ _ _ _ => (pe_cmpR op_eq (pe_callB (id := "len") (crK (K := K) (r := rLenQ) rfl call_lenQ) (by rfl) t.n_len (by decide +kernel) (pa_cons (pv 3) pa_nil)) (pv 2) (nomark _)))) pa_nil))))))) (pss_one (ps_ret pe_bl)) pss_nil)
      (pss_one (ps_ret (pe_callB (id := "all") (cr_all rfl) (by rfl) t.n_all (by decide +kernel) (pa_cons (pe_lc (own := [("row", 3)]) (g := gName 3) (tt := tYes) rfl sc_is_machine.nd (pi_list (pv 0)) (blkOk_by (N := N_is_machine) (sc := defScope s_is_machine) (by decide +kernel)) (fun _ _ _ _ _ => (pg_name (i := 3) sc_is_machine.nd rfl (by first | exact Or.inl rfl | exact Or.inr rfl))) (fun _ _ _ _ _ => pts_nil) (fun _ _ _ _ _ => (pe_callB (id := "all") (crK (K := K) (r := rAll) rfl (cr_all rfl)) (by rfl) t.n_all (by decide +kernel) (pa_cons (pe_lc (own := [("entry", 4)]) (g := gName 4) (tt := tYes) rfl sc_is_machine.nd (pi_listK (K := K) rfl (pv 3)) (blkOk_by (N := N_is_machine) (sc := { kind := PySem.ScopeKind.function, names := [(PySem.Str.ofString ".0", PySem.NameKind.local), (PySem.Str.ofString "row", PySem.NameKind.local), (PySem.Str.ofString "all", PySem.NameKind.globalImplicit), (PySem.Str.ofString "rows", PySem.NameKind.cell), (PySem.Str.ofString "signs", PySem.NameKind.cell)], isGenerator := false, isCoroutine := false }) (by decide +kernel)) (fun _ _ _ _ _ => (pg_name (i := 4) sc_is_machine.nd rfl (by first | exact Or.inl rfl | exact Or.inr rfl))) (fun _ _ _ _ _ => pts_nil) (fun _ _ _ _ _ => (pe_call (ok_is_entry t) (hr.mono (by decide)) (by rfl) t.m_is_entry t.F_is_entry.kp t.b_is_entry .nil pass0 (pa_cons (pv 4) (pa_cons (pv 1) (pa_cons (pv 2) pa_nil)))))) pa_nil)))) pa_nil)))))))), ?_⟩
    have g0 : Gr mu0 F H F H := Gr.refl sF
    obtain ⟨a, rs, rfl, ha, hrs⟩ := hv
    have h0 := sF _ _ ha
    have lr := hrs.1
    refine ⟨_, rfl, a, rs, rfl, .inl (SqL.of h0), _, rfl, _, _, rfl, rfl, _, rfl, ?_⟩
    by_cases c1 : 1 ≤ M.length
    case neg =>
      refine ifF (decide_eq_false (by omega)) ⟨_, rfl, ifT rfl ?_⟩
      have z := q _ g0
      unfold isM at z
      rw [decide_eq_false c1] at z
      exact z
    refine ifT (decide_eq_true (by omega)) ⟨_, _, rfl, rfl, _, rfl, ?_⟩
    by_cases c2 : M.length ≤ 4
    case neg =>
      refine ifT (by rw [decide_eq_false (show ¬ (rs.length : Int) ≤ 4 by omega)]; rfl) ?_
      have z := q _ g0
      unfold isM at z
      rw [decide_eq_true c1, decide_eq_false c2] at z
      exact z
    refine ifF (by rw [decide_eq_true (show (rs.length : Int) ≤ 4 by omega)]; rfl) ?_
    have l0 : 0 < rs.length := by omega
    have hx0 : rs[0]? = some rs[0] := List.getElem?_eq_getElem l0
    obtain ⟨row0, hM0, a0, es0, e0, ha0, hes0⟩ := hrs.get' hx0
    have hb0 := sF _ _ ha0
    have ls0 : es0.length = row0.length := hes0.1
    have eh : M.headD [] = row0 := by
      cases M with
      | nil => simp at hM0
      | cons x M => exact Option.some.inj hM0
    refine ⟨_, rfl, a, rs, _, _, rfl, rfl, SqL.of h0, atI_nat (j := 0) hx0, ?_⟩
    rw [e0]
    refine ⟨a0, es0, rfl, .inl (SqL.of hb0), _, rfl, _, _, rfl, rfl, _, rfl, ?_⟩
    unfold isM at q
    rw [eh, decide_eq_true c1, decide_eq_true c2] at q
    by_cases c3 : 2 ≤ row0.length
    case neg =>
      refine ifF (decide_eq_false (by omega)) ⟨_, rfl, ifT rfl ?_⟩
      have z := q _ g0
      rw [decide_eq_false c3] at z
      exact z
    refine ifT (decide_eq_true (by omega)) ⟨_, _, rfl, rfl, _, rfl, ?_⟩
    by_cases c4 : row0.length ≤ 4
    case neg =>
      refine ifT (by rw [decide_eq_false (show ¬ (es0.length : Int) ≤ 4 by omega)]; rfl) ?_
      have z := q _ g0
      rw [decide_eq_true c3, decide_eq_false c4] at z
      exact z
    refine ifF (by rw [decide_eq_true (show (es0.length : Int) ≤ 4 by omega)]; rfl) ?_
    rw [decide_eq_true c3, decide_eq_true c4] at q
    have q : ∀ H', Gr mu0 F H F H' → Q (.bl (M.all (fun r => decide (r.length = row0.length)) && M.all (fun r => r.all fun e => isE M.length row0.length e.l))) H' := fun H' g => by
      have z := q H' g
      rw [Bool.and_self, Bool.and_self, Bool.and_self, Bool.true_and] at z
      exact z
    refine ⟨_, rfl, a, rfl, ⟨_, SqL.of h0⟩, fun D nD => lc_list (K := K) (a := a) (xs := rs) (fun i G => Gr mu0 F H F G ∧ H D = none ∧ G D = some (.lst (((M.take i).map fun r => decide (r.length = row0.length)).map V.bl))) ⟨g0.own nD, nD, upd_same⟩ (fun i G _ p => SqL.of (p.1.fh _ _ ha)) ?_ ?_⟩
    · rintro i x G hi ⟨gG, nH, hD⟩
      obtain ⟨row, hMi, b, es, rfl, hb, hes⟩ := hrs.get' hi
      have il : i < rs.length := (List.getElem?_eq_some_iff.mp hi).1
      refine ⟨rfl, yes ⟨_, rfl, b, es, rfl, .inl (SqL.of (gG.fh _ _ hb)), _, rfl, rfl, _, hD, by rw [List.length_map, List.length_map, List.length_take]; exact lt_size (by omega), ?_⟩⟩
      have e : (V.bl (decide (V.int (es.length : Int) = V.int (es0.length : Int)))) = V.bl (decide (row.length = row0.length)) := by
        rw [show es.length = row.length from hes.1, ls0]
        congr 1
        exact decide_eq_decide.mpr ⟨fun z => by have := V.int.inj z; omega, fun z => by rw [z]⟩
      rw [e, mt2 (f := fun r : List GE => decide (r.length = row0.length)) hMi]
      exact ⟨gG.set (ne_of_none' sF nH) (.inl nH), nH, upd_same⟩
    rintro G ⟨gG, nH, hD⟩
    rw [lr, List.take_length] at hD
    refine ⟨D, _, rfl, SqL.of hD, _, rfl, ?_⟩
    rw [all_id]
    cases c5 : M.all (fun r => decide (r.length = row0.length)) with
    | false =>
      refine ifT rfl ?_
      have z := q _ gG
      rw [c5] at z
      exact z
    | true =>
      refine ifF rfl ?_
      rw [c5] at q
      have rl : ∀ row ∈ M, row.length ≤ 4 := fun row m => by
        have := of_decide_eq_true (List.all_eq_true.mp c5 row m)
        omega
      refine ⟨_, rfl, a, rfl, ⟨_, SqL.of (gG.fh _ _ ha)⟩, fun D1 nD1 => lc_list (K := K) (a := a) (xs := rs) (fun i G1 => Gr mu0 F H F G1 ∧ H D1 = none ∧ G1 D1 = some (.lst (((M.take i).map fun r => r.all fun e => isE M.length row0.length e.l).map V.bl))) ⟨gG.own nD1, gG.th _ nD1, upd_same⟩ (fun i G1 _ p => SqL.of (p.1.fh _ _ ha)) ?_ ?_⟩
      · rintro i x G1 hi ⟨gG1, nH1, hD1⟩
        obtain ⟨row, hMi, b, es, rfl, hb, hes⟩ := hrs.get' hi
        have l4 := rl row (List.mem_of_getElem? hMi)
        have il : i < rs.length := (List.getElem?_eq_some_iff.mp hi).1
        refine ⟨rfl, yes ⟨_, rfl, b, rfl, ⟨_, SqL.of (gG1.fh _ _ hb)⟩, fun D2 nD2 => lc_list (K := K) (a := b) (xs := es) (fun j G2 => Gr mu0 F H F G2 ∧ H D2 = none ∧ D1 ≠ D2 ∧ G2 D1 = some (.lst (((M.take i).map fun r => r.all fun e => isE M.length row0.length e.l).map V.bl)) ∧ G2 D2 = some (.lst (((row.take j).map fun e => isE M.length row0.length e.l).map V.bl)))
          ⟨gG1.own nD2, gG1.th _ nD2, ne_of_none hD1 nD2, by rw [upd_ne (ne_of_none hD1 nD2)]; exact hD1, upd_same⟩ (fun j G2 _ p => SqL.of (p.1.fh _ _ hb)) ?_ ?_⟩⟩
        · rintro j y G2 hj ⟨gG2, nH2, d12, h1, h2⟩
          obtain ⟨e, hej, hye⟩ := hes.get' hj
          have jl : j < es.length := (List.getElem?_eq_some_iff.mp hj).1
          have le : es.length = row.length := hes.1
          refine ⟨rfl, yes ⟨_, rfl, _, rfl, _, rfl, F, y, e, M.length, row0.length, ?_, gG2.fh, hye, fun G3 g3 => ?_⟩⟩
          · rw [lr, ls0]; rfl
          · have gH3 := gG2.trans g3
            refine ⟨_, g3.fr _ _ h2 (fun z => z), by rw [List.length_map, List.length_map, List.length_take]; exact lt_size (by omega), ?_⟩
            rw [mt2 (f := fun e : GE => isE M.length row0.length e.l) hej]
            exact ⟨gH3.set (sF.free nH2) (.inl nH2), nH2, d12, by rw [upd_ne d12]; exact g3.fr _ _ h1 (fun z => z), upd_same⟩
        · rintro G2 ⟨gG2, nH2, d12, h1, h2⟩
          rw [hes.1, List.take_length] at h2
          refine ⟨D2, _, rfl, SqL.of h2, ?_⟩
          refine ⟨_, h1, by rw [List.length_map, List.length_map, List.length_take]; exact lt_size (by omega), ?_⟩
          rw [all_id, mt2 (f := fun r : List GE => r.all fun e => isE M.length row0.length e.l) hMi]
          exact ⟨gG2.set (sF.free nH1) (.inl nH1), nH1, upd_same⟩
      · rintro G1 ⟨gG1, nH1, hD1⟩
        rw [lr, List.take_length] at hD1
        refine ⟨D1, _, rfl, SqL.of hD1, ?_⟩
        rw [all_id]
        exact q _ gG1
/-! ### small things -/
theorem ln {H : Hp} {p q : Addr} {o u : HO} (n : H q = none) (h : H p = some o) : upd H q u p = some o := (upd_ne (ne_of_none h n)).trans h
theorem kt_int_int {K : PySem.W.Frag} : PySem.W.kitOne K (.type "int") (.type "int") = some true := kit_ty (by decide +kernel)
theorem kt_int_bool {K : PySem.W.Frag} : PySem.W.kitOne K (.type "int") (.type "bool") = some false := kit_ty (by decide +kernel)
theorem kt_tup {K : PySem.W.Frag} : PySem.W.kitOne K (.type "tuple") (.type "tuple") = some true := kit_ty (by decide +kernel)
theorem kt_list {K : PySem.W.Frag} : PySem.W.kitOne K (.type "list") (.type "list") = some true := kit_ty (by decide +kernel)
theorem gr_purse {H H1 : Hp} (s : Same H H1) : Gr mu0 H H H H1 := ⟨fun _ _ h => h, s, fun _ _ h => .inl h, fun c o h _ => s c o h, fun c h => s.free h⟩
theorem at_end {xs : List V} {k : Nat} {v : V} (l : xs.length = k + 1) (h : xs[k]? = some v) : atI xs (-1) = some v := by
  have e : ixN xs.length (-1) = some k := by
    unfold ixN
    rw [if_neg (by decide), if_pos (by omega)]
    congr 1
    omega
  unfold atI
  rw [e]
  exact h
theorem cut_all {xs : List V} {j : Nat} (h : xs.length ≤ j) : cutV xs none (some (j : Int)) = xs := by
  unfold cutV
  have e1 : HT.sIx xs.length 0 none = 0 := rfl
  have e2 : HT.sIx xs.length xs.length (some (j : Int)) = xs.length := by
    simp only [HT.sIx]
    rw [if_neg (by omega), Int.toNat_natCast]
    omega
  rw [e1, e2, List.drop_zero, Nat.sub_zero, List.take_length]
theorem map_take_succ {α β : Type} {f : α → β} {xs : List α} {i : Nat} {x : α} (h : xs[i]? = some x) : (xs.take (i + 1)).map f = (xs.take i).map f ++ [f x] := by
  rw [List.take_add_one, h, List.map_append]; rfl
theorem cut_1 {xs : List V} : cutV xs (some 1) none = xs.drop 1 := by
  unfold cutV
  have e2 : HT.sIx xs.length xs.length none = xs.length := rfl
  rw [e2]
  cases xs with
  | nil => simp
  | cons x xs =>
    have e1 : HT.sIx (x :: xs).length 0 (some 1) = 1 := by
      simp only [HT.sIx, List.length_cons]
      rw [if_neg (by decide), show (1 : Int).toNat = 1 from rfl]
      omega
    rw [e1]
    show (xs.take (xs.length + 1 - 1)) = xs
    rw [Nat.add_sub_cancel, List.take_length]
theorem cut32 : ¬ (HT.sIx 3 0 none = 0 ∧ HT.sIx 3 3 (some 2) = 3) := by decide
theorem Gr.frzS {mu : Addr → Prop} {F H F1 H1 : Hp} (g : Gr mu F H F1 H1) (P : Addr → Prop) [DecidablePred P] (h : ∀ c, P c → H c = none ∧ F1 c = none) : Gr mu F H (fun c => if P c then H1 c else F1 c) H1 ∧ Same F1 (fun c => if P c then H1 c else F1 c) := by
  have s : Same F1 (fun c => if P c then H1 c else F1 c) := fun c o e => by
    by_cases p : P c
    · rw [(h c p).2] at e; cases e
    · simp only [p, if_false]; exact e
  refine ⟨⟨fun c o e => s c o (g.ff c o e), fun c o e => ?_, fun c o e => ?_, g.fr, g.th⟩, s⟩
  · by_cases p : P c
    · simp only [p, if_true] at e; exact e
    · simp only [p, if_false] at e; exact g.fh c o e
  · by_cases p : P c
    · exact .inr (h c p).1
    · simp only [p, if_false] at e; exact g.nw c o e
/-! ### machines that are machines -/
structure EOk (R S : Nat) (e : Ent) : Prop where
  ok : ∀ p w r, e = .go p w r → (0 ≤ p ∧ p < S) ∧ (w = -1 ∨ w = 1) ∧ 0 ≤ r ∧ r < R
structure MOk (M : Mach) (R S : Nat) : Prop where
  r1 : 1 ≤ R
  r4 : R ≤ 4
  s2 : 2 ≤ S
  s4 : S ≤ 4
  len : M.length = R
  row : ∀ r ∈ M, r.length = S
  ent : ∀ r ∈ M, ∀ e ∈ r, EOk R S e
/-! ### lists of lists of data that may be changed yet -/
section
variable {α : Type} [Dat α]
structure MaG (H F1 H1 : Hp) (m : Addr) (rs : List Addr) (ess : List (List V)) (M : List (List α)) : Prop where
  ow : Ow H F1 H1 m (.lst (rs.map V.ref))
  nd : rs.Nodup
  ne : m ∉ rs
  len : rs.length = ess.length
  rows : ∀ (i : Nat) r es, rs[i]? = some r → ess[i]? = some es → Ow H F1 H1 r (.lst es)
  dat : All2 (fun es row => IsAll F1 es row) ess M
section
variable {mu mu' : Addr → Prop} {H F F1 H1 F2 H2 : Hp} {m : Addr} {rs : List Addr} {ess : List (List V)} {M : List (List α)}
theorem MaG.row (x : MaG H F1 H1 m rs ess M) {r : Addr} (h : r ∈ rs) : ∃ es, Ow H F1 H1 r (.lst es) := by
  obtain ⟨i, hi⟩ := List.getElem?_of_mem h
  have l := (List.getElem?_eq_some_iff.mp hi).1
  exact ⟨ess[i]'(by rw [← x.len]; exact l), x.rows i r _ hi (List.getElem?_eq_getElem _)⟩
theorem MaG.gr (x : MaG H F1 H1 m rs ess M) (g : Gr mu F1 H1 F2 H2) (k : ∀ c, mu c → c ≠ m ∧ c ∉ rs) : MaG H F2 H2 m rs ess M where
  ow := x.ow.call g fun z => (k m z).1 rfl
  nd := x.nd
  ne := x.ne
  len := x.len
  rows := fun i r es h1 h2 => (x.rows i r es h1 h2).call g fun z => (k r z).2 (List.mem_of_getElem? h1)
  dat := x.dat.imp fun es row z => z.up g.ff
theorem MaG.off (x : MaG H F1 H1 m rs ess M) {p : Addr} {o : HO} (h : H p = some o) : ∀ c, muP p c → c ≠ m ∧ c ∉ rs := fun c e => by
  rw [show c = p from e]
  refine ⟨fun z => ?_, fun z => ?_⟩
  · rw [z, x.ow.n] at h; cases h
  · obtain ⟨es, w⟩ := x.row z
    rw [w.n] at h; cases h
theorem MaG.offn (x : MaG H F1 H1 m rs ess M) {p : Addr} (h : H1 p = none) : p ≠ m ∧ p ∉ rs := by
  refine ⟨fun z => ?_, fun z => ?_⟩
  · rw [z, x.ow.h] at h; cases h
  · obtain ⟨es, w⟩ := x.row z
    rw [w.h] at h; cases h
/-- a row that is done comes in -/
theorem MaG.add (x : MaG H F1 H1 m rs ess M) {r : Addr} {es : List V} {row : List α} (w : Ow H F1 H1 r (.lst es)) (k : r ≠ m ∧ r ∉ rs) (d : IsAll F1 es row) : MaG H F1 (upd H1 m (.lst ((rs ++ [r]).map V.ref))) m (rs ++ [r]) (ess ++ [es]) (M ++ [row]) where
  ow := x.ow.set
  nd := nd_snoc x.nd k.2
  ne := fun z => by
    rcases List.mem_append.mp z with z | z
    · exact x.ne z
    · exact k.1 (List.mem_singleton.mp z).symm
  len := by rw [List.length_append, List.length_append, x.len]; rfl
  rows := fun i r' es' h1 h2 => by
    by_cases l : i < rs.length
    · rw [List.getElem?_append_left l] at h1
      rw [List.getElem?_append_left (by rw [← x.len]; exact l)] at h2
      exact (x.rows i r' es' h1 h2).other fun z => x.ne (by rw [← z]; exact List.mem_of_getElem? h1)
    · rw [List.getElem?_append_right (by omega)] at h1
      rw [List.getElem?_append_right (by rw [← x.len]; omega), ← x.len] at h2
      cases e : i - rs.length with
      | zero =>
        rw [e] at h1 h2
        cases h1; cases h2
        exact w.other k.1
      | succ n => rw [e] at h1; cases h1
  dat := x.dat.app (All2.one d)
/-- an entry of it is changed -/
theorem MaG.put (x : MaG H F1 H1 m rs ess M) {i j : Nat} {r : Addr} {es : List V} {row : List α} {v : V} {e : α} (hr : rs[i]? = some r) (hes : ess[i]? = some es) (hrow : M[i]? = some row) (hv : Is F1 v e) :
    MaG H F1 (upd H1 r (.lst (es.set j v))) m rs (ess.set i (es.set j v)) (M.set i (row.set j e)) where
  ow := x.ow.other fun z => x.ne (by rw [z]; exact List.mem_of_getElem? hr)
  nd := x.nd
  ne := x.ne
  len := by rw [List.length_set]; exact x.len
  rows := fun i' r' es' h1 h2 => by
    by_cases e : i = i'
    · subst e
      rw [hr] at h1
      cases h1
      rw [List.getElem?_set_self (List.getElem?_eq_some_iff.mp hes).1] at h2
      cases h2
      exact (x.rows i r es hr hes).set
    · rw [List.getElem?_set_ne e] at h2
      exact (x.rows i' r' es' h1 h2).other fun z => e (nd_ix x.nd hr (by rw [← z]; exact h1))
  dat := x.dat.set ((x.dat.2 i es row hes hrow).set hv j) i
/-- it is changed no more -/
theorem MaG.frz (x : MaG H F1 H1 m rs ess M) (g : Gr mu F H F1 H1) : ∃ F2, Gr mu F H F2 H1 ∧ Same F1 F2 ∧ Is F2 (.ref m) M ∧ (∀ c, c ≠ m → c ∉ rs → F2 c = F1 c) ∧ ∀ c, c = m ∨ c ∈ rs → F2 c = H1 c := by
  have own : ∀ c, (c = m ∨ c ∈ rs) → H c = none ∧ F1 c = none ∧ ∃ o, H1 c = some o := fun c h => by
    rcases h with rfl | h
    · exact ⟨x.ow.n, x.ow.f, _, x.ow.h⟩
    · obtain ⟨es, w⟩ := x.row h
      exact ⟨w.n, w.f, _, w.h⟩
  have s : Same F1 (fun c => if c = m ∨ c ∈ rs then H1 c else F1 c) := fun c o h => by
    by_cases e : c = m ∨ c ∈ rs
    · rw [(own c e).2.1] at h; cases h
    · simp only [e, if_false]; exact h
  refine ⟨fun c => if c = m ∨ c ∈ rs then H1 c else F1 c, ⟨fun c o h => s c o (g.ff c o h), fun c o h => ?_, fun c o h => ?_, g.fr, g.th⟩, s, ⟨m, rs.map V.ref, rfl, ?_, by rw [List.length_map, x.len]; exact x.dat.1, fun i v row h1 h2 => ?_⟩, fun c h1 h2 => if_neg fun z => z.elim h1 h2, fun c h => if_pos h⟩
  · by_cases e : c = m ∨ c ∈ rs
    · simp only [e, if_true] at h; exact h
    · simp only [e, if_false] at h; exact g.fh c o h
  · by_cases e : c = m ∨ c ∈ rs
    · exact .inr (own c e).1
    · simp only [e, if_false] at h; exact g.nw c o h
  · show (if m = m ∨ m ∈ rs then H1 m else F1 m) = _
    rw [if_pos (.inl rfl)]; exact x.ow.h
  · rw [List.getElem?_map] at h1
    cases hr : rs[i]? with
    | none => rw [hr] at h1; cases h1
    | some r =>
      rw [hr] at h1
      cases h1
      obtain ⟨es, hes, hd⟩ := x.dat.get h2
      refine ⟨r, es, rfl, ?_, hd.up s⟩
      show (if r = m ∨ r ∈ rs then H1 r else F1 r) = _
      rw [if_pos (.inr (List.mem_of_getElem? hr))]
      exact (x.rows i r es hr hes).h
/-- it may be changed again -/
theorem MaG.thaw {F0 F3 G : Hp} (s0 : Same F0 H) (x : MaG H F1 H1 m rs ess M) (s : Same F1 F2) (on : ∀ c, c = m ∨ c ∈ rs → F2 c = H1 c) (s' : Same F2 F3) (g : Gr mu F0 H F3 G) : ∃ F', Gr mu F0 H F' G ∧ Same F1 F' ∧ MaG H F' G m rs ess M := by
  have own : ∀ c, (c = m ∨ c ∈ rs) → H c = none ∧ F1 c = none ∧ ∀ o, H1 c = some o → G c = some o := fun c h => by
    have k : ∀ o, H1 c = some o → G c = some o := fun o e => g.fh _ _ (s' _ _ ((on c h).trans e))
    rcases id h with rfl | h
    · exact ⟨x.ow.n, x.ow.f, k⟩
    · obtain ⟨es, w⟩ := x.row h
      exact ⟨w.n, w.f, k⟩
  have sa : Same F1 (fun c => if c = m ∨ c ∈ rs then none else F3 c) := fun c o h => by
    by_cases e : c = m ∨ c ∈ rs
    · rw [(own c e).2.1] at h; cases h
    · simp only [e, if_false]; exact s' _ _ (s _ _ h)
  have sb : Same (fun c => if c = m ∨ c ∈ rs then none else F3 c) F3 := fun c o h => by
    by_cases e : c = m ∨ c ∈ rs
    · simp only [e, if_true] at h; cases h
    · simp only [e, if_false] at h; exact h
  have no : ∀ c, (c = m ∨ c ∈ rs) → (fun c => if c = m ∨ c ∈ rs then none else F3 c) c = none := fun c e => if_pos e
  refine ⟨fun c => if c = m ∨ c ∈ rs then none else F3 c, ⟨fun c o h => ?_, fun c o h => g.fh _ _ (sb _ _ h), fun c o h => g.nw _ _ (sb _ _ h), g.fr, g.th⟩, sa, ⟨⟨x.ow.n, no _ (.inl rfl), (own _ (.inl rfl)).2.2 _ x.ow.h⟩, x.nd, x.ne, x.len, fun i r es h1 h2 => ?_, x.dat.imp fun es row z => z.up sa⟩⟩
  · by_cases e : c = m ∨ c ∈ rs
    · have z := s0 c o h
      rw [(own c e).1] at z; cases z
    · simp only [e, if_false]; exact g.ff c o h
  · have w := x.rows i r es h1 h2
    have m' : r = m ∨ r ∈ rs := .inr (List.mem_of_getElem? h1)
    exact ⟨w.n, no _ m', (own _ m').2.2 _ w.h⟩
theorem MaG.at (x : MaG H F1 H1 m rs ess M) {i : Nat} {row : List α} (h : M[i]? = some row) : ∃ r es, rs[i]? = some r ∧ ess[i]? = some es ∧ Ow H F1 H1 r (.lst es) ∧ IsAll F1 es row := by
  obtain ⟨es, hes, al⟩ := x.dat.get h
  have l : i < rs.length := by rw [x.len]; exact (List.getElem?_eq_some_iff.mp hes).1
  exact ⟨_, es, List.getElem?_eq_getElem l, hes, x.rows i _ es (List.getElem?_eq_getElem l) hes, al⟩
end
end
/-! ### rows as letters; lengths of joined texts -/
def rowT (r : Int) : Str := if r = 0 then "A" else if r = 1 then "B" else if r = 2 then "C" else "D"
theorem rowT_at {r : Int} (h0 : 0 ≤ r) (h1 : r < 4) : ∃ c, atI ("ABCD" : Str).cps.toList r = some c ∧ (⟨#[c]⟩ : Str) = rowT r := by
  have h : r = 0 ∨ r = 1 ∨ r = 2 ∨ r = 3 := by omega
  rcases h with rfl | rfl | rfl | rfl
  · exact ⟨65, by decide +kernel, by decide +kernel⟩
  · exact ⟨66, by decide +kernel, by decide +kernel⟩
  · exact ⟨67, by decide +kernel, by decide +kernel⟩
  · exact ⟨68, by decide +kernel, by decide +kernel⟩
theorem rowT_len (r : Int) : (rowT r).length = 1 := by
  unfold rowT
  split
  · decide +kernel
  split
  · decide +kernel
  split
  · decide +kernel
  · decide +kernel
theorem str_len_app (a b : Str) : (a ++ b).length = a.length + b.length := by
  show (a.cps ++ b.cps).size = _
  rw [Array.size_append]; rfl
theorem sum_le_all {l : List Nat} {k : Nat} (h : ∀ x ∈ l, x ≤ k) : l.sum ≤ l.length * k := by
  induction l with
  | nil => exact Nat.zero_le _
  | cons x l ih =>
    have h1 := ih fun y m => h y (List.mem_cons_of_mem _ m)
    have h2 := h x List.mem_cons_self
    rw [List.sum_cons, List.length_cons, Nat.add_mul]
    omega
theorem join_le (sep : Str) (ws : List Str) {k : Nat} (h : ∀ x ∈ ws, x.length ≤ k) : (ws.map (·.length)).sum + ws.length * sep.length ≤ ws.length * (k + sep.length) := by
  have z := sum_le_all (l := ws.map (·.length)) (k := k) fun x m => by
    obtain ⟨y, hy, rfl⟩ := List.mem_map.mp m
    exact h y hy
  rw [List.length_map] at z
  rw [Nat.mul_add]
  omega
theorem join_len_le (sep : Str) (ws : List Str) {k : Nat} (h : ∀ x ∈ ws, x.length ≤ k) : (Txt.join sep ws).length ≤ ws.length * (k + sep.length) := by
  refine Nat.le_trans ?_ (join_le sep ws h)
  rw [TL.join_eq]
  exact StrLaws.join_length_le sep ws
theorem blank_len : (" " : Str).length = 1 := by decide +kernel
/-! ### machines read -/
theorem join_part {y : Str} : ∀ {ps : List Str} {p : Str}, p ∈ ps → p.length ≤ (Str.join y ps).length
  | [a], p, m => by rw [List.mem_singleton.mp m]; exact Nat.le_refl _
  | a :: b :: r, p, m => by
    have e : (Str.join y (a :: b :: r)).length = a.length + y.length + (Str.join y (b :: r)).length := by
      show (a ++ y ++ Str.join y (b :: r)).length = _
      rw [str_len_app, str_len_app]
    rcases List.mem_cons.mp m with rfl | m
    · omega
    · have := join_part (y := y) m
      omega
theorem split_part {x y p : Str} (m : p ∈ Txt.split x y) : p.length ≤ x.length := by
  have z := join_part (y := y) m
  rw [PySem.StrLaws.join_split] at z
  exact z
/-- all of them, or none -/
def allS {α : Type} : List (Option α) → Option (List α)
  | [] => some []
  | none :: _ => none
  | some a :: l => (allS l).map (a :: ·)
theorem allS_some {α : Type} : ∀ {l : List (Option α)} {es : List α}, l = es.map some → allS l = some es
  | _, [], rfl => rfl
  | _, e :: es, rfl => by
    show (allS (es.map some)).map (e :: ·) = _
    rw [allS_some rfl]; rfl
theorem allS_none {α : Type} : ∀ {l : List (Option α)}, none ∈ l → allS l = none
  | none :: l, _ => rfl
  | some a :: l, h => by
    show (allS l).map (a :: ·) = none
    rw [allS_none (by simpa using h)]; rfl
theorem allS_cases {α : Type} : ∀ (l : List (Option α)), (∃ es : List α, l = es.map some) ∨ none ∈ l
  | [] => .inl ⟨[], rfl⟩
  | none :: l => .inr List.mem_cons_self
  | some a :: l => by
    rcases allS_cases l with ⟨es, e⟩ | h
    · exact .inl ⟨a :: es, by rw [e]; rfl⟩
    · exact .inr (List.mem_cons_of_mem _ h)
theorem take_some {α β : Type} {f : α → Option β} {l : List α} {i : Nat} {x : α} {e : β} {es : List β} (hx : l[i]? = some x) (he : f x = some e) (h : (l.take i).map f = es.map some) : (l.take (i + 1)).map f = (es ++ [e]).map some := by
  rw [List.take_add_one, hx, List.map_append, List.map_append, h]
  show es.map some ++ [f x] = es.map some ++ [some e]
  rw [he]
def rowP (hi : Nat) (x : Str) : Option (List GE) := allS ((Txt.split x ",").map fun y => eP hi (TL.tl y))
def machP (hi : Nat) (x : Str) : Option GM := allS ((Txt.split x " ").map (rowP hi))
theorem gr_same {F H H1 : Hp} (f : Same F H) (s : Same H H1) : Gr mu0 F H F H1 := ⟨fun _ _ h => h, fun c o h => s _ _ (f _ _ h), fun _ _ h => .inl h, fun c o h _ => s _ _ h, fun c h => s.free h⟩
theorem gr_up {F H F1 H1 : Hp} (g : Gr mu0 F H F1 H1) : Same H H1 := fun c o h => g.fr c o h (fun z => z)
theorem MaG.isH {α : Type} [Dat α] {H F1 H1 : Hp} {m : Addr} {rs : List Addr} {ess : List (List V)} {M : List (List α)} (x : MaG H F1 H1 m rs ess M) (s : Same F1 H1) : Is H1 (.ref m) M := by
  refine ⟨m, _, rfl, x.ow.h, ?_, fun i v row h k => ?_⟩
  · rw [List.length_map, x.len, x.dat.1]
  · rw [List.getElem?_map] at h
    obtain ⟨r, hr, rfl⟩ := Option.map_eq_some_iff.mp h
    obtain ⟨r', es, h1, h2, w, al⟩ := x.at k
    rw [hr] at h1
    cases h1
    exact ⟨r, es, rfl, w.h, IsAll.up al s⟩
def sp_readM (C : Addr) : Sp := fun vs H Q E => ∃ (F : Hp) (x : Str), vs = [.str x] ∧ Same F H ∧ x.length ≤ 100000 ∧
  (∀ M, machP 10 x = some M → isM M = true → ∀ (F' H' : Hp) (m : Addr) (rs : List Addr) (ess : List (List V)), Gr mu0 F H F' H' → MaG H F' H' m rs ess M → Q (.ref m) H') ∧
  ((∀ M, machP 10 x = some M → isM M = false) → ∀ H', Gr mu0 F H F H' → E (.ref C) none H')
theorem okx_read_machine (t : Tx K mg) : FnOk P w K mg base (L2.CX P w) 3 t.a_read_machine t.fd_read_machine ["text"] (sp_readM t.C_NoText) := by
  refine t.F_read_machine.okX sc_read_machine (fun vs H Q E h => ?_) (fun cdv A outer s H vs Q E hr h => ?_)
  · obtain ⟨F, x, rfl, _⟩ := h
    rfl
  · obtain ⟨F, x, rfl, sF, hx, q1, q2⟩ := h
    refine ⟨_, (pss_cons (ps_set (i := 1) sc_read_machine.nd rfl (by first | exact Or.inl rfl | exact Or.inr rfl) (pe_lst pa_nil))
      (pss_cons (ps_for (passes_of rfl) rfl (pi_list (pe_split (pv 0) pe_str)) (pg_name (i := 2) sc_read_machine.nd rfl (by first | exact Or.inl rfl | exact Or.inr rfl)) (pss_one (ps_expr (pe_bm PySem.F.plainAttrs_list PySem.F.slot_list_append PySem.F.type_list_append mt_append (pv 1) (pa_cons (pe_lcX (own := [("entry", 3)]) (g := gName 3) (tt := tYes) (takes_of rfl rfl rfl rfl) rfl rfl rfl sc_read_machine.nd (pi_list (pe_split (pv 2) pe_str)) (blkOk_by (N := N_read_machine) (sc := defScope s_read_machine) (by decide +kernel)) (fun _ _ _ _ _ => (pg_name (i := 3) sc_read_machine.nd rfl (by first | exact Or.inl rfl | exact Or.inr rfl))) (fun _ _ _ _ _ => pts_nil) (fun _ _ _ _ _ _ hx => (pe_callS (okx_read_entry t) (hr.mono (by decide)) (by rfl) t.m_read_entry t.F_read_entry.kp t.b_read_entry hx (pa_cons (pv 3) pa_nil)))) pa_nil)))))
      (pss_cons (ps_expr (pe_callS (okx_must t) (hr.mono (by decide)) (by rfl) t.m_must t.F_must.kp t.b_must (fun σ => passAt (takes_of rfl rfl rfl rfl) σ) (pa_cons (pe_call (ok_is_machine t) (hr.mono (by decide)) (by rfl) t.m_is_machine t.F_is_machine.kp t.b_is_machine .nil pass0 (pa_cons (pv 1) pa_nil)) pa_nil)))
      (pss_one (ps_ret (pv 1)))))), ?_⟩
    have g0 : Gr mu0 F H F H := Gr.refl sF
    refine ⟨nil_le, fun m nm => ?_⟩
    have g1 := g0.own (o := .lst []) nm
    have w1 : Ow H F (upd H m (.lst [])) m (.lst []) := Ow.mk1 g0 nm
    generalize upd H m (.lst []) = H1 at g1 w1 ⊢
    have ls := PyProof.Rows.split_le x " "
    refine ⟨_, rfl, ⟨_, rfl⟩, _, _, rfl, rfl, by decide +kernel, le_size (n := x.length + 2) (by omega), fun S nS => ?_⟩
    have g2 := g1.own (o := .lst ((Txt.split x " ").map V.str)) nS
    have w2 := w1.own (u := .lst ((Txt.split x " ").map V.str)) nS
    have hS : (upd H1 S (.lst ((Txt.split x " ").map V.str))) S = some (.lst ((Txt.split x " ").map V.str)) := upd_same
    have mS : m ≠ S := w1.ne nS
    have nS0 : H S = none := g1.th _ nS
    generalize upd H1 S (.lst ((Txt.split x " ").map V.str)) = H2 at g2 w2 hS ⊢
    have M0 : MaG H F H2 m [] [] ([] : GM) := ⟨w2, List.nodup_nil, (fun z => nomatch z), rfl, (fun i r es z => nomatch z), All2.nil⟩
    refine ⟨S, rfl, ⟨_, SqL.of hS⟩, for_list (K := K) (a := S) (xs := (Txt.split x " ").map V.str) (fun i σ G => ∃ (F1 : Hp) (rs : List Addr) (ess : List (List V)) (M : GM) (v2 : Option V), σ = [some (.str x), some (.ref m), v2, none] ∧ Gr mu0 F H F1 G ∧ G S = some (.lst ((Txt.split x " ").map V.str)) ∧ MaG H F1 G m rs ess M ∧ ((Txt.split x " ").take i).map (rowP 10) = M.map some)
      ⟨F, [], [], [], none, rfl, g2, hS, M0, rfl⟩ (fun i σ G _ p => SqL.of p.choose_spec.choose_spec.choose_spec.choose_spec.choose_spec.2.2.1) ?_ ?_⟩
    · rintro i y σ G hi ⟨F1, rs, ess, M, v2, rfl, g, hSG, ma, eM⟩
      obtain ⟨row, hrow, rfl⟩ : ∃ row, (Txt.split x " ")[i]? = some row ∧ V.str row = y := by
        rw [List.getElem?_map] at hi
        exact Option.map_eq_some_iff.mp hi
      have mrow := List.mem_of_getElem? hrow
      have lrow := split_part mrow
      refine ⟨_, rfl, .inl ⟨rfl, _, SqL.of ma.ow.h⟩, ?_⟩
      have lr2 := PyProof.Rows.split_le row ","
      have lM : M.length ≤ i := by
        have := congrArg List.length eM
        rw [List.length_map, List.length_map, List.length_take] at this
        omega
      have il := (List.getElem?_eq_some_iff.mp hrow).1
      have lrs : rs.length ≤ i := by rw [ma.len, ma.dat.1]; exact lM
      refine ⟨_, rfl, ⟨_, rfl⟩, _, _, rfl, rfl, by decide +kernel, le_size (n := row.length + 2) (by omega), fun T nT => ?_⟩
      have g3 := g.own (o := .lst ((Txt.split row ",").map V.str)) nT
      have hS3 := ln (u := .lst ((Txt.split row ",").map V.str)) nT hSG
      have hT3 : (upd G T (.lst ((Txt.split row ",").map V.str))) T = some (.lst ((Txt.split row ",").map V.str)) := upd_same
      have ma3 : MaG H F1 (upd G T (.lst ((Txt.split row ",").map V.str))) m rs ess M := ma.gr ((Gr.refl g.fh : Gr mu0 F1 G F1 G).own nT) fun c z => z.elim
      generalize upd G T (.lst ((Txt.split row ",").map V.str)) = G3 at g3 hS3 hT3 ma3 ⊢
      refine ⟨T, rfl, ⟨_, SqL.of hT3⟩, fun D nD => lc_list (K := K) (a := T) (xs := (Txt.split row ",").map V.str) (fun j G => ∃ (F2 : Hp) (xs : List V) (es : List GE), Gr mu0 F H F2 G ∧ G S = some (.lst ((Txt.split x " ").map V.str)) ∧ G T = some (.lst ((Txt.split row ",").map V.str)) ∧ S ≠ D ∧ T ≠ D ∧ (D ≠ m ∧ D ∉ rs) ∧ MaG H F2 G m rs ess M ∧ Ow H F2 G D (.lst xs) ∧ IsAll F2 xs es ∧ ((Txt.split row ",").take j).map (fun y => eP 10 (TL.tl y)) = es.map some)
        ⟨F1, [], [], g3.own nD, ln nD hS3, ln nD hT3, ne_of_none hS3 nD, ne_of_none hT3 nD, ma3.offn nD, ma3.gr ((Gr.refl g3.fh : Gr mu0 F1 G3 F1 G3).own nD) fun c z => z.elim, Ow.mk1 g3 nD, All2.nil, rfl⟩ (fun j G _ p => SqL.of p.choose_spec.choose_spec.choose_spec.2.2.1) ?_ ?_⟩
      · rintro j z G hj ⟨F2, xs, es, g, hSG, hTG, SD, TD, Dm, ma, w, al, eE⟩
        obtain ⟨y, hy, rfl⟩ : ∃ y, (Txt.split row ",")[j]? = some y ∧ V.str y = z := by
          rw [List.getElem?_map] at hj
          exact Option.map_eq_some_iff.mp hj
        have my := List.mem_of_getElem? hy
        have ly := split_part my
        have jl := (List.getElem?_eq_some_iff.mp hy).1
        have lxs : xs.length ≤ j := by
          have := congrArg List.length eE
          rw [List.length_map, List.length_map, List.length_take] at this
          rw [al.1]; omega
        refine ⟨rfl, yes ⟨_, rfl, F2, y, rfl, g.fh, by omega, fun e he F3 H4 v g4 hv => ?_, fun hn H4 g4 => ?_⟩⟩
        · have w4 := w.call g4 (fun z => z)
          have ma4 := ma.gr g4 (fun c z => z.elim)
          refine ⟨_, w4.h, lt_size (by omega), F3, xs ++ [v], es ++ [e], (g.trans g4).set w4.f (.inl w4.n), by rw [upd_ne SD]; exact g4.fr _ _ hSG (fun z => z), by rw [upd_ne TD]; exact g4.fr _ _ hTG (fun z => z), SD, TD, Dm, ?_, w4.set, (al.up g4.ff).app (All2.one hv), take_some hy he eE⟩
          exact ma4.gr ((Gr.refl g4.fh : Gr (muP D) F3 H4 F3 H4).set w4.f (.inr rfl)) fun c z => by rw [show c = D from z]; exact Dm
        · refine q2 (fun M e => ?_) H4 (gr_same sF (gr_up (g.trans g4)))
          have n1 : rowP 10 row = none := allS_none (List.mem_map.mpr ⟨y, my, hn⟩)
          have n2 : machP 10 x = none := allS_none (List.mem_map.mpr ⟨row, mrow, n1⟩)
          rw [n2] at e; cases e
      · rintro G ⟨F2, xs, es, g, hSG, hTG, SD, TD, Dm, ma, w, al, eE⟩
        rw [List.length_map, List.take_length] at eE
        have er : rowP 10 row = some es := allS_some eE
        refine ⟨m, _, _, rfl, rfl, ma.ow.h, by rw [List.length_map]; exact lt_size (by omega), ?_⟩
        rw [show (rs.map V.ref) ++ [V.ref D] = (rs ++ [D]).map V.ref by rw [List.map_append]; rfl]
        exact ⟨F2, rs ++ [D], ess ++ [xs], M ++ [es], _, rfl, g.set ma.ow.f (.inl ma.ow.n), by rw [upd_ne mS.symm]; exact hSG, ma.add w Dm al, take_some hrow er eM⟩
    · rintro σ G ⟨F1, rs, ess, M, v2, rfl, g, hSG, ma, eM⟩
      rw [List.length_map, List.take_length] at eM
      have em : machP 10 x = some M := allS_some eM
      refine ⟨_, rfl, G, .ref m, M, rfl, Same.refl _, ma.isH g.fh, fun H' g' => ?_⟩
      have k := gr_same g.fh (gr_up g')
      refine ⟨isM M, rfl, fun z => ?_, fun z => ?_⟩
      · exact ⟨_, rfl, q1 M em z F1 H' m rs ess (g.trans k) (ma.gr k fun c z => z.elim)⟩
      · exact q2 (fun M' e => by rw [em] at e; cases e; exact z) H' (gr_same sF (gr_up (g.trans k)))
/-! ### the law's own reading -/
theorem u65 {k : Nat} {A : Around} (r : Room k A) : A.units + 65 < cLine := by have := r.un; omega
theorem mem_0123 {a : Nat} : a ∈ ("0123" : Str).cps.toList ↔ 48 ≤ a ∧ a < 52 := by
  rw [show ("0123" : Str).cps.toList = [48, 49, 50, 51] by decide +kernel]; simp only [List.mem_cons, List.not_mem_nil, or_false]; omega
theorem occ_0123 {a : Nat} (h : 48 ≤ a ∧ a < 52) : Builtin.Str.occurrences ("0123" : Str) ⟨#[a]⟩ 0 ("0123" : Str).length 1 = (a - 48) :: [] := by
  have : a = 48 ∨ a = 49 ∨ a = 50 ∨ a = 51 := by omega
  rcases this with rfl | rfl | rfl | rfl <;> decide +kernel
theorem at_R {b : Nat} (h : b = 76 ∨ b = 82) : atI [V.int (-1), V.int 1] (if decide (V.str ⟨#[b]⟩ = V.str "R") = true then 1 else 0) = some (.int (if b = 82 then 1 else -1)) := by
  rcases h with rfl | rfl <;> decide +kernel
def sp_L_entry_of : Sp := fun vs H Q _ => ∃ (F : Hp) (x : Str), vs = [.str x] ∧ Same F H ∧ x.length ≤ 1000000 ∧ ∀ (F' H' : Hp) (v : V), Gr mu0 F H F' H' → Is F' v (eP 4 (TL.tl x)) → Q v H'
theorem ok_L_entry_of (t : Tx K mg) : FnOk P w K mg base CX0 1 t.a_L_entry_of t.fd_L_entry_of ["_law_text_here"] sp_L_entry_of := by
  refine t.F_L_entry_of.ok sc_L_entry_of (fun vs H Q E h => ?_) (fun cdv A outer s H vs Q E hr h => ?_)
  · obtain ⟨F, x, rfl, _⟩ := h
    rfl
  · obtain ⟨F, x, rfl, sF, hx, q⟩ := h
    refine ⟨_, (pss_cons (ps_if (pt_cmpR op_eq (pv 0) pe_str (nomark _)) (pss_one (ps_ret (pe_tup pa_nil))) pss_nil)
      (pss_cons (ps_if (PW.pt (pw_or (pt_cmpR op_ne (pe_callB (id := "len") call_len_str (by rfl) t.n_len (by decide +kernel) (pa_cons (pv 0) pa_nil)) pe_int (nomark _)) (pw_or (pt_cmpR op_notIn_sign (pe_ix ix_str (pv 0) pe_int (fun _ _ => rfl)) pe_str (by rfl)) (pw_or (pt_cmpR op_notIn_sign (pe_ix ix_str (pv 0) pe_int (fun _ _ => rfl)) pe_str (by rfl)) (pw_or1 (pt_cmpR op_notIn_sign (pe_ix ix_str (pv 0) pe_int (fun _ _ => rfl)) pe_str (by rfl))))))) (pss_one (ps_ret pe_non)) pss_nil)
      (pss_one (ps_ret (pe_tup (pa_cons (pe_m1 PySem.F.slot_str_index PySem.F.type_str_index mt_sindex pe_str (pe_ix ix_str (pv 0) pe_int (fun _ _ => rfl))) (pa_cons (pe_ix ix_list (pe_lst (pa_cons (pe_un un_neg pe_int) (pa_cons pe_int pa_nil))) (pe_callTy (T := "int") call_int1 (by rfl) t.n_int (by decide +kernel) (pa_cons (pe_cmpR op_eq (pe_ix ix_str (pv 0) pe_int (fun _ _ => rfl)) pe_str (nomark _)) pa_nil)) (fun _ _ => rfl)) (pa_cons (pe_m1 PySem.F.slot_str_index PySem.F.type_str_index mt_sindex pe_str (pe_ix ix_str (pv 0) pe_int (fun _ _ => rfl))) pa_nil)))))))), ?_⟩
    have g0 : Gr mu0 F H F H := Gr.refl sF
    have xl : x.length = (TL.tl x).length := TL.len_tl x
    have qn : eP 4 (TL.tl x) = none → Q .non H := fun e => q _ _ _ g0 (by rw [e]; rfl)
    refine ⟨_, rfl, rfl, _, rfl, ?_⟩
    by_cases hd : TL.tl x = [45, 45, 45]
    · refine ifT (decide_eq_true (str_eq_iff.mpr (hd.trans dash_tl.symm))) ⟨nil_le, fun p np => ?_⟩
      refine q _ _ (.ref p) (g0.new np) ?_
      have e : eP 4 (TL.tl x) = some ⟨[]⟩ := by unfold eP; rw [if_pos hd]
      rw [e]
      exact ⟨p, _, rfl, upd_same, All2.nil⟩
    · refine ifF (decide_eq_false fun z => hd ((str_eq_iff.mp z).trans dash_tl)) ?_
      refine ⟨_, rfl, _, rfl, le_size hx, rfl, _, rfl, ?_⟩
      by_cases h3 : (TL.tl x).length = 3
      case neg =>
        refine ifT (by rw [Bool.not_eq_true', decide_eq_false_iff_not]; exact fun z => h3 (by have z : ((x.length : Int)) = 3 := V.int.inj z; omega)) (qn ?_)
        unfold eP
        rw [if_neg hd]
        split
        · rename_i e; rw [e] at h3; exact absurd rfl h3
        · rfl
      obtain ⟨a, b, c, e⟩ : ∃ a b c, TL.tl x = [a, b, c] := by
        match TL.tl x, h3 with
        | [a, b, c], _ => exact ⟨a, b, c, rfl⟩
      have ex : x.cps.toList = [a, b, c] := e
      have ep : eP 4 (TL.tl x) = if (48 ≤ a ∧ a < 48 + 4) ∧ (b = 76 ∨ b = 82) ∧ (65 ≤ c ∧ c < 69) then some ⟨[(a : Int) - 48, if b = 82 then 1 else -1, (c : Int) - 65]⟩ else none := by
        unfold eP
        rw [if_neg hd, e]
      refine ifF (by rw [decide_eq_true (congrArg V.int (by omega))]; rfl) ?_
      refine ⟨_, rfl, _, _, a, rfl, rfl, le_size hx, by rw [ex]; exact atI_nat (j := 0) rfl, _, _, rfl, rfl, _, rfl, ?_⟩
      by_cases ha : 48 ≤ a ∧ a < 52
      case neg => exact ifT (by rw [decide_eq_false fun z => ha (mem_0123.mp z)]; rfl) (qn (ep.trans (if_neg fun z => ha z.1)))
      refine ifF (by rw [decide_eq_true (mem_0123.mpr ha)]; rfl) ?_
      refine ⟨_, rfl, _, _, b, rfl, rfl, le_size hx, by rw [ex]; exact atI_nat (j := 1) rfl, _, _, rfl, rfl, _, rfl, ?_⟩
      by_cases hb : b = 76 ∨ b = 82
      case neg => exact ifT (by rw [decide_eq_false fun z => hb (mem_lr.mp z)]; rfl) (qn (ep.trans (if_neg fun z => hb z.2.1)))
      refine ifF (by rw [decide_eq_true (mem_lr.mpr hb)]; rfl) ?_
      refine ⟨_, rfl, _, _, c, rfl, rfl, le_size hx, by rw [ex]; exact atI_nat (j := 2) rfl, _, _, rfl, rfl, _, rfl, ?_⟩
      by_cases hc : 65 ≤ c ∧ c < 69
      case neg => exact ifT (by rw [decide_eq_false fun z => hc (mem_abcd.mp z)]; rfl) (qn (ep.trans (if_neg fun z => hc z.2.2)))
      refine ifF (by rw [decide_eq_true (mem_abcd.mpr hc)]; rfl) ?_
      have es := ep.trans (if_pos ⟨ha, hb, hc⟩)
      refine ⟨⟨_, rfl⟩, _, rfl, _, _, a, rfl, rfl, le_size hx, by rw [ex]; exact atI_nat (j := 0) rfl, _, _, _, _, rfl, rfl, occ_0123 ha, ?_⟩
      refine ⟨_, rfl, two_le, fun D nD => ?_⟩
      dsimp only
      have g1 := g0.own (o := .lst [.int (-1), .int 1]) nD
      have hD : (upd H D (.lst [.int (-1), .int 1])) D = some (.lst [.int (-1), .int 1]) := upd_same
      generalize upd H D (.lst [.int (-1), .int 1]) = H1 at g1 hD ⊢
      refine ⟨_, rfl, _, _, b, rfl, rfl, le_size hx, by rw [ex]; exact atI_nat (j := 1) rfl, rfl, .inr ⟨_, rfl, D, _, _, _, rfl, rfl, SqL.of hD, at_R hb, ?_⟩⟩
      refine ⟨⟨_, rfl⟩, _, rfl, _, _, c, rfl, rfl, le_size hx, by rw [ex]; exact atI_nat (j := 2) rfl, _, _, _, _, rfl, rfl, occ_abcd hc, three_le, fun u nu => ?_⟩
      have n1 : ((a - 48 : Nat) : Int) = (a : Int) - 48 := by omega
      have n2 : ((c - 65 : Nat) : Int) = (c : Int) - 65 := by omega
      rw [n1, n2]
      refine q _ _ (.ref u) (g1.new nu) ?_
      rw [es]
      exact ⟨u, _, rfl, upd_same, All2.cons rfl (All2.cons rfl (All2.one rfl))⟩
/-! ### machines as lists of lists of tuples -/
def entL : Ent → GE
  | .emp => ⟨[]⟩
  | .go p w r => ⟨[p, w, r]⟩
def gm (M : Mach) : GM := M.map fun r => r.map entL
theorem entL_is {F : Hp} {v : V} {e : Ent} (h : Is F v e) : Is F v (entL e) := by
  obtain ⟨a, rfl, h⟩ := h
  cases e with
  | emp => exact ⟨a, [], rfl, h, All2.nil⟩
  | go p w r => exact ⟨a, _, rfl, h, all_intsT [p, w, r]⟩
theorem all2_map {α β γ : Type} {r : α → β → Prop} {s : α → γ → Prop} {f : β → γ} (h : ∀ x y, r x y → s x (f y)) {xs : List α} {ys : List β} (a : All2 r xs ys) : All2 s xs (ys.map f) :=
  ⟨by rw [List.length_map]; exact a.1, fun i x y h1 h2 => by
    rw [List.getElem?_map] at h2
    obtain ⟨z, hz, rfl⟩ := Option.map_eq_some_iff.mp h2
    exact h x z (a.2 i x z h1 hz)⟩
theorem gm_is {F : Hp} {v : V} {M : Mach} (h : Is F v M) : Is F v (gm M) := by
  obtain ⟨a, xs, rfl, h1, h2⟩ := h
  refine ⟨a, xs, rfl, h1, all2_map (fun x y z => ?_) h2⟩
  obtain ⟨b, ys, rfl, h3, h4⟩ := z
  exact ⟨b, ys, rfl, h3, all2_map (fun _ _ z => entL_is z) h4⟩
/-! ### the law's own: what is a machine -/
def sp_L_is_entry : Sp := sp_is_entry
theorem ok_L_is_entry (t : Tx K mg) : FnOk P w K mg base CX0 1 t.a_L_is_entry t.fd_L_is_entry ["_law_entry", "_law_rows", "_law_signs"] sp_L_is_entry := by
  refine t.F_L_is_entry.ok sc_L_is_entry (fun vs H Q E h => ?_) (fun cdv A outer s H vs Q E hr h => ?_)
  · obtain ⟨F, v, e, R, S, rfl, _⟩ := h
    rfl
  · obtain ⟨F, v, e, R, S, rfl, sF, hv, q⟩ := h
    refine ⟨_, (pss_cons (ps_if (pt_cmpR (op_eqD hr.units) (pv 0) (pe_tup pa_nil) (nomark _)) (pss_one (ps_ret pe_bl)) pss_nil)
      (pss_cons (ps_if (PW.pt (pw_or (pt_cmpR op_ne (pe_callB (id := "len") call_lenQ (by rfl) t.n_len (by decide +kernel) (pa_cons (pv 0) pa_nil)) pe_int (nomark _)) (pw_or1 (pt_cmpR op_notIn_seq (pe_ix ix_tup (pv 0) pe_int (fun _ _ => rfl)) (pe_lst (pa_cons (pe_un un_neg pe_int) (pa_cons pe_int pa_nil))) (by rfl))))) (pss_one (ps_ret pe_bl)) pss_nil)
      (pss_one (ps_ret (pe_and (pe_cmpR op_le pe_int (pe_ix ix_tup (pv 0) pe_int (fun _ _ => rfl)) (nomark _)) (pe_and (pe_cmpR op_lt (pe_ix ix_tup (pv 0) pe_int (fun _ _ => rfl)) (pv 2) (nomark _)) (pe_and (pe_cmpR op_le pe_int (pe_ix ix_tup (pv 0) pe_int (fun _ _ => rfl)) (nomark _)) (pe_one (pe_cmpR op_lt (pe_ix ix_tup (pv 0) pe_int (fun _ _ => rfl)) (pv 1) (nomark _)))))))))), ?_⟩
    have g0 : Gr mu0 F H F H := Gr.refl sF
    refine ⟨_, rfl, nil_le, fun p np => ?_⟩
    have g1 : Gr mu0 F H F (upd H p (.tup [])) := g0.own np
    refine eq_dat (a := e) (b := (⟨[]⟩ : GE)) (hv.up g1.fh) ⟨p, _, rfl, upd_same, All2.nil⟩ ?_
    refine ⟨_, rfl, ?_⟩
    obtain ⟨l⟩ := e
    obtain ⟨a, xs, rfl, ha, hx⟩ := hv
    have hx : IsAll F xs l := hx
    obtain rfl := ints_of hx
    generalize upd H p (.tup []) = H1 at g1 ⊢
    have h1 := SqT.of (K := K) (g1.fh _ _ ha)
    match l, h1, q with
    | [], _, q => exact ifT (decide_eq_true rfl) (q _ g1)
    | [p], h1, q =>
      refine ifF (decide_eq_false (fun z => by cases z)) ?_
      exact ⟨_, rfl, a, _, rfl, .inr h1, rfl, _, rfl, ifT rfl (q _ g1)⟩
    | [p, w], h1, q =>
      refine ifF (decide_eq_false (fun z => by cases z)) ?_
      exact ⟨_, rfl, a, _, rfl, .inr h1, rfl, _, rfl, ifT rfl (q _ g1)⟩
    | p :: w :: r :: u :: l, h1, q =>
      refine ifF (decide_eq_false (fun z => by cases z)) ?_
      refine ⟨_, rfl, a, _, rfl, .inr h1, rfl, _, rfl, ifT ?_ (q _ g1)⟩
      rw [decide_eq_false]
      · rfl
      · intro z
        have := V.int.inj z
        simp only [List.length_map, List.length_cons] at this
        omega
    | [p, w, r], h1, q =>
      refine ifF (decide_eq_false (fun z => by cases z)) ?_
      refine ⟨_, rfl, a, _, rfl, .inr h1, rfl, _, rfl, ifF rfl ?_⟩
      have q : ∀ H', Gr mu0 F H F H' → Q (.bl (decide (0 ≤ p) && decide (p < (S : Int)) && (decide (w = -1) || decide (w = 1)) && decide (0 ≤ r) && decide (r < (R : Int)))) H' := q
      refine ⟨_, rfl, a, _, _, _, rfl, rfl, h1, atI_nat (j := 1) rfl, _, rfl, two_le, fun l nl => ?_⟩
      have g2 := g1.own (o := .lst [.int (-1), .int 1]) nl
      have h2 := SqT.of (K := K) (g2.fh _ _ ha)
      refine ⟨l, _, rfl, .inl (SqL.of upd_same), rfl, rfl, _, rfl, ?_⟩
      generalize upd H1 l (.lst [.int (-1), .int 1]) = H2 at g2 h2 ⊢
      rw [inW]
      cases o3 : (decide (w = -1) || decide (w = 1)) with
      | false => exact ifT rfl (by have z := q _ g2; rw [o3, Bool.and_false, Bool.false_and, Bool.false_and] at z; exact z)
      | true =>
        refine ifF rfl ?_
        rw [o3] at q
        refine ⟨_, rfl, a, _, _, _, rfl, rfl, h2, atI_nat (j := 0) rfl, _, _, rfl, rfl, _, rfl, ?_⟩
        by_cases o1 : 0 ≤ p
        case neg =>
          refine ifF (decide_eq_false o1) ?_
          have z := q _ g2
          rw [decide_eq_false o1] at z
          exact z
        rw [decide_eq_true o1] at q
        refine ifT (decide_eq_true o1) ⟨_, rfl, a, _, _, _, rfl, rfl, h2, atI_nat (j := 0) rfl, _, rfl, _, _, rfl, rfl, _, rfl, ?_⟩
        by_cases o2 : p < (S : Int)
        case neg =>
          refine ifF (decide_eq_false o2) ?_
          have z := q _ g2
          rw [decide_eq_false o2] at z
          exact z
        rw [decide_eq_true o2] at q
        refine ifT (decide_eq_true o2) ⟨_, rfl, a, _, _, _, rfl, rfl, h2, atI_nat (j := 2) rfl, _, _, rfl, rfl, _, rfl, ?_⟩
        by_cases o4 : 0 ≤ r
        case neg =>
          refine ifF (decide_eq_false o4) ?_
          have z := q _ g2
          rw [decide_eq_false o4] at z
          exact z
        rw [decide_eq_true o4] at q
        exact ifT (decide_eq_true o4) ⟨_, rfl, a, _, _, _, rfl, rfl, h2, atI_nat (j := 2) rfl, _, rfl, _, _, rfl, rfl, q _ g2⟩
theorem all_eq {M : GM} {k : Nat} {ns : List Int} (en : ns = M.map fun r => (r.length : Int)) (hk : (k : Int) ∈ ns) {m1 m2 : Int} (h1 : m1 ∈ ns) (l1 : ∀ x ∈ ns, m1 ≤ x) (h2 : m2 ∈ ns) (l2 : ∀ x ∈ ns, x ≤ m2) : M.all (fun r => decide (r.length = k)) = !decide (m1 < m2) := by
  subst en
  rw [Bool.eq_iff_iff, List.all_eq_true, Bool.not_eq_true', decide_eq_false_iff_not]
  constructor
  · intro h z
    obtain ⟨r1, hr1, rfl⟩ := List.mem_map.mp h1
    obtain ⟨r2, hr2, rfl⟩ := List.mem_map.mp h2
    have e1 := of_decide_eq_true (h r1 hr1)
    have e2 := of_decide_eq_true (h r2 hr2)
    omega
  · intro h r hr
    have a1 := l1 _ (List.mem_map.mpr ⟨r, hr, rfl⟩)
    have a2 := l2 _ (List.mem_map.mpr ⟨r, hr, rfl⟩)
    have b1 := l1 _ hk
    have b2 := l2 _ hk
    exact decide_eq_true (by omega)
def Small (M : GM) : Prop := M.length ≤ 50000 ∧ ∀ r ∈ M, r.length ≤ 50000 ∧ ∀ e ∈ r, e.l.length ≤ 50000
def sp_L_is_machine : Sp := fun vs H Q _ => ∃ (F : Hp) (v : V) (M : GM), vs = [v] ∧ Same F H ∧ Is F v M ∧ Small M ∧ ∀ H', Gr mu0 F H F H' → Q (.bl (isM M)) H'
theorem ok_L_is_machine (t : Tx K mg) : FnOk P w K mg base CX0 2 t.a_L_is_machine t.fd_L_is_machine ["_law_machine_here"] sp_L_is_machine := by
  refine t.F_L_is_machine.ok sc_L_is_machine (fun vs H Q E h => ?_) (fun cdv A outer s H vs Q E hr h => ?_)
  · obtain ⟨F, v, M, rfl, _⟩ := h
    rfl
  · obtain ⟨F, v, M, rfl, sF, hv, sm, q⟩ := h
    refine ⟨_, (pss_cons (ps_setLc (i := 1) (own := [("_law_row", 2)]) (g := gName 2) (tt := tYes) rfl sc_L_is_machine.nd rfl rfl (sw_true rfl rfl rfl (by decide +kernel)) (pi_list (pv 0)) (blkOk_by (N := N_L_is_machine) (sc := defScope s_L_is_machine) (by decide +kernel)) (fun _ _ _ _ _ => (pg_name (i := 2) sc_L_is_machine.nd rfl (by first | exact Or.inl rfl | exact Or.inr rfl))) (fun _ _ _ _ _ => pts_nil) (fun _ _ _ _ _ => (pe_callB (id := "len") (crK (K := K) (r := rLenQ) rfl call_lenQ) (by rfl) t.n_len (by decide +kernel) (pa_cons (pv 2) pa_nil))))
      (pss_cons (ps_if (PW.pt (pw_or (pt_cmpR op_lt (pe_callB (id := "len") call_lenQ (by rfl) t.n_len (by decide +kernel) (pa_cons (pv 0) pa_nil)) pe_int (nomark _)) (pw_or (pt_cmpR op_gt (pe_callB (id := "len") call_lenQ (by rfl) t.n_len (by decide +kernel) (pa_cons (pv 0) pa_nil)) pe_int (nomark _)) (pw_or (pt_cmpR op_lt (pe_ix ix_list (pv 1) pe_int (fun _ _ => rfl)) pe_int (nomark _)) (pw_or (pt_cmpR op_gt (pe_ix ix_list (pv 1) pe_int (fun _ _ => rfl)) pe_int (nomark _)) (pw_or1 (pt_cmpR op_lt (pe_callB (id := "min") (cr_min rfl) (by rfl) t.n_min (by decide +kernel) (pa_cons (pv 1) pa_nil)) (pe_callB (id := "max") (cr_max rfl) (by rfl) t.n_max (by decide +kernel) (pa_cons (pv 1) pa_nil)) (nomark _)))))))) (pss_one (ps_ret pe_bl)) pss_nil)
      (pss_cons (ps_for PassesOwn.never rfl (pi_list (pv 0)) (pg_name (i := 2) sc_L_is_machine.nd rfl (by first | exact Or.inl rfl | exact Or.inr rfl)) (pss_one (ps_for PassesOwn.never rfl (pi_list (pv 2)) (pg_name (i := 3) sc_L_is_machine.nd rfl (by first | exact Or.inl rfl | exact Or.inr rfl)) (pss_one (ps_if (pt_not (pt_val (pe_call (ok_L_is_entry t) (hr.mono (by decide)) (by rfl) t.m_L_is_entry t.F_L_is_entry.kp t.b_L_is_entry .nil pass0 (pa_cons (pv 3) (pa_cons (pe_callB (id := "len") call_lenQ (by rfl) t.n_len (by decide +kernel) (pa_cons (pv 0) pa_nil)) (pa_cons (pe_ix ix_list (pv 1) pe_int (fun _ _ => rfl)) pa_nil)))))) (pss_one (ps_ret pe_bl)) pss_nil)))))
      (pss_one (ps_ret pe_bl))))), ?_⟩
    have g0 : Gr mu0 F H F H := Gr.refl sF
    obtain ⟨a, rs, rfl, ha, hrs⟩ := hv
    have lr := hrs.1
    have lM := sm.1
    refine ⟨_, rfl, a, rfl, ⟨_, SqL.of (sF _ _ ha)⟩, fun D nD => lc_list (K := K) (a := a) (xs := rs) (fun i G => Gr mu0 F H F G ∧ H D = none ∧ G D = some (.lst (((M.take i).map fun r => (r.length : Int)).map V.int))) ⟨g0.own nD, nD, upd_same⟩ (fun i G _ p => SqL.of (p.1.fh _ _ ha)) ?_ ?_⟩
    · rintro i x G hi ⟨gG, nH, hD⟩
      obtain ⟨row, hMi, b, es, rfl, hb, hes⟩ := hrs.get' hi
      refine ⟨rfl, yes ⟨_, rfl, b, es, rfl, .inl (SqL.of (gG.fh _ _ hb)), _, hD, by rw [List.length_map, List.length_map, List.length_take]; exact lt_size (by omega), ?_⟩⟩
      rw [mt1 hMi, List.map_append, show es.length = row.length from hes.1]
      exact ⟨gG.set (ne_of_none' sF nH) (.inl nH), nH, upd_same⟩
    rintro G ⟨gG, nH, hD⟩
    rw [lr, List.take_length] at hD
    have hn : ∀ H', Gr mu0 F H F H' → isM M = false → Q (.bl false) H' := fun H' g e => by have z := q H' g; rw [e] at z; exact z
    have h0 := gG.fh _ _ ha
    refine ⟨_, rfl, a, rs, rfl, .inl (SqL.of h0), _, _, rfl, rfl, _, rfl, ?_⟩
    by_cases c1 : M.length < 1
    · exact ifT (decide_eq_true (by omega)) (hn _ gG (by unfold isM; rw [decide_eq_false (show ¬ 1 ≤ M.length by omega)]; rfl))
    refine ifF (decide_eq_false (by omega)) ⟨_, rfl, a, rs, rfl, .inl (SqL.of h0), _, _, rfl, rfl, _, rfl, ?_⟩
    by_cases c2 : 4 < M.length
    · exact ifT (decide_eq_true (by omega)) (hn _ gG (by unfold isM; rw [decide_eq_false (show ¬ M.length ≤ 4 by omega), Bool.and_false]; rfl))
    have hM0 : M[0]? = some (M[0]'(by omega)) := List.getElem?_eq_getElem _
    generalize M[0]'(by omega) = row0 at hM0
    have eh : M.headD [] = row0 := by
      cases M with
      | nil => simp at hM0
      | cons x M => exact Option.some.inj hM0
    have hn0 : ((M.map fun r => (r.length : Int)).map V.int)[0]? = some (.int (row0.length : Int)) := by
      rw [List.getElem?_map, List.getElem?_map, hM0]; rfl
    have e12 : isM M = (decide (2 ≤ row0.length) && decide (row0.length ≤ 4) && M.all (fun r => decide (r.length = row0.length)) && M.all (fun r => r.all fun e => isE M.length row0.length e.l)) := by
      unfold isM
      rw [eh, decide_eq_true (show 1 ≤ M.length by omega), decide_eq_true (show M.length ≤ 4 by omega), Bool.and_self, Bool.true_and]
    rw [e12] at q hn
    refine ifF (decide_eq_false (by omega)) ⟨_, rfl, D, _, _, _, rfl, rfl, SqL.of hD, atI_nat (j := 0) hn0, _, _, rfl, rfl, _, rfl, ?_⟩
    by_cases c3 : row0.length < 2
    · exact ifT (decide_eq_true (by omega)) (hn _ gG (by rw [decide_eq_false (show ¬ 2 ≤ row0.length by omega)]; rfl))
    refine ifF (decide_eq_false (by omega)) ⟨_, rfl, D, _, _, _, rfl, rfl, SqL.of hD, atI_nat (j := 0) hn0, _, _, rfl, rfl, _, rfl, ?_⟩
    by_cases c4 : 4 < row0.length
    · exact ifT (decide_eq_true (by omega)) (hn _ gG (by rw [decide_eq_false (show ¬ row0.length ≤ 4 by omega), Bool.and_false]; rfl))
    have hp : 0 < (M.map fun r => (r.length : Int)).length := by rw [List.length_map]; omega
    refine ifF (decide_eq_false (by omega)) ⟨_, rfl, D, _, rfl, SqL.of hD, hp, fun m1 h1 l1 => ⟨_, rfl, D, _, rfl, SqL.of hD, hp, fun m2 h2 l2 => ⟨_, _, rfl, rfl, _, rfl, ?_⟩⟩⟩
    have ea := all_eq (M := M) (k := row0.length) rfl (List.mem_map.mpr ⟨row0, List.mem_of_getElem? hM0, rfl⟩) h1 l1 h2 l2
    rw [decide_eq_true (show 2 ≤ row0.length by omega), decide_eq_true (show row0.length ≤ 4 by omega), ea, Bool.and_self, Bool.true_and] at q hn
    by_cases c5 : m1 < m2
    · exact ifT (decide_eq_true c5) (hn _ gG (by rw [decide_eq_true c5]; rfl))
    refine ifF (decide_eq_false c5) ?_
    rw [decide_eq_false c5, Bool.not_false, Bool.true_and] at q hn
    refine ⟨_, rfl, a, rfl, ⟨_, SqL.of h0⟩, for_list (K := K) (a := a) (xs := rs) (fun i σ G1 => ∃ (v2 v3 : Option V), σ = [some (.ref a), some (.ref D), v2, v3] ∧ Gr mu0 F H F G1 ∧ G1 D = some (.lst ((M.map fun r => (r.length : Int)).map V.int)) ∧ (M.take i).all (fun r => r.all fun e => isE M.length row0.length e.l) = true)
      ⟨none, none, rfl, gG, hD, rfl⟩ (fun i σ G _ ⟨_, _, _, p, _⟩ => SqL.of (p.fh _ _ ha)) ?_ ?_⟩
    · rintro i y σ G1 hi ⟨v2, v3, rfl, g1, hD1, ok⟩
      obtain ⟨row, hMi, b, es, rfl, hb, hes⟩ := hrs.get' hi
      refine ⟨_, rfl, b, rfl, ⟨_, SqL.of (g1.fh _ _ hb)⟩, for_list (K := K) (a := b) (xs := es) (fun j σ G2 => ∃ (v3 : Option V), σ = [some (.ref a), some (.ref D), some (.ref b), v3] ∧ Gr mu0 F H F G2 ∧ G2 D = some (.lst ((M.map fun r => (r.length : Int)).map V.int)) ∧ (row.take j).all (fun e => isE M.length row0.length e.l) = true)
        ⟨v3, rfl, g1, hD1, rfl⟩ (fun j σ G _ ⟨_, _, p, _⟩ => SqL.of (p.fh _ _ hb)) ?_ ?_⟩
      · rintro j z σ G2 hj ⟨v3, rfl, g2, hD2, ok2⟩
        obtain ⟨e, hej, hye⟩ := hes.get' hj
        refine ⟨_, rfl, _, rfl, a, rs, rfl, .inl (SqL.of (g2.fh _ _ ha)), _, rfl, D, _, _, _, rfl, rfl, SqL.of hD2, atI_nat (j := 0) hn0, F, z, e, M.length, row0.length, ?_, g2.fh, hye, fun G3 g3 => ⟨_, rfl, ?_⟩⟩
        · rw [lr]; rfl
        · cases c : isE M.length row0.length e.l with
          | false =>
            refine ifT rfl (hn _ (g2.trans g3) ?_)
            refine Bool.eq_false_iff.mpr fun k => ?_
            have k1 := List.all_eq_true.mp (List.all_eq_true.mp k row (List.mem_of_getElem? hMi)) e (List.mem_of_getElem? hej)
            rw [c] at k1; cases k1
          | true =>
            refine ifF rfl ⟨_, rfl, g2.trans g3, g3.fr _ _ hD2 (fun z => z), ?_⟩
            rw [List.take_add_one, hej, List.all_append, ok2]
            show (true && (isE M.length row0.length e.l && true)) = true
            rw [c]; rfl
      · rintro σ G2 ⟨v3, rfl, g2, hD2, ok2⟩
        rw [hes.1, List.take_length] at ok2
        refine ⟨_, _, rfl, g2, hD2, ?_⟩
        rw [List.take_add_one, hMi, List.all_append, ok]
        show (true && ((row.all fun e => isE M.length row0.length e.l) && true)) = true
        rw [ok2]; rfl
    · rintro σ G1 ⟨v2, v3, rfl, g1, hD1, ok⟩
      rw [lr, List.take_length] at ok
      have z := q _ g1
      rw [ok] at z
      exact z
/-- x in xs, of data -/
theorem any_eqv {α : Type} [Dat α] (x : α) (l : List α) : ((l.map Dat.py).any fun z => PyData.eqv z (Dat.py x)) = true ↔ x ∈ l := by
  rw [List.any_eq_true]
  constructor
  · rintro ⟨z, hz, e⟩
    obtain ⟨y, hy, rfl⟩ := List.mem_map.mp hz
    rw [← (Dat.eqv y x).mp e]; exact hy
  · intro h
    exact ⟨_, List.mem_map.mpr ⟨x, h, rfl⟩, (Dat.eqv x x).mpr rfl⟩
theorem in_dat {α : Type} [Dat α] {K : PySem.W.Frag} {H : Hp} {v w : V} {x : α} {l : List α} {Q : VK} (hx : Is H v x) (hl : Is H w l) (q1 : x ∈ l → Q (.bl true) H) (q2 : x ∉ l → Q (.bl false) H) (hd : Dat.dep α + 1 ≤ 64 := by decide) : rInD K v w H Q := by
  refine ⟨Dat.py x, l.map Dat.py, Dat.dp hx, Dat.dp (d := l) hl, ?_, ?_, ?_⟩
  · show (PyData.canLay0 _ && decide _) = true
    rw [Dat.can, decide_eq_true (Nat.le_trans (Dat.depth x) (by omega))]; rfl
  · show (PyData.canLay0 (Dat.py l) && decide ((Dat.py l).depth ≤ 64)) = true
    rw [Dat.can, decide_eq_true (Nat.le_trans (Dat.depth l) hd)]; rfl
  · cases e : ((l.map Dat.py).any fun z => PyData.eqv z (Dat.py x)) with
    | true => exact q1 ((any_eqv x l).mp e)
    | false => exact q2 fun m => by rw [(any_eqv x l).mpr m] at e; cases e
def machL (x : Str) : Option GM := (machP 4 x).bind fun M => if isM M = true then some M else none
theorem all_some {F : Hp} {zs : List V} {es : List GE} (h : IsAll F zs (es.map some : List (Option GE))) : IsAll F zs es := by
  refine ⟨by rw [h.1, List.length_map], fun i v e h1 h2 => ?_⟩
  have := h.2 i v (some e) h1 (by rw [List.getElem?_map, h2]; rfl)
  exact this
theorem allS_eq {α : Type} {l : List (Option α)} {es : List α} (h : allS l = some es) : l = es.map some := by
  rcases allS_cases l with ⟨fs, e⟩ | z
  · rw [allS_some e] at h
    cases h
    exact e
  · rw [allS_none z] at h; cases h
theorem eP_len {hi : Nat} {l : List Nat} {e : GE} (h : eP hi l = some e) : e.l.length ≤ 3 := by
  unfold eP at h
  split at h
  · cases h; exact Nat.zero_le _
  · split at h
    · split at h
      · cases h; exact Nat.le_refl _
      · cases h
    · cases h
theorem machP_small {hi : Nat} {x : Str} {M : GM} (h : machP hi x = some M) (hx : x.length ≤ 20000) : Small M := by
  have e := allS_eq h
  have l1 := PyProof.Rows.split_le x " "
  have n1 := congrArg List.length e
  rw [List.length_map, List.length_map] at n1
  refine ⟨by omega, fun r mr => ?_⟩
  have m1 : some r ∈ (Txt.split x " ").map (rowP hi) := by rw [e]; exact List.mem_map.mpr ⟨r, mr, rfl⟩
  obtain ⟨row, mrow, er⟩ := List.mem_map.mp m1
  have e2 := allS_eq er
  have l2 := PyProof.Rows.split_le row ","
  have l3 := split_part mrow
  have n2 := congrArg List.length e2
  rw [List.length_map, List.length_map] at n2
  refine ⟨by omega, fun e me => ?_⟩
  have m2 : some e ∈ (Txt.split row ",").map (fun y => eP hi (TL.tl y)) := by rw [e2]; exact List.mem_map.mpr ⟨e, me, rfl⟩
  obtain ⟨y, _, ey⟩ := List.mem_map.mp m2
  have := eP_len ey
  omega
def sp_L_machine_of : Sp := fun vs H Q _ => ∃ (F : Hp) (x : Str), vs = [.str x] ∧ Same F H ∧ x.length ≤ 20000 ∧ ∀ (F' H' : Hp) (v : V), Gr mu0 F H F' H' → Is F' v (machL x) → Q v H'
theorem ok_L_machine_of (t : Tx K mg) : FnOk P w K mg base CX0 3 t.a_L_machine_of t.fd_L_machine_of ["_law_text_here"] sp_L_machine_of := by
  refine t.F_L_machine_of.ok sc_L_machine_of (fun vs H Q E h => ?_) (fun cdv A outer s H vs Q E hr h => ?_)
  · obtain ⟨F, x, rfl, _⟩ := h
    rfl
  · obtain ⟨F, x, rfl, sF, hx, q⟩ := h
    refine ⟨_, (pss_cons (ps_set (i := 1) sc_L_machine_of.nd rfl (by first | exact Or.inl rfl | exact Or.inr rfl) (pe_lst pa_nil))
      (pss_cons (ps_for PassesOwn.never rfl (pi_list (pe_split (pv 0) pe_str)) (pg_name (i := 2) sc_L_machine_of.nd rfl (by first | exact Or.inl rfl | exact Or.inr rfl)) (pss_cons (ps_setLc (i := 3) (own := [("_law_word_here", 4)]) (g := gName 4) (tt := tYes) rfl sc_L_machine_of.nd rfl rfl (sw_true rfl rfl rfl (by decide +kernel)) (pi_list (pe_split (pv 2) pe_str)) (blkOk_by (N := N_L_machine_of) (sc := defScope s_L_machine_of) (by decide +kernel)) (fun _ _ _ _ _ => (pg_name (i := 4) sc_L_machine_of.nd rfl (by first | exact Or.inl rfl | exact Or.inr rfl))) (fun _ _ _ _ _ => pts_nil) (fun _ _ _ _ _ => (pe_call (ok_L_entry_of t) (hr.mono (by decide)) (by rfl) t.m_L_entry_of t.F_L_entry_of.kp t.b_L_entry_of .nil pass0 (pa_cons (pv 4) pa_nil))))
      (pss_cons (ps_if (pt_cmpR (op_inD (u65 hr)) pe_non (pv 3) (by rfl)) (pss_one (ps_ret pe_non)) pss_nil)
      (pss_one (ps_expr (pe_bm PySem.F.plainAttrs_list PySem.F.slot_list_append PySem.F.type_list_append mt_append (pv 1) (pa_cons (pv 3) pa_nil)))))))
      (pss_cons (ps_if (pt_not (pt_val (pe_call (ok_L_is_machine t) (hr.mono (by decide)) (by rfl) t.m_L_is_machine t.F_L_is_machine.kp t.b_L_is_machine .nil pass0 (pa_cons (pv 1) pa_nil)))) (pss_one (ps_ret pe_non)) pss_nil)
      (pss_one (ps_ret (pv 1)))))), ?_⟩
    have g0 : Gr mu0 F H F H := Gr.refl sF
    refine ⟨nil_le, fun m nm => ?_⟩
    have g1 := g0.own (o := .lst []) nm
    have w1 : Ow H F (upd H m (.lst [])) m (.lst []) := Ow.mk1 g0 nm
    generalize upd H m (.lst []) = H1 at g1 w1 ⊢
    have ls := PyProof.Rows.split_le x " "
    refine ⟨_, rfl, ⟨_, rfl⟩, _, _, rfl, rfl, by decide +kernel, le_size (n := x.length + 2) (by omega), fun S nS => ?_⟩
    have g2 := g1.own (o := .lst ((Txt.split x " ").map V.str)) nS
    have w2 := w1.own (u := .lst ((Txt.split x " ").map V.str)) nS
    have hS : (upd H1 S (.lst ((Txt.split x " ").map V.str))) S = some (.lst ((Txt.split x " ").map V.str)) := upd_same
    have mS : m ≠ S := w1.ne nS
    generalize upd H1 S (.lst ((Txt.split x " ").map V.str)) = H2 at g2 w2 hS ⊢
    refine ⟨S, rfl, ⟨_, SqL.of hS⟩, for_list (K := K) (a := S) (xs := (Txt.split x " ").map V.str) (fun i σ G => ∃ (F1 : Hp) (xs : List V) (M : GM) (v2 v3 : Option V), σ = [some (.str x), some (.ref m), v2, v3, none] ∧ Gr mu0 F H F1 G ∧ G S = some (.lst ((Txt.split x " ").map V.str)) ∧ Ow H F1 G m (.lst xs) ∧ IsAll F1 xs M ∧ ((Txt.split x " ").take i).map (rowP 4) = M.map some)
      ⟨F, [], [], none, none, rfl, g2, hS, w2, All2.nil, rfl⟩ (fun i σ G _ p => SqL.of p.choose_spec.choose_spec.choose_spec.choose_spec.choose_spec.2.2.1) ?_ ?_⟩
    · rintro i y σ G hi ⟨F1, xs, M, v2, v3, rfl, g, hSG, w, al, eM⟩
      obtain ⟨row, hrow, rfl⟩ : ∃ row, (Txt.split x " ")[i]? = some row ∧ V.str row = y := by
        rw [List.getElem?_map] at hi
        exact Option.map_eq_some_iff.mp hi
      have mrow := List.mem_of_getElem? hrow
      have lrow := split_part mrow
      have lr2 := PyProof.Rows.split_le row ","
      have il := (List.getElem?_eq_some_iff.mp hrow).1
      have lxs : xs.length ≤ i := by
        have := congrArg List.length eM
        rw [List.length_map, List.length_map, List.length_take] at this
        rw [al.1]; omega
      refine ⟨_, rfl, ⟨_, rfl⟩, _, _, rfl, rfl, by decide +kernel, le_size (n := row.length + 2) (by omega), fun T nT => ?_⟩
      have g3 := g.own (o := .lst ((Txt.split row ",").map V.str)) nT
      have hS3 := ln (u := .lst ((Txt.split row ",").map V.str)) nT hSG
      have hT3 : (upd G T (.lst ((Txt.split row ",").map V.str))) T = some (.lst ((Txt.split row ",").map V.str)) := upd_same
      have w3 := w.own (u := .lst ((Txt.split row ",").map V.str)) nT
      generalize upd G T (.lst ((Txt.split row ",").map V.str)) = G3 at g3 hS3 hT3 w3 ⊢
      refine ⟨T, rfl, ⟨_, SqL.of hT3⟩, fun D nD => lc_list (K := K) (a := T) (xs := (Txt.split row ",").map V.str) (fun j G => ∃ (F2 : Hp) (zs : List V), Gr mu0 F H F2 G ∧ Same F1 F2 ∧ G S = some (.lst ((Txt.split x " ").map V.str)) ∧ G T = some (.lst ((Txt.split row ",").map V.str)) ∧ S ≠ D ∧ T ≠ D ∧ m ≠ D ∧ Ow H F2 G m (.lst xs) ∧ Ow H F2 G D (.lst zs) ∧ IsAll F2 zs (((Txt.split row ",").take j).map (fun y => eP 4 (TL.tl y))))
        ⟨F1, [], g3.own nD, Same.refl _, ln nD hS3, ln nD hT3, ne_of_none hS3 nD, ne_of_none hT3 nD, w3.ne nD, w3.own nD, Ow.mk1 g3 nD, All2.nil⟩ (fun j G _ p => SqL.of p.choose_spec.choose_spec.2.2.2.1) ?_ ?_⟩
      · rintro j z G hj ⟨F2, zs, g, s2, hSG, hTG, SD, TD, mD, wm, wd, alz⟩
        obtain ⟨y, hy, rfl⟩ : ∃ y, (Txt.split row ",")[j]? = some y ∧ V.str y = z := by
          rw [List.getElem?_map] at hj
          exact Option.map_eq_some_iff.mp hj
        have ly := split_part (List.mem_of_getElem? hy)
        have jl := (List.getElem?_eq_some_iff.mp hy).1
        have lzs : zs.length ≤ j := by
          have := alz.1
          rw [List.length_map, List.length_take] at this
          omega
        refine ⟨rfl, yes ⟨_, rfl, F2, y, rfl, g.fh, by omega, fun F3 H4 v g4 hv => ?_⟩⟩
        have w4 := wd.call g4 (fun z => z)
        refine ⟨_, w4.h, lt_size (by omega), F3, zs ++ [v], (g.trans g4).set w4.f (.inl w4.n), fun c o h => g4.ff _ _ (s2 _ _ h), by rw [upd_ne SD]; exact g4.fr _ _ hSG (fun z => z), by rw [upd_ne TD]; exact g4.fr _ _ hTG (fun z => z), SD, TD, mD, (wm.call g4 (fun z => z)).other mD, w4.set, ?_⟩
        rw [List.take_add_one, hy, List.map_append]
        exact (alz.up g4.ff).app (All2.one hv)
      · rintro G ⟨F2, zs, g, s2, hSG, hTG, SD, TD, mD, wm, wd, alz⟩
        rw [List.length_map, List.take_length] at alz
        have iz : Is G (.ref D) ((Txt.split row ",").map fun y => eP 4 (TL.tl y)) := ⟨D, zs, rfl, wd.h, alz.up g.fh⟩
        refine ⟨_, rfl, in_dat (α := Option GE) (x := none) (l := (Txt.split row ",").map fun y => eP 4 (TL.tl y)) rfl iz (fun hin => ⟨_, rfl, ifT rfl ?_⟩) (fun hin => ⟨_, rfl, ifF rfl ?_⟩)⟩
        · have n1 : rowP 4 row = none := allS_none hin
          have n2 : machP 4 x = none := allS_none (List.mem_map.mpr ⟨row, mrow, n1⟩)
          exact q _ _ _ g (by unfold machL; rw [n2]; rfl)
        · rcases allS_cases ((Txt.split row ",").map fun y => eP 4 (TL.tl y)) with ⟨es, ee⟩ | z
          case inr => exact absurd z hin
          have er : rowP 4 row = some es := allS_some ee
          rw [ee] at alz
          have ale := all_some alz
          have g5 := g.frz wd.h wd.n wd.f
          have hD : (upd F2 D (.lst zs)) D = some (.lst zs) := upd_same
          have s5 : Same F2 (upd F2 D (.lst zs)) := sm_up wd.f
          have wm5 : Ow H (upd F2 D (.lst zs)) G m (.lst xs) := ⟨wm.n, by rw [upd_ne mD]; exact wm.f, wm.h⟩
          refine ⟨_, rfl, .inl ⟨rfl, _, SqL.of wm.h⟩, _, rfl, m, _, _, rfl, rfl, wm.h, lt_size (by omega), ?_⟩
          exact ⟨upd F2 D (.lst zs), xs ++ [.ref D], M ++ [es], _, _, rfl, g5.set wm5.f (.inl wm5.n), by rw [upd_ne mS.symm]; exact hSG, wm5.set, ((al.up s2).up s5).app (All2.one ⟨D, zs, rfl, hD, ale.up s5⟩), take_some hrow er eM⟩
    · rintro σ G ⟨F1, xs, M, v2, v3, rfl, g, hSG, w, al, eM⟩
      rw [List.length_map, List.take_length] at eM
      have em : machP 4 x = some M := allS_some eM
      have g5 := g.frz w.h w.n w.f
      have s5 : Same F1 (upd F1 m (.lst xs)) := sm_up w.f
      have im : Is (upd F1 m (.lst xs)) (.ref m) M := ⟨m, xs, rfl, upd_same, al.up s5⟩
      generalize upd F1 m (.lst xs) = F5 at g5 im
      have ez : machL x = if isM M = true then some M else none := by unfold machL; rw [em]; rfl
      refine ⟨_, rfl, F5, .ref m, M, rfl, g5.fh, im, machP_small em hx, fun H' g' => ⟨_, rfl, ?_⟩⟩
      cases e : isM M with
      | true => exact ifF rfl ⟨_, rfl, q F5 H' (.ref m) (g5.trans g') (by rw [ez, if_pos e]; exact im)⟩
      | false => exact ifT rfl (q F5 H' .non (g5.trans g') (by rw [ez, if_neg (by rw [e]; exact Bool.false_ne_true)]; rfl))
/-! ### join within a comprehension -/
def tJoinK (K : PySem.W.Frag) (to te : TE) : TE := tM1 (fun x xs H Q => ∃ a p, ∃ ys : List Str, x = .str a ∧ xs = [.ref p] ∧ (SqL K H p (ys.map V.str) ∨ SqT K H p (ys.map V.str)) ∧ (ys.map (·.length)).sum + ys.length * a.length ≤ 16777216 ∧ Q (.str (Txt.join a ys)) H) to te
theorem pe_joinK {X : Cx} {K : PySem.W.Frag} {o e : Expr} {to te : TE} {apos pos : Pos} (ek : X.K = K) (ho : PE X o to) (he : PE X e te) (hs : starEach [e] X.env = [(false, eval e X.env)] := by rfl) (hbase : attributeBase o "join" X.env (eval o X.env) = eval o X.env := by rfl) (hline : (apos.endLine == pos.line) = true := by rfl) :
    PE X (.Call (.Attribute o "join" apos) [e] [] pos) (tJoinK K to te) := by
  subst ek
  exact pe_join ho he hs hbase hline
theorem mt3 {α : Type} {f : α → Str} {l : List α} {i : Nat} {x : α} (h : l[i]? = some x) : ((l.take i).map f).map V.str ++ [V.str (f x)] = ((l.take (i + 1)).map f).map V.str := by
  rw [mt1 h, List.map_append]; rfl
/-! ### texts of entries and of machines -/
def wayT (w : Int) : Str := if w = 1 then "R" else "L"
def textE : List Int → Str
  | [] => "---"
  | [p, w, r] => toString p ++ wayT w ++ rowT r
  | _ => ""
theorem wayT_at (w : Int) : ∃ c, atI ("LR" : Str).cps.toList (if decide (V.int w = V.int 1) = true then 1 else 0) = some c ∧ (⟨#[c]⟩ : Str) = wayT w := by
  by_cases e : w = 1
  · subst e
    exact ⟨82, by decide +kernel, by decide +kernel⟩
  · rw [if_neg (by rw [decide_eq_true_iff]; exact fun z => e (V.int.inj z))]
    unfold wayT
    rw [if_neg e]
    exact ⟨76, by decide +kernel, by decide +kernel⟩
theorem wayT_len (w : Int) : (wayT w).length = 1 := by
  unfold wayT
  split
  · decide +kernel
  · decide +kernel
theorem figT_len {p : Int} (h0 : 0 ≤ p) (h1 : p < 4) : (toString p : Str).length = 1 := by
  have h : p = 0 ∨ p = 1 ∨ p = 2 ∨ p = 3 := by omega
  rcases h with rfl | rfl | rfl | rfl <;> decide +kernel
theorem isE_cases {R S : Nat} {l : List Int} (h : isE R S l = true) : l = [] ∨ ∃ p w r, l = [p, w, r] ∧ 0 ≤ p ∧ p < (S : Int) ∧ (w = -1 ∨ w = 1) ∧ 0 ≤ r ∧ r < (R : Int) := by
  match l, h with
  | [], _ => exact .inl rfl
  | [p], h => cases h
  | [p, w], h => cases h
  | p :: w :: r :: u :: l, h => cases h
  | [p, w, r], h =>
    have h : (decide (0 ≤ p) && decide (p < (S : Int)) && (decide (w = -1) || decide (w = 1)) && decide (0 ≤ r) && decide (r < (R : Int))) = true := h
    simp only [Bool.and_eq_true, Bool.or_eq_true, decide_eq_true_iff] at h
    exact .inr ⟨p, w, r, rfl, h.1.1.1.1, h.1.1.1.2, h.1.1.2, h.1.2, h.2⟩
theorem textE_len {R S : Nat} {l : List Int} (h : isE R S l = true) (hS : S ≤ 4) : (textE l).length = 3 := by
  rcases isE_cases h with rfl | ⟨p, w, r, rfl, p0, p1, _, _, _⟩
  · decide +kernel
  · show (toString p ++ wayT w ++ rowT r).length = 3
    rw [str_len_app, str_len_app, figT_len p0 (by omega), wayT_len, rowT_len]
def textR (r : List GE) : Str := Txt.join "," (r.map fun e => textE e.l)
def textM (M : GM) : Str := Txt.join " " (M.map textR)
structure IsM (M : GM) (R S : Nat) : Prop where
  r1 : 1 ≤ R
  r4 : R ≤ 4
  s2 : 2 ≤ S
  s4 : S ≤ 4
  len : M.length = R
  row : ∀ r ∈ M, r.length = S
  ent : ∀ r ∈ M, ∀ e ∈ r, isE R S e.l = true
theorem isM_of {M : GM} (h : isM M = true) : ∃ R S, IsM M R S := by
  unfold isM at h
  simp only [Bool.and_eq_true, decide_eq_true_iff, List.all_eq_true] at h
  obtain ⟨⟨⟨⟨⟨h1, h2⟩, h3⟩, h4⟩, h5⟩, h6⟩ := h
  exact ⟨M.length, (M.headD []).length, h1, h2, h3, h4, rfl, h5, h6⟩
theorem comma_len : ("," : Str).length = 1 := by decide +kernel
theorem textR_len {R S : Nat} {r : List GE} (h : ∀ e ∈ r, isE R S e.l = true) (hS : S ≤ 4) : ∀ x ∈ r.map fun e => textE e.l, x.length ≤ 3 := fun x m => by
  obtain ⟨e, he, rfl⟩ := List.mem_map.mp m
  exact Nat.le_of_eq (textE_len (h e he) hS)
theorem textR_le {R S : Nat} {r : List GE} (h : ∀ e ∈ r, isE R S e.l = true) (hS : S ≤ 4) (hr : r.length ≤ 4) : (textR r).length ≤ 16 := by
  have z := join_len_le "," _ (textR_len h hS)
  rw [List.length_map, comma_len] at z
  show (Txt.join "," _).length ≤ 16
  have : r.length * (3 + 1) ≤ 4 * 4 := Nat.mul_le_mul hr (Nat.le_refl 4)
  omega
def sp_show_entry : Sp := fun vs H Q _ => ∃ (F : Hp) (v : V) (e : GE) (R S : Nat), vs = [v] ∧ Same F H ∧ Is F v e ∧ isE R S e.l = true ∧ R ≤ 4 ∧ S ≤ 4 ∧ ∀ H', Gr mu0 F H F H' → Q (.str (textE e.l)) H'
theorem log_le {p : Int} (h0 : 0 ≤ p) (h1 : p < 4) : p.natAbs.log2 < 1920 := by
  have h : p = 0 ∨ p = 1 ∨ p = 2 ∨ p = 3 := by omega
  rcases h with rfl | rfl | rfl | rfl <;> decide +kernel
/-! ### the law's own: texts; let by or refused, rightly -/
theorem wayL_at (w : Int) : atI [V.str "L", V.str "R"] (if decide (V.int w = V.int 1) = true then 1 else 0) = some (.str (wayT w)) := by
  by_cases e : w = 1
  · subst e; rfl
  · rw [if_neg (by rw [decide_eq_true_iff]; exact fun z => e (V.int.inj z))]
    unfold wayT
    rw [if_neg e]; rfl
def sp_L_entry_text : Sp := sp_show_entry
theorem ok_L_entry_text (t : Tx K mg) : FnOk P w K mg base CX0 1 t.a_L_entry_text t.fd_L_entry_text ["_law_entry"] sp_L_entry_text := by
  refine t.F_L_entry_text.ok sc_L_entry_text (fun vs H Q E h => ?_) (fun cdv A outer s H vs Q E hr h => ?_)
  · obtain ⟨F, v, e, R, S, rfl, _⟩ := h
    rfl
  · obtain ⟨F, v, e, R, S, rfl, sF, hv, he, hR, hS, q⟩ := h
    refine ⟨_, (pss_cons (ps_if (pt_cmpR (op_eqD hr.units) (pv 0) (pe_tup pa_nil) (nomark _)) (pss_one (ps_ret pe_str)) pss_nil)
      (pss_one (ps_ret (pe_op op_add_str (pe_op op_add_str (pe_callTy (T := "str") call_str_int (by rfl) t.n_str (by decide +kernel) (pa_cons (pe_ix ix_tup (pv 0) pe_int (fun _ _ => rfl)) pa_nil)) (pe_ix ix_list (pe_lst (pa_cons pe_str (pa_cons pe_str pa_nil))) (pe_callTy (T := "int") call_int1 (by rfl) t.n_int (by decide +kernel) (pa_cons (pe_cmpR op_eq (pe_ix ix_tup (pv 0) pe_int (fun _ _ => rfl)) pe_int (nomark _)) pa_nil)) (fun _ _ => rfl))) (pe_ix ix_str pe_str (pe_ix ix_tup (pv 0) pe_int (fun _ _ => rfl)) (fun _ _ => rfl)))))), ?_⟩
    have g0 : Gr mu0 F H F H := Gr.refl sF
    refine ⟨_, rfl, nil_le, fun p np => ?_⟩
    have g1 : Gr mu0 F H F (upd H p (.tup [])) := g0.own np
    refine eq_dat (a := e) (b := (⟨[]⟩ : GE)) (hv.up g1.fh) ⟨p, _, rfl, upd_same, All2.nil⟩ ?_
    refine ⟨_, rfl, ?_⟩
    obtain ⟨l⟩ := e
    obtain ⟨a, xs, rfl, ha, hx⟩ := hv
    have hx : IsAll F xs l := hx
    obtain rfl := ints_of hx
    generalize upd H p (.tup []) = H1 at g1 ⊢
    have h1 := SqT.of (K := K) (g1.fh _ _ ha)
    rcases isE_cases he with e | ⟨p0, w, r, e, o1, o2, o3, o4, o5⟩
    · have e : l = [] := e
      subst e
      exact ifT (decide_eq_true rfl) (q _ g1)
    · have e : l = [p0, w, r] := e
      subst e
      refine ifF (decide_eq_false (fun z => by cases z)) ?_
      obtain ⟨c2, hc2, ec2⟩ := rowT_at o4 (show r < 4 by omega)
      refine ⟨_, rfl, a, _, _, _, rfl, rfl, h1, atI_nat (j := 0) rfl, p0, rfl, log_le o1 (by omega), two_le, fun l nl => ?_⟩
      have g2 := g1.own (o := .lst [.str "L", .str "R"]) nl
      have h2 := SqT.of (K := K) (g2.fh _ _ ha)
      refine ⟨_, rfl, a, _, _, _, rfl, rfl, h2, atI_nat (j := 1) rfl, rfl, .inr ⟨_, rfl, l, _, _, _, rfl, rfl, SqL.of upd_same, wayL_at w, ?_⟩⟩
      refine ⟨_, _, rfl, rfl, ?_, ?_⟩
      · rw [figT_len o1 (by omega), wayT_len]; exact two_le
      refine ⟨_, rfl, a, _, _, _, rfl, rfl, h2, atI_nat (j := 2) rfl, _, _, c2, rfl, rfl, by decide +kernel, hc2, ?_⟩
      rw [ec2]
      refine ⟨_, _, rfl, rfl, ?_, q _ g2⟩
      rw [str_len_app, figT_len o1 (by omega), wayT_len, rowT_len]; exact three_le
def sp_L_text : Sp := fun vs H Q _ => ∃ (F : Hp) (v : V) (M : GM), vs = [v] ∧ Same F H ∧ Is F v M ∧ isM M = true ∧ ∀ H', Gr mu0 F H F H' → Q (.str (textM M)) H'
theorem ok_L_text (t : Tx K mg) : FnOk P w K mg base CX0 2 t.a_L_text t.fd_L_text ["_law_machine_here"] sp_L_text := by
  refine t.F_L_text.ok sc_L_text (fun vs H Q E h => ?_) (fun cdv A outer s H vs Q E hr h => ?_)
  · obtain ⟨F, v, M, rfl, _⟩ := h
    rfl
  · obtain ⟨F, v, M, rfl, sF, hv, eM, q⟩ := h
    refine ⟨_, (pss_cons (ps_set (i := 1) sc_L_text.nd rfl (by first | exact Or.inl rfl | exact Or.inr rfl) (pe_lst pa_nil))
      (pss_cons (ps_for PassesOwn.never rfl (pi_list (pv 0)) (pg_name (i := 2) sc_L_text.nd rfl (by first | exact Or.inl rfl | exact Or.inr rfl)) (pss_one (ps_expr (pe_bm PySem.F.plainAttrs_list PySem.F.slot_list_append PySem.F.type_list_append mt_append (pv 1) (pa_cons (pe_join pe_str (pe_lc (own := [("_law_entry", 3)]) (g := gName 3) (tt := tYes) rfl sc_L_text.nd (pi_list (pv 2)) (blkOk_by (N := N_L_text) (sc := defScope s_L_text) (by decide +kernel)) (fun _ _ _ _ _ => (pg_name (i := 3) sc_L_text.nd rfl (by first | exact Or.inl rfl | exact Or.inr rfl))) (fun _ _ _ _ _ => pts_nil) (fun _ _ _ _ _ => (pe_call (ok_L_entry_text t) (hr.mono (by decide)) (by rfl) t.m_L_entry_text t.F_L_entry_text.kp t.b_L_entry_text .nil pass0 (pa_cons (pv 3) pa_nil))))) pa_nil)))))
      (pss_one (ps_ret (pe_join pe_str (pv 1)))))), ?_⟩
    have g0 : Gr mu0 F H F H := Gr.refl sF
    obtain ⟨R, S, hM⟩ := isM_of eM
    obtain ⟨a, rs, rfl, ha, hrs⟩ := hv
    have lr := hrs.1
    have lM := hM.len
    have r4 := hM.r4
    have s4 := hM.s4
    refine ⟨nil_le, fun D1 nD1 => ?_⟩
    have g1 := g0.own (o := .lst []) nD1
    refine ⟨_, rfl, a, rfl, ⟨_, SqL.of (g1.fh _ _ ha)⟩, for_list (K := K) (a := a) (xs := rs) (fun i σ G1 => ∃ v2 : Option V, σ = [some (.ref a), some (.ref D1), v2, none] ∧ Gr mu0 F H F G1 ∧ Ow H F G1 D1 (.lst (((M.take i).map textR).map V.str))) ⟨none, rfl, g1, Ow.mk1 g0 nD1⟩ (fun i σ G1 _ ⟨_, _, g, _⟩ => SqL.of (g.fh _ _ ha)) ?_ ?_⟩
    · rintro i y σ G1 hi ⟨v2, rfl, gG1, w1⟩
      obtain ⟨row, hMi, b, es, rfl, hb, hes⟩ := hrs.get' hi
      have il : i < rs.length := (List.getElem?_eq_some_iff.mp hi).1
      have mr := List.mem_of_getElem? hMi
      have hrow := hM.row row mr
      have hent := hM.ent row mr
      refine ⟨_, rfl, .inl ⟨rfl, _, SqL.of w1.h⟩, ⟨_, rfl⟩, _, rfl, b, rfl, ⟨_, SqL.of (gG1.fh _ _ hb)⟩, fun D2 nD2 => lc_list (K := K) (a := b) (xs := es) (fun j G2 => Gr mu0 F H F G2 ∧ H D2 = none ∧ D1 ≠ D2 ∧ Ow H F G2 D1 (.lst (((M.take i).map textR).map V.str)) ∧ G2 D2 = some (.lst (((row.take j).map fun e => textE e.l).map V.str)))
        ⟨gG1.own nD2, gG1.th _ nD2, w1.ne nD2, w1.own nD2, upd_same⟩ (fun j G2 _ p => SqL.of (p.1.fh _ _ hb)) ?_ ?_⟩
      · rintro j y G2 hj ⟨gG2, nH2, d12, h1, h2⟩
        obtain ⟨e, hej, hye⟩ := hes.get' hj
        have jl : j < es.length := (List.getElem?_eq_some_iff.mp hj).1
        have le : es.length = row.length := hes.1
        refine ⟨rfl, yes ⟨_, rfl, F, y, e, R, S, rfl, gG2.fh, hye, hent e (List.mem_of_getElem? hej), r4, s4, fun G3 g3 => ?_⟩⟩
        have gH3 := gG2.trans g3
        refine ⟨_, g3.fr _ _ h2 (fun z => z), by rw [List.length_map, List.length_map, List.length_take]; exact lt_size (by omega), ?_⟩
        rw [mt3 (f := fun e : GE => textE e.l) hej]
        exact ⟨gH3.set (sF.free nH2) (.inl nH2), nH2, d12, (h1.call g3 (fun z => z)).other d12, upd_same⟩
      · rintro G2 ⟨gG2, nH2, d12, h1, h2⟩
        rw [hes.1, List.take_length] at h2
        refine ⟨_, D2, _, rfl, rfl, .inl (SqL.of h2), ?_, ?_⟩
        · have z := join_le "," _ (textR_len hent s4)
          have : row.length * (3 + 1) ≤ 4 * 4 := Nat.mul_le_mul (by omega) (Nat.le_refl 4)
          rw [List.length_map, comma_len] at z
          rw [List.length_map, comma_len]
          omega
        · refine ⟨D1, _, _, rfl, rfl, h1.h, by rw [List.length_map, List.length_map, List.length_take]; exact lt_size (by omega), ?_⟩
          rw [show Txt.join "," (row.map fun e => textE e.l) = textR row from rfl, mt3 (f := textR) hMi]
          exact ⟨_, rfl, gG2.set h1.f (.inl h1.n), h1.set⟩
    · rintro σ G1 ⟨v2, rfl, gG1, w1⟩
      rw [lr, List.take_length] at w1
      refine ⟨⟨_, rfl⟩, _, rfl, _, D1, _, rfl, rfl, .inl (SqL.of w1.h), ?_, q _ gG1⟩
      have z := join_le " " (M.map textR) (k := 16) fun x m => by
        obtain ⟨r, hr, rfl⟩ := List.mem_map.mp m
        exact textR_le (hM.ent r hr) s4 (by rw [hM.row r hr]; exact s4)
      have : M.length * (16 + 1) ≤ 4 * 17 := Nat.mul_le_mul (by omega) (Nat.le_refl 17)
      rw [List.length_map, blank_len] at z
      rw [List.length_map, blank_len]
      omega
/-! ### both readings say the same -/
theorem eP_up {l : List Nat} {e : GE} (h : eP 4 l = some e) : eP 10 l = some e := by
  unfold eP at h ⊢
  split
  · rename_i c; rw [if_pos c] at h; exact h
  · rename_i c
    rw [if_neg c] at h
    split at h
    · rename_i a b d
      by_cases k : (48 ≤ a ∧ a < 48 + 4) ∧ (b = 76 ∨ b = 82) ∧ (65 ≤ d ∧ d < 69)
      · rw [if_pos k] at h
        rw [if_pos ⟨⟨k.1.1, by omega⟩, k.2⟩]; exact h
      · rw [if_neg k] at h; cases h
    · cases h
theorem eP_down {R S : Nat} {l : List Nat} {e : GE} (h : eP 10 l = some e) (he : isE R S e.l = true) (hS : S ≤ 4) : eP 4 l = some e := by
  unfold eP at h ⊢
  split
  · rename_i c; rw [if_pos c] at h; exact h
  · rename_i c
    rw [if_neg c] at h
    split at h
    · rename_i a b d
      by_cases k : (48 ≤ a ∧ a < 48 + 10) ∧ (b = 76 ∨ b = 82) ∧ (65 ≤ d ∧ d < 69)
      · rw [if_pos k] at h
        cases h
        rcases isE_cases he with e | ⟨p, w, r, e, p0, p1, _⟩
        · cases e
        · have e1 : (a : Int) - 48 = p := (List.cons.inj e).1
          rw [if_pos ⟨⟨k.1.1, by omega⟩, k.2⟩]
      · rw [if_neg k] at h; cases h
    · cases h
theorem map_imp {α β : Type} {f g : α → Option β} : ∀ {l : List α} {es : List β}, l.map f = es.map some → (∀ x e, x ∈ l → e ∈ es → f x = some e → g x = some e) → l.map g = es.map some
  | [], [], _, _ => rfl
  | [], e :: es, h, _ => by cases h
  | x :: l, [], h, _ => by cases h
  | x :: l, e :: es, h, k => by
    have h1 : f x = some e := (List.cons.inj h).1
    have h2 : l.map f = es.map some := (List.cons.inj h).2
    show g x :: l.map g = some e :: es.map some
    rw [k x e List.mem_cons_self List.mem_cons_self h1, map_imp h2 fun y z my mz => k y z (List.mem_cons_of_mem _ my) (List.mem_cons_of_mem _ mz)]
theorem machP_up {x : Str} {M : GM} (h : machP 4 x = some M) : machP 10 x = some M :=
  allS_some (map_imp (allS_eq h) fun row r _ _ hr => allS_some (map_imp (allS_eq hr) fun y e _ _ he => eP_up he))
theorem machP_down {x : Str} {M : GM} (h : machP 10 x = some M) (hM : isM M = true) : machP 4 x = some M := by
  obtain ⟨R, S, k⟩ := isM_of hM
  exact allS_some (map_imp (allS_eq h) fun row r _ mr hr => allS_some (map_imp (allS_eq hr) fun y e _ me he => eP_down he (k.ent r mr e me) k.s4))
theorem machL_some {x : Str} {M : GM} (h : machL x = some M) : machP 10 x = some M ∧ isM M = true := by
  unfold machL at h
  cases e : machP 4 x with
  | none => rw [e] at h; cases h
  | some N =>
    rw [e] at h
    have h : (if isM N = true then some N else none) = some M := h
    by_cases c : isM N = true
    · rw [if_pos c] at h
      cases h
      exact ⟨machP_up e, c⟩
    · rw [if_neg c] at h; cases h
theorem machL_none {x : Str} (h : machL x = none) : ∀ M, machP 10 x = some M → isM M = false := fun M e => by
  cases c : isM M with
  | false => rfl
  | true =>
    have z : machL x = some M := by
      unfold machL
      rw [machP_down e c]
      show (if isM M = true then some M else none) = some M
      rw [if_pos c]
    rw [h] at z; cases z
/-! ### list.count(True) of a list of truths (wants HandS.SetFor) -/
def eqb (b : Bool) (v : Value) : Bool := match v with
  | .bool c => c == b
  | _ => false
theorem bools_eq {A : Around} {s : Shared} {b : Bool} : ∀ {us : List Value} {bs : List Bool}, Vals (bs.map V.bl) us → ∀ y ∈ us, SeqAt.EqAt A s y (.bool b) (eqb b y)
  | us, [], h => fun y hy => by cases h; cases hy
  | us, c :: bs, h => fun y hy => by
    cases h with
    | cons r h =>
      rcases List.mem_cons.mp hy with e | e
      · subst e
        obtain rfl : y = .bool c := r
        exact SeqAt.EqAt.bool_bool c b
      · exact bools_eq h y e
theorem bools_count {b : Bool} : ∀ {us : List Value} {bs : List Bool}, Vals (bs.map V.bl) us → us.countP (eqb b) = bs.count b
  | us, [], h => by cases h; rfl
  | us, c :: bs, h => by
    cases h with
    | cons r h =>
      rename_i u us
      obtain rfl : u = .bool c := r
      rw [List.countP_cons, List.count_cons, bools_count h]; rfl
def rCntB (K : PySem.W.Frag) : V → List V → Hp → VK → Prop := fun x xs H Q => ∃ (p : Addr) (bs : List Bool) (b : Bool), x = .ref p ∧ xs = [.bl b] ∧ SqL K H p (bs.map V.bl) ∧ Q (.int (bs.count b : Nat)) H
theorem mt_lcountB {X : Cx} : MtR X "list.count" (rCntB X.K) := by
  intro pins s σ H x xs v us Q I rx rxs h
  obtain ⟨p, bs, b, rfl, rfl, hs, q⟩ := h
  cases rx
  obtain ⟨u, rfl, ru⟩ := rxs.one
  obtain rfl : u = .bool b := ru
  obtain ⟨its, rv, ⟨⟨cls, dd, data, sl⟩, n, ho, hc, hdn, hd⟩, hlen⟩ := I.list hs
  simp only at hc hd
  subst hc hd
  refine call_meets PySem.F.slot_list_count ⟨_, ho, rfl⟩ PySem.F.entry_list_count (PySem.F.args_list_count_2 _ _)
    (SeqAt.list_countAt p its.toArray n dd sl (.bool b) (eqb b)) ⟨ho, fun y hy => bools_eq rv y (by simpa using hy), ?_⟩
  have ec : its.toArray.toList.countP (eqb b) = bs.count b := bools_count rv
  refine ⟨.int (bs.count b : Nat), H, I.tok _, ⟨s.toks, ?_⟩, q⟩
  show Value.int ((its.toArray.toList.countP (eqb b) : Nat) : Int) s.toks = Value.int ((bs.count b : Nat) : Int) s.toks
  rw [ec]
def sp_L_word (C : Addr) : Sp := fun vs H Q _ => ∃ (F : Hp) (a : Addr), vs = [.ref a] ∧ Same F H ∧ H a = some (Kp a (.ref C) none) ∧ ∀ H', Gr mu0 F H F H' → Q (.str "text") H'
theorem ok_L_word (t : Tx K mg) : FnOk P w K mg base CX0 1 t.a_L_word t.fd_L_word ["_law_caught"] (sp_L_word t.C_NoText) := by
  refine t.F_L_word.ok sc_L_word (fun vs H Q E h => ?_) (fun cdv A outer s H vs Q E hr h => ?_)
  · obtain ⟨F, a, rfl, _⟩ := h
    rfl
  · obtain ⟨F, a, rfl, sF, ha, q⟩ := h
    refine ⟨_, (pss_cons (ps_set (i := 1) sc_L_word.nd rfl (by first | exact Or.inl rfl | exact Or.inr rfl) (pe_lst (pa_cons (pe_callB (id := "isinstance") call_isK (by rfl) t.n_isinstance (by decide +kernel) (pa_cons (pv 0) (pa_cons (pe_glob (v := .ref t.C_NoMachine) (by rfl) t.m_NoMachine rfl) pa_nil))) (pa_cons (pe_callB (id := "isinstance") call_isK (by rfl) t.n_isinstance (by decide +kernel) (pa_cons (pv 0) (pa_cons (pe_glob (v := .ref t.C_NoText) (by rfl) t.m_NoText rfl) pa_nil))) (pa_cons (pe_callB (id := "isinstance") call_isK (by rfl) t.n_isinstance (by decide +kernel) (pa_cons (pv 0) (pa_cons (pe_glob (v := .ref t.C_NoName) (by rfl) t.m_NoName rfl) pa_nil))) pa_nil)))))
      (pss_cons (ps_set (i := 1) sc_L_word.nd rfl (by first | exact Or.inl rfl | exact Or.inr rfl) (pe_op op_cat (pv 1) (pe_lst (pa_cons (pe_callB (id := "isinstance") call_isK (by rfl) t.n_isinstance (by decide +kernel) (pa_cons (pv 0) (pa_cons (pe_glob (v := .ref t.C_Twice) (by rfl) t.m_Twice rfl) pa_nil))) (pa_cons (pe_callB (id := "isinstance") call_isK (by rfl) t.n_isinstance (by decide +kernel) (pa_cons (pv 0) (pa_cons (pe_glob (v := .ref t.C_Full) (by rfl) t.m_Full rfl) pa_nil))) (pa_cons (pe_callB (id := "isinstance") call_isK (by rfl) t.n_isinstance (by decide +kernel) (pa_cons (pv 0) (pa_cons (pe_glob (v := .ref t.C_NoSuch) (by rfl) t.m_NoSuch rfl) pa_nil))) pa_nil))))))
      (pss_cons (ps_set (i := 1) sc_L_word.nd rfl (by first | exact Or.inl rfl | exact Or.inr rfl) (pe_op op_cat (pv 1) (pe_lst (pa_cons (pe_callB (id := "isinstance") call_isK (by rfl) t.n_isinstance (by decide +kernel) (pa_cons (pv 0) (pa_cons (pe_glob (v := .ref t.C_NoPaper) (by rfl) t.m_NoPaper rfl) pa_nil))) (pa_cons (pe_callB (id := "isinstance") call_isK (by rfl) t.n_isinstance (by decide +kernel) (pa_cons (pv 0) (pa_cons (pe_glob (v := .ref t.C_NoDeed) (by rfl) t.m_NoDeed rfl) pa_nil))) (pa_cons (pe_callB (id := "isinstance") call_isK (by rfl) t.n_isinstance (by decide +kernel) (pa_cons (pv 0) (pa_cons (pe_glob (v := .ref t.C_NoSize) (by rfl) t.m_NoSize rfl) pa_nil))) pa_nil))))))
      (pss_cons (ps_if (PW.pt (pw_or (pt_not (pt_val (pe_callB (id := "isinstance") call_isK (by rfl) t.n_isinstance (by decide +kernel) (pa_cons (pv 0) (pa_cons (pe_glob (v := .ref t.C_MillError) (by rfl) t.m_MillError rfl) pa_nil))))) (pw_or (pt_not (pt_val (pe_callB (id := "isinstance") call_isK (by rfl) t.n_isinstance (by decide +kernel) (pa_cons (pv 0) (pa_cons (pe_bltn (v := .ty "ValueError") (by rfl) t.n_ValueError (by decide +kernel) rfl) pa_nil))))) (pw_or1 (pt_cmpR op_ne (pe_bm PySem.F.plainAttrs_list PySem.F.slot_list_count PySem.F.type_list_count mt_lcountB (pv 1) (pa_cons pe_bl pa_nil)) pe_int (nomark _)))))) (pss_one (ps_ret pe_str)) pss_nil)
      (pss_one (ps_ret (pe_ix ix_list (pe_lst (pa_cons pe_str (pa_cons pe_str (pa_cons pe_str (pa_cons pe_str (pa_cons pe_str (pa_cons pe_str (pa_cons pe_str (pa_cons pe_str (pa_cons pe_str pa_nil)))))))))) (pe_bm PySem.F.plainAttrs_list PySem.F.slot_list_index PySem.F.type_list_index mt_index (pv 1) (pa_cons pe_bl pa_nil)) (fun _ _ => rfl)))))))), ?_⟩
    have g0 : Gr mu0 F H F H := Gr.refl sF
    refine ⟨_, rfl, rIsK.mk (cv := .ref t.C_NoMachine) ha (ec_NoText t) (fun u r => r) (kit_own t.i_NoMachine t.t_NoMachine t.s_NoText_NoMachine t.se_NoMachine) ?_⟩
    refine ⟨_, rfl, rIsK.mk (cv := .ref t.C_NoText) ha (ec_NoText t) (fun u r => r) (kit_own t.i_NoText t.t_NoText t.s_NoText_NoText t.se_NoText) ?_⟩
    refine ⟨_, rfl, rIsK.mk (cv := .ref t.C_NoName) ha (ec_NoText t) (fun u r => r) (kit_own t.i_NoName t.t_NoName t.s_NoText_NoName t.se_NoName) ⟨three_le, fun l1 n1 => ?_⟩⟩
    have g1 := g0.own (o := .lst [.bl false, .bl true, .bl false]) n1
    have ha1 := ln (u := .lst [.bl false, .bl true, .bl false]) n1 ha
    have h1 : (upd H l1 (.lst [.bl false, .bl true, .bl false])) l1 = some (.lst [.bl false, .bl true, .bl false]) := upd_same
    generalize upd H l1 (.lst [.bl false, .bl true, .bl false]) = H1 at g1 ha1 h1 ⊢
    refine ⟨_, rfl, ?_⟩
    refine ⟨_, rfl, rIsK.mk (cv := .ref t.C_Twice) ha1 (ec_NoText t) (fun u r => r) (kit_own t.i_Twice t.t_Twice t.s_NoText_Twice t.se_Twice) ?_⟩
    refine ⟨_, rfl, rIsK.mk (cv := .ref t.C_Full) ha1 (ec_NoText t) (fun u r => r) (kit_own t.i_Full t.t_Full t.s_NoText_Full t.se_Full) ?_⟩
    refine ⟨_, rfl, rIsK.mk (cv := .ref t.C_NoSuch) ha1 (ec_NoText t) (fun u r => r) (kit_own t.i_NoSuch t.t_NoSuch t.s_NoText_NoSuch t.se_NoSuch) ⟨three_le, fun l2 n2 => ?_⟩⟩
    refine ⟨l1, l2, _, _, rfl, rfl, ln n2 h1, upd_same, le_size (by show 3 + 3 ≤ 1000000; decide), fun l3 n3 => ?_⟩
    have g3 := (g1.own (o := .lst [.bl false, .bl false, .bl false]) n2).own (o := .lst ([.bl false, .bl true, .bl false] ++ [.bl false, .bl false, .bl false])) n3
    have ha3 := ln (u := .lst ([.bl false, .bl true, .bl false] ++ [.bl false, .bl false, .bl false])) n3 (ln (u := .lst [.bl false, .bl false, .bl false]) n2 ha1)
    have h3 : (upd (upd H1 l2 (.lst [.bl false, .bl false, .bl false])) l3 (.lst ([.bl false, .bl true, .bl false] ++ [.bl false, .bl false, .bl false]))) l3 = some (.lst [.bl false, .bl true, .bl false, .bl false, .bl false, .bl false]) := upd_same
    generalize upd (upd H1 l2 (.lst [.bl false, .bl false, .bl false])) l3 (.lst ([.bl false, .bl true, .bl false] ++ [.bl false, .bl false, .bl false])) = H3 at g3 ha3 h3 ⊢
    refine ⟨_, rfl, ?_⟩
    refine ⟨_, rfl, rIsK.mk (cv := .ref t.C_NoPaper) ha3 (ec_NoText t) (fun u r => r) (kit_own t.i_NoPaper t.t_NoPaper t.s_NoText_NoPaper t.se_NoPaper) ?_⟩
    refine ⟨_, rfl, rIsK.mk (cv := .ref t.C_NoDeed) ha3 (ec_NoText t) (fun u r => r) (kit_own t.i_NoDeed t.t_NoDeed t.s_NoText_NoDeed t.se_NoDeed) ?_⟩
    refine ⟨_, rfl, rIsK.mk (cv := .ref t.C_NoSize) ha3 (ec_NoText t) (fun u r => r) (kit_own t.i_NoSize t.t_NoSize t.s_NoText_NoSize t.se_NoSize) ⟨three_le, fun l4 n4 => ?_⟩⟩
    refine ⟨l3, l4, _, _, rfl, rfl, ln n4 h3, upd_same, le_size (by show 6 + 3 ≤ 1000000; decide), fun l5 n5 => ?_⟩
    have g5 := (g3.own (o := .lst [.bl false, .bl false, .bl false]) n4).own (o := .lst ([.bl false, .bl true, .bl false, .bl false, .bl false, .bl false] ++ [.bl false, .bl false, .bl false])) n5
    have ha5 := ln (u := .lst ([.bl false, .bl true, .bl false, .bl false, .bl false, .bl false] ++ [.bl false, .bl false, .bl false])) n5 (ln (u := .lst [.bl false, .bl false, .bl false]) n4 ha3)
    have h5 : (upd (upd H3 l4 (.lst [.bl false, .bl false, .bl false])) l5 (.lst ([.bl false, .bl true, .bl false, .bl false, .bl false, .bl false] ++ [.bl false, .bl false, .bl false]))) l5 = some (.lst ([false, true, false, false, false, false, false, false, false].map V.bl)) := upd_same
    generalize upd (upd H3 l4 (.lst [.bl false, .bl false, .bl false])) l5 (.lst ([.bl false, .bl true, .bl false, .bl false, .bl false, .bl false] ++ [.bl false, .bl false, .bl false])) = H5 at g5 ha5 h5 ⊢
    refine ⟨_, rfl, rIsK.mk (cv := .ref t.C_MillError) ha5 (ec_NoText t) (fun u r => r) (kit_own t.i_MillError t.t_MillError t.s_NoText_MillError t.se_MillError) ⟨_, rfl, ifF rfl ?_⟩⟩
    refine ⟨_, rfl, rIsK.mk (cv := .type "ValueError") ha5 (ec_NoText t) (fun u r => r) (kit_blt t.s_NoText_ValueError) ⟨_, rfl, ifF rfl ?_⟩⟩
    refine ⟨_, rfl, .inl ⟨rfl, _, SqL.of h5⟩, l5, _, true, rfl, rfl, SqL.of h5, rfl, _, rfl, ifF rfl ?_⟩
    refine ⟨le_size (by show 9 ≤ 1000000; decide), fun l6 n6 => ?_⟩
    have g6 := g5.own (o := .lst [.str "machine", .str "text", .str "name", .str "twice", .str "full", .str "such", .str "paper", .str "deed", .str "size"]) n6
    have h6 := ln (u := .lst [.str "machine", .str "text", .str "name", .str "twice", .str "full", .str "such", .str "paper", .str "deed", .str "size"]) n6 h5
    refine ⟨_, rfl, .inl ⟨rfl, _, SqL.of h6⟩, l5, _, _, 1, .bl true, rfl, rfl, SqL.of h6, rfl, rfl, rfl, rfl, fun m z' hm hz => ?_, ?_⟩
    · have e0 : m = 0 := by omega
      subst e0
      cases hz
      rfl
    · exact ⟨l6, _, _, _, rfl, rfl, SqL.of upd_same, rfl, q _ g6⟩
/-! ### a machine read, or the refusal kept -/
def sp_L_read (C : Addr) : Sp := fun vs H Q _ => ∃ (F : Hp) (x : Str), vs = [.str x] ∧ Same F H ∧ x.length ≤ 20000 ∧
  (∀ M, machL x = some M → ∀ (F' H' : Hp) (m u : Addr) (rs : List Addr) (ess : List (List V)), Gr mu0 F H F' H' → MaG H F' H' m rs ess M → u ≠ m → u ∉ rs → H' u = some (.lst [.ref m, .non]) → Q (.ref u) H') ∧
  (machL x = none → ∀ (H' : Hp) (a u : Addr), Gr mu0 F H F H' → H' a = some (Kp a (.ref C) none) → H' u = some (.lst [.non, .ref a]) → Q (.ref u) H')
theorem ok_L_read (t : Tx K mg) : FnOk P w K mg base CX0 4 t.a_L_read t.fd_L_read ["_law_text_here"] (sp_L_read t.C_NoText) := by
  refine t.F_L_read.ok sc_L_read (fun vs H Q E h => ?_) (fun cdv A outer s H vs Q E hr h => ?_)
  · obtain ⟨F, x, rfl, _⟩ := h
    rfl
  · obtain ⟨F, x, rfl, sF, hx, q1, q2⟩ := h
    refine ⟨_, (pss_cons (ps_set (i := 1) sc_L_read.nd rfl (by first | exact Or.inl rfl | exact Or.inr rfl) pe_non)
      (pss_cons (ps_set (i := 2) sc_L_read.nd rfl (by first | exact Or.inl rfl | exact Or.inr rfl) pe_non)
      (pss_cons (ps_try_kp (i := 3) rfl rfl sc_L_read.nd rfl rfl ⟨by rfl, by decide, .inl t.m_MillError⟩ (fun W pn xe tk _ => (pss_one (ps_set (i := 1) sc_L_read.nd rfl (by first | exact Or.inl rfl | exact Or.inr rfl) (pe_callS (okx_read_machine t) (hr.mono (by decide)) (by rfl) t.m_read_machine t.F_read_machine.kp t.b_read_machine (fun σ => passAt tk σ) (pa_cons (pv 0) pa_nil))))) (fun a oe cls d pn hz hf => (pss_one (ps_set (i := 2) sc_L_read.nd rfl (by first | exact Or.inl rfl | exact Or.inr rfl) (pv 3)))))
      (pss_one (ps_ret (pe_lst (pa_cons (pv 1) (pa_cons (pv 2) pa_nil)))))))), ?_⟩
    have g0 : Gr mu0 F H F H := Gr.refl sF
    refine ⟨_, rfl, F, x, rfl, sF, by omega, fun M em eM F1 H1 m rs ess g ma => ?_, fun hno H1 g => ⟨em_NoText_MillError t, fun a na => ?_⟩⟩
    · refine ⟨_, rfl, _, rfl, two_le, fun u nu => ?_⟩
      have hm : machL x = some M := by
        unfold machL
        rw [machP_down em eM]
        show (if isM M = true then some M else none) = some M
        rw [if_pos eM]
      have k := ma.offn nu
      exact q1 M hm F1 _ m u rs ess (g.own nu) (ma.gr ((Gr.refl g.fh : Gr mu0 F1 H1 F1 H1).own nu) fun c z => z.elim) k.1 k.2 upd_same
    · have g6 := g.own (o := Kp a (.ref t.C_NoText) none) na
      have ha : (upd H1 a (Kp a (.ref t.C_NoText) none)) a = some (Kp a (.ref t.C_NoText) none) := upd_same
      refine ⟨_, rfl, _, rfl, _, rfl, two_le, fun u nu => ?_⟩
      have hm : machL x = none := by
        cases e : machL x with
        | none => rfl
        | some M =>
          obtain ⟨e1, e2⟩ := machL_some e
          rw [hno M e1] at e2; cases e2
      exact q2 hm _ a u (g6.own nu) (ln nu ha) upd_same
/-! ### alike: numbers, and lists and tuples of these (a def that calls itself) -/
def Sm (F : Hp) : Nat → V → V → Prop
  | 0, v, u => ∃ i, v = .int i ∧ u = .int i
  | n + 1, v, u => (∃ i, v = .int i ∧ u = .int i) ∨ ∃ a b xs ys, v = .ref a ∧ u = .ref b ∧ ((F a = some (.lst xs) ∧ F b = some (.lst ys)) ∨ (F a = some (.tup xs) ∧ F b = some (.tup ys))) ∧ xs.length = ys.length ∧ xs.length ≤ 1000 ∧ ∀ (k : Nat) (x y : V), xs[k]? = some x → ys[k]? = some y → Sm F n x y
theorem Sm.up {F F' : Hp} (s : Same F F') : ∀ {n : Nat} {v u : V}, Sm F n v u → Sm F' n v u
  | 0, _, _, h => h
  | n + 1, _, _, .inl h => .inl h
  | n + 1, _, _, .inr ⟨a, b, xs, ys, e1, e2, h, l, l2, k⟩ => .inr ⟨a, b, xs, ys, e1, e2, h.imp (fun z => ⟨s _ _ z.1, s _ _ z.2⟩) (fun z => ⟨s _ _ z.1, s _ _ z.2⟩), l, l2, fun i x y p q => Sm.up s (k i x y p q)⟩
def sp_same (n : Nat) : Sp := fun vs H Q _ => ∃ (F : Hp) (v u : V), vs = [v, u] ∧ Same F H ∧ Sm F n v u ∧ ∀ H', Gr mu0 F H F H' → Q (.bl true) H'
theorem okR_same (t : Tx K mg) : ∀ n, FnOk P w K mg base CX0 (n + 1) t.a_L_same t.fd_L_same ["_law_found", "_law_due"] (sp_same n) := by
  intro n
  induction n with
  | zero =>
    refine t.F_L_same.ok sc_L_same (fun vs H Q E h => ?_) (fun cdv A outer s H vs Q E hr h => ?_)
    · obtain ⟨F, v, u, rfl, _⟩ := h
      rfl
    · obtain ⟨F, v, u, rfl, sF, hv, q⟩ := h
      refine ⟨_, (pss_cons (ps_if (PW.pt (pw_or (pt_val (pe_callB (id := "isinstance") call_isi (by rfl) t.n_isinstance (by decide +kernel) (pa_cons (pv 1) (pa_cons (pe_bltn (v := .ty "tuple") (by rfl) t.n_tuple (by decide +kernel) rfl) pa_nil)))) (pw_or1 (pt_val (pe_callB (id := "isinstance") call_isi (by rfl) t.n_isinstance (by decide +kernel) (pa_cons (pv 1) (pa_cons (pe_bltn (v := .ty "list") (by rfl) t.n_list (by decide +kernel) rfl) pa_nil))))))) (pss_cons (ps_if (PW.pt (pw_or (pt_cmpR op_ne (pe_callB (id := "isinstance") call_isi (by rfl) t.n_isinstance (by decide +kernel) (pa_cons (pv 0) (pa_cons (pe_bltn (v := .ty "tuple") (by rfl) t.n_tuple (by decide +kernel) rfl) pa_nil))) (pe_callB (id := "isinstance") call_isi (by rfl) t.n_isinstance (by decide +kernel) (pa_cons (pv 1) (pa_cons (pe_bltn (v := .ty "tuple") (by rfl) t.n_tuple (by decide +kernel) rfl) pa_nil))) (nomark _)) (pw_or1 (pt_cmpR op_ne (pe_callB (id := "isinstance") call_isi (by rfl) t.n_isinstance (by decide +kernel) (pa_cons (pv 0) (pa_cons (pe_bltn (v := .ty "list") (by rfl) t.n_list (by decide +kernel) rfl) pa_nil))) (pe_callB (id := "isinstance") call_isi (by rfl) t.n_isinstance (by decide +kernel) (pa_cons (pv 1) (pa_cons (pe_bltn (v := .ty "list") (by rfl) t.n_list (by decide +kernel) rfl) pa_nil))) (nomark _))))) (pss_one (ps_ret pe_bl)) pss_nil)
      (pss_cons (ps_if (pt_cmpR op_ne (pe_callB (id := "len") call_lenQ (by rfl) t.n_len (by decide +kernel) (pa_cons (pv 0) pa_nil)) (pe_callB (id := "len") call_lenQ (by rfl) t.n_len (by decide +kernel) (pa_cons (pv 1) pa_nil)) (nomark _)) (pss_one (ps_ret pe_bl)) pss_nil)
      (pss_one ps_never))) pss_nil)
      (pss_cons (ps_if (PW.pt (pw_or (pt_val (pe_callB (id := "isinstance") call_isi (by rfl) t.n_isinstance (by decide +kernel) (pa_cons (pv 1) (pa_cons (pe_bltn (v := .ty "str") (by rfl) t.n_str (by decide +kernel) rfl) pa_nil)))) (pw_or1 (pt_cmpR op_isN (pv 1) pe_non (nomark _))))) (pss_one (ps_ret (pe_and (pe_cmpR (op_eqD hr.units) (pv 0) (pv 1) (nomark _)) (pe_one (pe_cmpR op_eq (pe_callB (id := "isinstance") call_isi (by rfl) t.n_isinstance (by decide +kernel) (pa_cons (pv 0) (pa_cons (pe_bltn (v := .ty "str") (by rfl) t.n_str (by decide +kernel) rfl) pa_nil))) (pe_callB (id := "isinstance") call_isi (by rfl) t.n_isinstance (by decide +kernel) (pa_cons (pv 1) (pa_cons (pe_bltn (v := .ty "str") (by rfl) t.n_str (by decide +kernel) rfl) pa_nil))) (nomark _)))))) pss_nil)
      (pss_one (ps_ret (pe_and (pe_callB (id := "isinstance") call_isi (by rfl) t.n_isinstance (by decide +kernel) (pa_cons (pv 0) (pa_cons (pe_bltn (v := .ty "int") (by rfl) t.n_int (by decide +kernel) rfl) pa_nil))) (pe_and (pe_not (pe_callB (id := "isinstance") call_isi (by rfl) t.n_isinstance (by decide +kernel) (pa_cons (pv 0) (pa_cons (pe_bltn (v := .ty "bool") (by rfl) t.n_bool (by decide +kernel) rfl) pa_nil)))) (pe_one (pe_cmpR (op_eqD hr.units) (pv 0) (pv 1) (nomark _))))))))), ?_⟩
      have g0 : Gr mu0 F H F H := Gr.refl sF
      obtain ⟨i, rfl, rfl⟩ := hv
      refine ⟨_, rfl, _, _, _, _, false, rfl, .ty "tuple", .base (.int _), kit_ty (by decide +kernel), _, rfl, ifF rfl ⟨_, rfl, _, _, _, _, false, rfl, .ty "list", .base (.int _), kit_ty (by decide +kernel), _, rfl, ifF rfl ?_⟩⟩
      refine ⟨_, rfl, _, _, _, _, false, rfl, .ty "str", .base (.int _), kit_ty (by decide +kernel), _, rfl, ifF rfl ⟨_, rfl, rfl, _, rfl, ifF rfl ?_⟩⟩
      refine ⟨_, rfl, _, _, _, _, true, rfl, .ty "int", .base (.int _), kt_int_int, _, rfl, ifT rfl ⟨_, rfl, _, _, _, _, false, rfl, .ty "bool", .base (.int _), kt_int_bool, _, rfl, _, rfl, ifT rfl ⟨_, rfl, _, rfl, ?_⟩⟩⟩
      refine eq_dat (a := i) (b := i) rfl rfl ?_
      rw [decide_eq_true rfl]
      exact q _ g0
  | succ n ih =>
    refine t.F_L_same.ok sc_L_same (fun vs H Q E h => ?_) (fun cdv A outer s H vs Q E hr h => ?_)
    · obtain ⟨F, v, u, rfl, _⟩ := h
      rfl
    · obtain ⟨F, v, u, rfl, sF, hv, q⟩ := h
      refine ⟨_, (pss_cons (ps_if (PW.pt (pw_or (pt_val (pe_callB (id := "isinstance") call_isi (by rfl) t.n_isinstance (by decide +kernel) (pa_cons (pv 1) (pa_cons (pe_bltn (v := .ty "tuple") (by rfl) t.n_tuple (by decide +kernel) rfl) pa_nil)))) (pw_or1 (pt_val (pe_callB (id := "isinstance") call_isi (by rfl) t.n_isinstance (by decide +kernel) (pa_cons (pv 1) (pa_cons (pe_bltn (v := .ty "list") (by rfl) t.n_list (by decide +kernel) rfl) pa_nil))))))) (pss_cons (ps_if (PW.pt (pw_or (pt_cmpR op_ne (pe_callB (id := "isinstance") call_isi (by rfl) t.n_isinstance (by decide +kernel) (pa_cons (pv 0) (pa_cons (pe_bltn (v := .ty "tuple") (by rfl) t.n_tuple (by decide +kernel) rfl) pa_nil))) (pe_callB (id := "isinstance") call_isi (by rfl) t.n_isinstance (by decide +kernel) (pa_cons (pv 1) (pa_cons (pe_bltn (v := .ty "tuple") (by rfl) t.n_tuple (by decide +kernel) rfl) pa_nil))) (nomark _)) (pw_or1 (pt_cmpR op_ne (pe_callB (id := "isinstance") call_isi (by rfl) t.n_isinstance (by decide +kernel) (pa_cons (pv 0) (pa_cons (pe_bltn (v := .ty "list") (by rfl) t.n_list (by decide +kernel) rfl) pa_nil))) (pe_callB (id := "isinstance") call_isi (by rfl) t.n_isinstance (by decide +kernel) (pa_cons (pv 1) (pa_cons (pe_bltn (v := .ty "list") (by rfl) t.n_list (by decide +kernel) rfl) pa_nil))) (nomark _))))) (pss_one (ps_ret pe_bl)) pss_nil)
      (pss_cons (ps_if (pt_cmpR op_ne (pe_callB (id := "len") call_lenQ (by rfl) t.n_len (by decide +kernel) (pa_cons (pv 0) pa_nil)) (pe_callB (id := "len") call_lenQ (by rfl) t.n_len (by decide +kernel) (pa_cons (pv 1) pa_nil)) (nomark _)) (pss_one (ps_ret pe_bl)) pss_nil)
      (pss_one (ps_ret (pe_cmpR op_eq (pe_callB (id := "len") call_lenQ (by rfl) t.n_len (by decide +kernel) (pa_cons (pe_lc (own := [("_law_k", 2)]) (g := gName 2) rfl sc_L_same.nd (pi_range1 (by rfl) t.n_range (pa_cons (pe_callB (id := "len") call_lenQ (by rfl) t.n_len (by decide +kernel) (pa_cons (pv 1) pa_nil)) pa_nil)) (blkOk_by (N := N_L_same) (sc := defScope s_L_same) (by decide +kernel)) (fun _ _ _ _ _ => (pg_name (i := 2) sc_L_same.nd rfl (by first | exact Or.inl rfl | exact Or.inr rfl))) (fun _ _ _ _ _ => (pts_one (pt_not (pt_val (pe_call ih (hr.mono (Nat.le_refl _)) (by rfl) t.m_L_same t.F_L_same.kp t.b_L_same .nil pass0 (pa_cons (pe_ix (ixK (K := K) (r := rIx) rfl ix_seq) (pv 0) (pv 2) (fun _ _ => rfl)) (pa_cons (pe_ix (ixK (K := K) (r := rIx) rfl ix_seq) (pv 1) (pv 2) (fun _ _ => rfl)) pa_nil))))))) (fun _ _ _ _ _ => (pv 2))) pa_nil)) pe_int (nomark _)))))) pss_nil)
      (pss_cons (ps_if (PW.pt (pw_or (pt_val (pe_callB (id := "isinstance") call_isi (by rfl) t.n_isinstance (by decide +kernel) (pa_cons (pv 1) (pa_cons (pe_bltn (v := .ty "str") (by rfl) t.n_str (by decide +kernel) rfl) pa_nil)))) (pw_or1 (pt_cmpR op_isN (pv 1) pe_non (nomark _))))) (pss_one (ps_ret (pe_and (pe_cmpR (op_eqD hr.units) (pv 0) (pv 1) (nomark _)) (pe_one (pe_cmpR op_eq (pe_callB (id := "isinstance") call_isi (by rfl) t.n_isinstance (by decide +kernel) (pa_cons (pv 0) (pa_cons (pe_bltn (v := .ty "str") (by rfl) t.n_str (by decide +kernel) rfl) pa_nil))) (pe_callB (id := "isinstance") call_isi (by rfl) t.n_isinstance (by decide +kernel) (pa_cons (pv 1) (pa_cons (pe_bltn (v := .ty "str") (by rfl) t.n_str (by decide +kernel) rfl) pa_nil))) (nomark _)))))) pss_nil)
      (pss_one (ps_ret (pe_and (pe_callB (id := "isinstance") call_isi (by rfl) t.n_isinstance (by decide +kernel) (pa_cons (pv 0) (pa_cons (pe_bltn (v := .ty "int") (by rfl) t.n_int (by decide +kernel) rfl) pa_nil))) (pe_and (pe_not (pe_callB (id := "isinstance") call_isi (by rfl) t.n_isinstance (by decide +kernel) (pa_cons (pv 0) (pa_cons (pe_bltn (v := .ty "bool") (by rfl) t.n_bool (by decide +kernel) rfl) pa_nil)))) (pe_one (pe_cmpR (op_eqD hr.units) (pv 0) (pv 1) (nomark _))))))))), ?_⟩
      have g0 : Gr mu0 F H F H := Gr.refl sF
      rcases hv with ⟨i, rfl, rfl⟩ | ⟨a, b, xs, ys, rfl, rfl, hab, hl, hl2, hk⟩
      · refine ⟨_, rfl, _, _, _, _, false, rfl, .ty "tuple", .base (.int _), kit_ty (by decide +kernel), _, rfl, ifF rfl ⟨_, rfl, _, _, _, _, false, rfl, .ty "list", .base (.int _), kit_ty (by decide +kernel), _, rfl, ifF rfl ?_⟩⟩
        refine ⟨_, rfl, _, _, _, _, false, rfl, .ty "str", .base (.int _), kit_ty (by decide +kernel), _, rfl, ifF rfl ⟨_, rfl, rfl, _, rfl, ifF rfl ?_⟩⟩
        refine ⟨_, rfl, _, _, _, _, true, rfl, .ty "int", .base (.int _), kt_int_int, _, rfl, ifT rfl ⟨_, rfl, _, _, _, _, false, rfl, .ty "bool", .base (.int _), kt_int_bool, _, rfl, _, rfl, ifT rfl ⟨_, rfl, _, rfl, ?_⟩⟩⟩
        refine eq_dat (a := i) (b := i) rfl rfl ?_
        rw [decide_eq_true rfl]
        exact q _ g0
      · rcases hab with ⟨ha, hb⟩ | ⟨ha, hb⟩
        · have h1 := sF _ _ ha
          have h2 := sF _ _ hb
          refine ⟨_, rfl, _, _, _, _, false, rfl, .ty "tuple", .base (.lst h2), kit_ty (by decide +kernel), _, rfl, ifF rfl ⟨_, rfl, _, _, _, _, true, rfl, .ty "list", .base (.lst h2), kt_list, _, rfl, ifT rfl ?_⟩⟩
          refine ⟨_, rfl, _, _, _, _, false, rfl, .ty "tuple", .base (.lst h1), kit_ty (by decide +kernel), _, rfl, _, _, _, _, false, rfl, .ty "tuple", .base (.lst h2), kit_ty (by decide +kernel), rfl, _, rfl, ifF rfl ?_⟩
          refine ⟨_, rfl, _, _, _, _, true, rfl, .ty "list", .base (.lst h1), kt_list, _, rfl, _, _, _, _, true, rfl, .ty "list", .base (.lst h2), kt_list, rfl, _, rfl, ifF rfl ?_⟩
          refine ⟨_, rfl, a, _, rfl, .inl (SqL.of h1), _, rfl, b, _, rfl, .inl (SqL.of h2), rfl, _, rfl, ifF (by rw [hl, decide_eq_true rfl]; rfl) ?_⟩
          refine ⟨_, rfl, b, _, rfl, .inl (SqL.of h2), _, rfl, by omega, by omega, fun D nD => lc_range (lo := 0) (n := ((ys.length : Int)).toNat) (fun j G => Gr mu0 F H F G ∧ G D = some (.lst [])) ⟨g0.own nD, upd_same⟩ ?_ ?_⟩
          · rintro j G hj ⟨g, hD⟩
            have j2 : j < ys.length := by omega
            have j1 : j < xs.length := by omega
            refine ⟨rfl, _, rfl, _, rfl, .inl ⟨a, _, _, _, rfl, rfl, SqL.of (g.fh _ _ ha), at_of (j := j) (by omega) (List.getElem?_eq_getElem j1), _, rfl, _, rfl, .inl ⟨b, _, _, _, rfl, rfl, SqL.of (g.fh _ _ hb), at_of (j := j) (by omega) (List.getElem?_eq_getElem j2), ?_⟩⟩⟩
            exact ⟨F, xs[j], ys[j], rfl, g.fh, hk j _ _ (List.getElem?_eq_getElem j1) (List.getElem?_eq_getElem j2), fun G' g' => ⟨_, rfl, ifF rfl ⟨g.trans g', g'.fr _ _ hD (fun z => z)⟩⟩⟩
          · rintro G ⟨g, hD⟩
            exact ⟨D, _, rfl, .inl (SqL.of hD), rfl, q _ g⟩
        · have h1 := sF _ _ ha
          have h2 := sF _ _ hb
          refine ⟨_, rfl, _, _, _, _, true, rfl, .ty "tuple", .base (.tup h2), kt_tup, _, rfl, ifT rfl ?_⟩
          refine ⟨_, rfl, _, _, _, _, true, rfl, .ty "tuple", .base (.tup h1), kt_tup, _, rfl, _, _, _, _, true, rfl, .ty "tuple", .base (.tup h2), kt_tup, rfl, _, rfl, ifF rfl ?_⟩
          refine ⟨_, rfl, _, _, _, _, false, rfl, .ty "list", .base (.tup h1), kit_ty (by decide +kernel), _, rfl, _, _, _, _, false, rfl, .ty "list", .base (.tup h2), kit_ty (by decide +kernel), rfl, _, rfl, ifF rfl ?_⟩
          refine ⟨_, rfl, a, _, rfl, .inr (SqT.of h1), _, rfl, b, _, rfl, .inr (SqT.of h2), rfl, _, rfl, ifF (by rw [hl, decide_eq_true rfl]; rfl) ?_⟩
          refine ⟨_, rfl, b, _, rfl, .inr (SqT.of h2), _, rfl, by omega, by omega, fun D nD => lc_range (lo := 0) (n := ((ys.length : Int)).toNat) (fun j G => Gr mu0 F H F G ∧ G D = some (.lst [])) ⟨g0.own nD, upd_same⟩ ?_ ?_⟩
          · rintro j G hj ⟨g, hD⟩
            have j2 : j < ys.length := by omega
            have j1 : j < xs.length := by omega
            refine ⟨rfl, _, rfl, _, rfl, .inr (.inl ⟨a, _, _, _, rfl, rfl, SqT.of (g.fh _ _ ha), at_of (j := j) (by omega) (List.getElem?_eq_getElem j1), _, rfl, _, rfl, .inr (.inl ⟨b, _, _, _, rfl, rfl, SqT.of (g.fh _ _ hb), at_of (j := j) (by omega) (List.getElem?_eq_getElem j2), ?_⟩)⟩)⟩
            exact ⟨F, xs[j], ys[j], rfl, g.fh, hk j _ _ (List.getElem?_eq_getElem j1) (List.getElem?_eq_getElem j2), fun G' g' => ⟨_, rfl, ifF rfl ⟨g.trans g', g'.fr _ _ hD (fun z => z)⟩⟩⟩
          · rintro G ⟨g, hD⟩
            exact ⟨D, _, rfl, .inl (SqL.of hD), rfl, q _ g⟩
def sp_L_same : Sp := sp_same 5
theorem ok_L_same (t : Tx K mg) : FnOk P w K mg base CX0 6 t.a_L_same t.fd_L_same ["_law_found", "_law_due"] sp_L_same := okR_same t 5
/-! ### read rightly -/
theorem sm_ints {F : Hp} {n : Nat} {xs ys : List V} {l : List Int} (h1 : IsAll F xs l) (h2 : IsAll F ys l) : ∀ (k : Nat) (x y : V), xs[k]? = some x → ys[k]? = some y → Sm F (n + 1) x y := fun k x y hx hy => by
  obtain ⟨i, hi, e1⟩ := h1.get' hx
  obtain ⟨j, hj, e2⟩ := h2.get' hy
  rw [hi] at hj
  cases hj
  exact .inl ⟨i, e1, e2⟩
theorem sm_ge {F : Hp} {x y : V} {e : GE} (h1 : Is F x e) (h2 : Is F y e) (hl : e.l.length ≤ 1000) : Sm F 3 x y := by
  obtain ⟨a, xs, rfl, ha, hx⟩ := h1
  obtain ⟨b, ys, rfl, hb, hy⟩ := h2
  have l1 : xs.length = e.l.length := hx.1
  have l2 : ys.length = e.l.length := hy.1
  exact .inr ⟨a, b, xs, ys, rfl, rfl, .inr ⟨ha, hb⟩, by omega, by omega, sm_ints (l := e.l) hx hy⟩
theorem sm_row {F : Hp} {x y : V} {r : List GE} (h1 : Is F x r) (h2 : Is F y r) (hl : r.length ≤ 1000) (he : ∀ e ∈ r, e.l.length ≤ 1000) : Sm F 4 x y := by
  obtain ⟨a, xs, rfl, ha, hx⟩ := h1
  obtain ⟨b, ys, rfl, hb, hy⟩ := h2
  have l1 : xs.length = r.length := hx.1
  have l2 : ys.length = r.length := hy.1
  refine .inr ⟨a, b, xs, ys, rfl, rfl, .inl ⟨ha, hb⟩, by omega, by omega, fun k x y hk1 hk2 => ?_⟩
  obtain ⟨i, hi, e1⟩ := hx.get' hk1
  obtain ⟨j, hj, e2⟩ := hy.get' hk2
  rw [hi] at hj
  cases hj
  exact sm_ge e1 e2 (he _ (List.mem_of_getElem? hi))
theorem sm_gm {F : Hp} {x y : V} {M : GM} (h1 : Is F x M) (h2 : Is F y M) (hM : isM M = true) : Sm F 5 x y := by
  obtain ⟨R, S, k⟩ := isM_of hM
  obtain ⟨a, xs, rfl, ha, hx⟩ := h1
  obtain ⟨b, ys, rfl, hb, hy⟩ := h2
  have l1 : xs.length = M.length := hx.1
  have l2 : ys.length = M.length := hy.1
  have r4 := k.r4
  have s4 := k.s4
  have ln := k.len
  refine .inr ⟨a, b, xs, ys, rfl, rfl, .inl ⟨ha, hb⟩, by omega, by omega, fun q x y hk1 hk2 => ?_⟩
  obtain ⟨i, hi, e1⟩ := hx.get' hk1
  obtain ⟨j, hj, e2⟩ := hy.get' hk2
  rw [hi] at hj
  cases hj
  have mi := List.mem_of_getElem? hi
  have li := k.row _ mi
  refine sm_row e1 e2 (by omega) fun e me => ?_
  rcases isE_cases (k.ent _ mi e me) with z | ⟨p, w, r, z, _⟩ <;> rw [z]
  · exact Nat.zero_le _
  · show 3 ≤ 1000; decide
theorem len_eq {F : Hp} {ess ess' : List (List V)} {M : GM} (h1 : ess'.length = ess.length) (al : All2 (fun es row => IsAll F es row) ess M) (h : ∀ (k : Nat) (es es' : List V), ess[k]? = some es → ess'[k]? = some es' → es'.length = es.length + 1) : ess'.map (fun e => (e.length : Int)) = M.map fun r => (r.length : Int) + 1 := by
  have lM := al.1
  refine List.ext_getElem? fun k => ?_
  rw [List.getElem?_map, List.getElem?_map]
  by_cases hk : k < M.length
  · have k1 : k < ess.length := by omega
    have k2 : k < ess'.length := by omega
    have z := h k _ _ (List.getElem?_eq_getElem k1) (List.getElem?_eq_getElem k2)
    have w := (al.2 k _ _ (List.getElem?_eq_getElem k1) (List.getElem?_eq_getElem hk)).1
    rw [List.getElem?_eq_getElem k2, List.getElem?_eq_getElem hk]
    show some ((ess'[k].length : Nat) : Int) = some (((M[k]).length : Nat) + 1 : Int)
    rw [z, w]
    rfl
  · rw [List.getElem?_eq_none (by omega), List.getElem?_eq_none (by omega)]; rfl
def sp_L_right : Sp := fun vs H Q _ => ∃ (F : Hp) (x : Str), vs = [.str x] ∧ Same F H ∧ x.length ≤ 20000 ∧ ∀ F' H', Gr mu0 F H F' H' → Q (.bl true) H'
theorem ok_L_right (t : Tx K mg) : FnOk P w K mg base CX0 7 t.a_L_right t.fd_L_right ["_law_text_here"] sp_L_right := by
  refine t.F_L_right.ok sc_L_right (fun vs H Q E h => ?_) (fun cdv A outer s H vs Q E hr h => ?_)
  · obtain ⟨F, x, rfl, _⟩ := h
    rfl
  · obtain ⟨F, x, rfl, sF, hx, q⟩ := h
    refine ⟨_, (pss_cons (ps_set (i := 1) sc_L_right.nd rfl (by first | exact Or.inl rfl | exact Or.inr rfl) (pe_call (ok_L_machine_of t) (hr.mono (by decide)) (by rfl) t.m_L_machine_of t.F_L_machine_of.kp t.b_L_machine_of .nil pass0 (pa_cons (pv 0) pa_nil)))
      (pss_cons (ps_asg (pe_call (ok_L_read t) (hr.mono (by decide)) (by rfl) t.m_L_read t.F_L_read.kp t.b_L_read .nil pass0 (pa_cons (pv 0) pa_nil)) (pg_unl rfl (pgs_cons (pg_name (i := 2) sc_L_right.nd rfl (by first | exact Or.inl rfl | exact Or.inr rfl)) (pgs_cons (pg_name (i := 3) sc_L_right.nd rfl (by first | exact Or.inl rfl | exact Or.inr rfl)) pgs_nil))))
      (pss_cons (ps_if (pt_cmpR op_isN (pv 1) pe_non (nomark _)) (pss_one (ps_ret (pe_and (pe_cmpR op_notN (pv 3) pe_non (nomark _)) (pe_one (pe_cmpR op_eq (pe_call (ok_L_word t) (hr.mono (by decide)) (by rfl) t.m_L_word t.F_L_word.kp t.b_L_word .nil pass0 (pa_cons (pv 3) pa_nil)) pe_str (nomark _)))))) pss_nil)
      (pss_cons (ps_if (PW.pt (pw_or (pt_cmpR op_notN (pv 3) pe_non (nomark _)) (pw_or1 (pt_not (pt_val (pe_call (ok_L_same t) (hr.mono (by decide)) (by rfl) t.m_L_same t.F_L_same.kp t.b_L_same .nil pass0 (pa_cons (pv 2) (pa_cons (pv 1) pa_nil)))))))) (pss_one (ps_ret pe_bl)) pss_nil)
      (pss_cons (ps_for PassesOwn.never rfl (pi_list (pv 2)) (pg_name (i := 4) sc_L_right.nd rfl (by first | exact Or.inl rfl | exact Or.inr rfl)) (pss_one (ps_expr (pe_bm PySem.F.plainAttrs_list PySem.F.slot_list_append PySem.F.type_list_append mt_append (pv 4) (pa_cons (pe_tup pa_nil) pa_nil)))))
      (pss_cons (ps_if (pt_cmpR (op_neD hr.units) (pe_lc (own := [("_law_row", 4)]) (g := gName 4) (tt := tYes) rfl sc_L_right.nd (pi_list (pv 2)) (blkOk_by (N := N_L_right) (sc := defScope s_L_right) (by decide +kernel)) (fun _ _ _ _ _ => (pg_name (i := 4) sc_L_right.nd rfl (by first | exact Or.inl rfl | exact Or.inr rfl))) (fun _ _ _ _ _ => pts_nil) (fun _ _ _ _ _ => (pe_callB (id := "len") (crK (K := K) (r := rLenQ) rfl call_lenQ) (by rfl) t.n_len (by decide +kernel) (pa_cons (pv 4) pa_nil)))) (pe_lc (own := [("_law_row", 4)]) (g := gName 4) (tt := tYes) rfl sc_L_right.nd (pi_list (pv 1)) (blkOk_by (N := N_L_right) (sc := defScope s_L_right) (by decide +kernel)) (fun _ _ _ _ _ => (pg_name (i := 4) sc_L_right.nd rfl (by first | exact Or.inl rfl | exact Or.inr rfl))) (fun _ _ _ _ _ => pts_nil) (fun _ _ _ _ _ => (pe_op op_add (pe_callB (id := "len") (crK (K := K) (r := rLenQ) rfl call_lenQ) (by rfl) t.n_len (by decide +kernel) (pa_cons (pv 4) pa_nil)) pe_int))) (nomark _)) (pss_one (ps_ret pe_bl)) pss_nil)
      (pss_cons (ps_expr (pe_bm0 PySem.F.plainAttrs_list PySem.F.slot_list_clear PySem.F.type_list_clear mt_clear (pv 2)))
      (pss_one (ps_ret (pe_call (ok_L_same t) (hr.mono (by decide)) (by rfl) t.m_L_same t.F_L_same.kp t.b_L_same .nil pass0 (pa_cons (pe_ix ix_list (pe_call (ok_L_read t) (hr.mono (by decide)) (by rfl) t.m_L_read t.F_L_read.kp t.b_L_read .nil pass0 (pa_cons (pv 0) pa_nil)) pe_int (fun _ _ => rfl)) (pa_cons (pv 1) pa_nil)))))))))))), ?_⟩
    refine ⟨_, rfl, F, x, rfl, sF, hx, fun F1 H1 v g1 hv => ?_⟩
    refine ⟨_, rfl, F1, x, rfl, g1.fh, hx, fun M eM F2 H2 m u rs ess g2 ma um ur hu => ?_, fun eN H2 a u g2 ha hu => ?_⟩
    case refine_2 =>
      rw [eN] at hv
      obtain rfl : v = .non := hv
      refine ⟨u, _, rfl, SqL.of hu, rfl, _, _, rfl, _, _, rfl, rfl, ?_⟩
      refine ⟨_, rfl, rfl, _, rfl, ifT rfl ?_⟩
      refine ⟨_, rfl, rfl, _, rfl, ifT rfl ?_⟩
      refine ⟨_, rfl, F1, a, rfl, g2.fh, ha, fun H3 g3 => ⟨rfl, ?_⟩⟩
      rw [decide_eq_true rfl]
      exact q _ _ (g1.trans (g2.trans g3))
    rw [eM] at hv
    obtain ⟨em, hM⟩ := machL_some eM
    have hv : Is F1 v M := hv
    obtain ⟨d, dr, rfl, hd, hdr⟩ := id hv
    obtain ⟨R, S, kM⟩ := isM_of hM
    have gg := g1.trans g2
    have hv2 : Is H2 (.ref d) M := (hv.up g2.ff).up g2.fh
    refine ⟨u, _, rfl, SqL.of hu, rfl, _, _, rfl, _, _, rfl, rfl, ?_⟩
    refine ⟨_, rfl, rfl, _, rfl, ifF rfl ?_⟩
    refine ⟨_, rfl, rfl, _, rfl, ifF rfl ⟨_, rfl, _, rfl, H2, .ref m, .ref d, rfl, Same.refl _, sm_gm (ma.isH g2.fh) hv2 hM, fun H3 g3 => ⟨_, rfl, ifF rfl ?_⟩⟩⟩
    have k3 := gr_same g2.fh (gr_up g3)
    have ma3 := ma.gr k3 fun c z => z.elim
    have g4 := g2.trans k3
    have lM : M.length ≤ 4 := by rw [kM.len]; exact kM.r4
    have lrs : rs.length = M.length := by rw [ma.len]; exact ma.dat.1
    have les : ∀ (k : Nat) (es : List V), ess[k]? = some es → es.length ≤ 4 := fun k es hk => by
      obtain ⟨row, hr, al⟩ := ma.dat.get' hk
      rw [al.1, kM.row row (List.mem_of_getElem? hr)]; exact kM.s4
    refine ⟨_, rfl, m, rfl, ⟨_, SqL.of ma3.ow.h⟩, for_list (K := K) (a := m) (xs := rs.map V.ref) (fun i σ G => ∃ (ess' : List (List V)) (v4 : Option V), σ = [some (.str x), some (.ref d), some (.ref m), some .non, v4] ∧ Gr mu0 F1 H1 F2 G ∧ G m = some (.lst (rs.map V.ref)) ∧ ess'.length = rs.length ∧ (∀ (k : Nat) (r : Addr) (es' : List V), rs[k]? = some r → ess'[k]? = some es' → G r = some (.lst es')) ∧ ∀ (k : Nat) (es es' : List V), ess[k]? = some es → ess'[k]? = some es' → es'.length = es.length + if k < i then 1 else 0)
      ⟨ess, _, rfl, g4, ma3.ow.h, ma.len.symm, fun k r es' h1 h2 => (ma3.rows k r es' h1 h2).h, fun k es es' h1 h2 => by rw [h1] at h2; cases h2; rw [if_neg (Nat.not_lt_zero _)]; rfl⟩ (fun i σ G _ p => SqL.of p.choose_spec.choose_spec.2.2.1) ?_ ?_⟩
    · rintro i y σ G hi ⟨ess', v4, rfl, g, hm, le, hr, hl⟩
      obtain ⟨r, hri, rfl⟩ : ∃ r, rs[i]? = some r ∧ V.ref r = y := by
        rw [List.getElem?_map] at hi
        exact Option.map_eq_some_iff.mp hi
      have il := (List.getElem?_eq_some_iff.mp hri).1
      have i1 : i < ess'.length := by omega
      have i2 : i < ess.length := by rw [← ma.len]; exact il
      have hG := hr i r _ hri (List.getElem?_eq_getElem i1)
      have ll := hl i _ _ (List.getElem?_eq_getElem i2) (List.getElem?_eq_getElem i1)
      have l4 := les i _ (List.getElem?_eq_getElem i2)
      rw [if_neg (Nat.lt_irrefl i)] at ll
      have wr := ma.rows i r _ hri (List.getElem?_eq_getElem i2)
      refine ⟨_, rfl, .inl ⟨rfl, _, SqL.of hG⟩, nil_le, fun u2 nu => ⟨r, _, _, rfl, rfl, ln nu hG, lt_size (by omega), ?_⟩⟩
      have mr : m ≠ r := fun z => ma.ne (by rw [z]; exact List.mem_of_getElem? hri)
      refine ⟨ess'.set i (ess'[i] ++ [.ref u2]), _, rfl, (g.own nu).set wr.f (.inl wr.n), by rw [upd_ne mr]; exact ln nu hm, by rw [List.length_set]; exact le, fun k r' es' h1 h2 => ?_, fun k es es' h1 h2 => ?_⟩
      · by_cases e : i = k
        · subst e
          rw [hri] at h1
          cases h1
          rw [List.getElem?_set_self i1] at h2
          cases h2
          exact upd_same
        · rw [List.getElem?_set_ne e] at h2
          have rr : r' ≠ r := fun z => e (nd_ix ma.nd hri (by rw [← z]; exact h1))
          rw [upd_ne rr]
          exact ln nu (hr k r' es' h1 h2)
      · by_cases e : i = k
        · subst e
          rw [List.getElem?_set_self i1] at h2
          cases h2
          rw [List.getElem?_eq_getElem i2] at h1
          cases h1
          rw [if_pos (by omega), List.length_append, ll]; rfl
        · rw [List.getElem?_set_ne e] at h2
          rw [hl k es es' h1 h2]
          by_cases c : k < i
          · rw [if_pos c, if_pos (by omega)]
          · rw [if_neg c, if_neg (by omega)]
    · rintro σ G ⟨ess', v4, rfl, g, hm, le, hr, hl⟩
      rw [List.length_map] at hl
      have eL := len_eq (F := F2) (M := M) (by rw [le, ma.len]) ma.dat fun k es es' h1 h2 => by
        have := hl k es es' h1 h2
        rw [if_pos (by rw [ma.len]; exact (List.getElem?_eq_some_iff.mp h1).1)] at this
        exact this
      refine ⟨_, rfl, m, rfl, ⟨_, SqL.of hm⟩, fun D nD => lc_list (K := K) (a := m) (xs := rs.map V.ref) (fun i G' => Gr mu0 F1 H1 F2 G' ∧ Same G G' ∧ G D = none ∧ G' D = some (.lst (((ess'.take i).map fun e => (e.length : Int)).map V.int))) ⟨g.own nD, sm_up nD, nD, upd_same⟩ (fun i G' _ p => SqL.of (p.2.1 _ _ hm)) ?_ ?_⟩
      · rintro i y G' hi ⟨g', s', nD, hD⟩
        obtain ⟨r, hri, rfl⟩ : ∃ r, rs[i]? = some r ∧ V.ref r = y := by
          rw [List.getElem?_map] at hi
          exact Option.map_eq_some_iff.mp hi
        have il := (List.getElem?_eq_some_iff.mp hri).1
        have i1 : i < ess'.length := by omega
        have hei : ess'[i]? = some ess'[i] := List.getElem?_eq_getElem i1
        refine ⟨rfl, yes ⟨_, rfl, r, _, rfl, .inl (SqL.of (s' _ _ (hr i r _ hri hei))), _, hD, by rw [List.length_map, List.length_map, List.length_take]; exact lt_size (by omega), ?_⟩⟩
        refine ⟨g'.set (g.free nD) (.inl (g.th _ nD)), fun c o h => by rw [upd_ne (ne_of_none h nD)]; exact s' _ _ h, nD, ?_⟩
        rw [upd_same, List.take_add_one, hei, List.map_append, List.map_append]
        rfl
      · rintro G' ⟨g', s', nD, hD⟩
        rw [List.length_map, ← le, List.take_length] at hD
        refine ⟨_, rfl, d, rfl, ⟨_, SqL.of (g'.fh _ _ (g2.ff _ _ hd))⟩, fun D2 nD2 => lc_list (K := K) (a := d) (xs := dr) (fun i G2 => Gr mu0 F1 H1 F2 G2 ∧ Same G' G2 ∧ G' D2 = none ∧ G2 D2 = some (.lst (((M.take i).map fun r => (r.length : Int) + 1).map V.int))) ⟨g'.own nD2, sm_up nD2, nD2, upd_same⟩ (fun i G2 _ p => SqL.of (p.1.fh _ _ (g2.ff _ _ hd))) ?_ ?_⟩
        · rintro i y G2 hi ⟨g3, s3, nD2, hD2⟩
          obtain ⟨row, hMi, ra, es, rfl, hra, hes⟩ := hdr.get' hi
          have il := (List.getElem?_eq_some_iff.mp hMi).1
          refine ⟨rfl, yes ⟨_, rfl, ra, es, rfl, .inl (SqL.of (g3.fh _ _ (g2.ff _ _ hra))), _, _, rfl, rfl, _, hD2, by rw [List.length_map, List.length_map, List.length_take]; exact lt_size (by omega), ?_⟩⟩
          refine ⟨g3.set (g'.free nD2) (.inl (g'.th _ nD2)), fun c o h => by rw [upd_ne (ne_of_none h nD2)]; exact s3 _ _ h, nD2, ?_⟩
          rw [upd_same, List.take_add_one, hMi, List.map_append, List.map_append, hes.1]
          rfl
        · rintro G2 ⟨g3, s3, nD2, hD2⟩
          rw [hdr.1, List.take_length] at hD2
          have asIs : ∀ {G : Hp} {l : List Int}, IsAll G (l.map V.int) l := fun {G l} => ⟨by rw [List.length_map], fun i v z h1 h2 => by rw [List.getElem?_map, h2] at h1; exact (Option.some.inj h1).symm⟩
          refine ne_dat (a := ess'.map fun e => (e.length : Int)) (b := M.map fun r => (r.length : Int) + 1) ⟨D, _, rfl, s3 _ _ hD, asIs⟩ ⟨D2, _, rfl, hD2, asIs⟩ ⟨_, rfl, ifF (by rw [decide_eq_true eL]; rfl) ?_⟩
          refine ⟨_, rfl, .inl ⟨rfl, _, SqL.of (s3 _ _ (s' _ _ hm))⟩, m, _, rfl, rfl, s3 _ _ (s' _ _ hm), ?_⟩
          have g5 := g3.set (o := .lst []) ma.ow.f (.inl ma.ow.n)
          refine ⟨_, rfl, F2, x, rfl, g5.fh, hx, fun M2 eM2 F6 H6 m2 u2 rs2 ess2 g6 ma6 _ _ hu6 => ?_, fun eN H' a u g ha hu => by rw [eM] at eN; cases eN⟩
          rw [eM] at eM2
          cases eM2
          refine ⟨u2, _, _, _, rfl, rfl, SqL.of hu6, atI_nat (j := 0) rfl, _, rfl, H6, .ref m2, .ref d, rfl, Same.refl _, sm_gm (ma6.isH g6.fh) (((hv.up g2.ff).up g6.ff).up g6.fh) hM, fun H7 g7 => ?_⟩
          exact q _ _ (g1.trans ((g5.trans g6).trans (gr_same g6.fh (gr_up g7))))
theorem cut_take {xs : List V} {j : Nat} : cutV xs none (some (j : Int)) = xs.take j := by
  unfold cutV
  have e1 : HT.sIx xs.length 0 none = 0 := rfl
  have e2 : HT.sIx xs.length xs.length (some (j : Int)) = min j xs.length := by
    simp only [HT.sIx]
    rw [if_neg (by omega), Int.toNat_natCast]
  rw [e1, e2, List.drop_zero, Nat.sub_zero]
  rcases Nat.le_total j xs.length with h | h
  · rw [Nat.min_eq_left h]
  · rw [Nat.min_eq_right h, List.take_length, List.take_of_length_le h]
theorem cut_drop {xs : List V} {j : Nat} : cutV xs (some (j : Int)) none = xs.drop j := by
  unfold cutV
  have e2 : HT.sIx xs.length xs.length none = xs.length := rfl
  have e1 : HT.sIx xs.length 0 (some (j : Int)) = min j xs.length := by
    simp only [HT.sIx]
    rw [if_neg (by omega), Int.toNat_natCast]
  rw [e1, e2]
  rcases Nat.le_total j xs.length with h | h
  · rw [Nat.min_eq_left h, ← List.length_drop, List.take_length]
  · rw [Nat.min_eq_right h, Nat.sub_self, List.take_zero, List.drop_eq_nil_iff.mpr h]
theorem cut_mid {xs : List V} {f l : Nat} (h1 : f ≤ l) (h2 : l ≤ xs.length) : cutV xs (some (f : Int)) (some (l : Int)) = (xs.drop f).take (l - f) := by
  unfold cutV
  have e1 : HT.sIx xs.length 0 (some (f : Int)) = f := by
    simp only [HT.sIx]
    rw [if_neg (by omega), Int.toNat_natCast]; omega
  have e2 : HT.sIx xs.length xs.length (some (l : Int)) = l := by
    simp only [HT.sIx]
    rw [if_neg (by omega), Int.toNat_natCast]; omega
  rw [e1, e2]
/-! ### bent texts -/
def tot (l : List Str) : Nat := (l.map (·.length)).sum + l.length
theorem tot_app (a b : List Str) : tot (a ++ b) = tot a + tot b := by
  unfold tot
  rw [List.map_append, List.sum_append, List.length_append]; omega
theorem tot_cut (l : List Str) (n : Nat) : tot (l.take n) + tot (l.drop n) = tot l := by
  rw [← tot_app, List.take_append_drop]
theorem tot_mem {l : List Str} {x : Str} (h : x ∈ l) : x.length + 1 ≤ tot l := by
  obtain ⟨a, b, rfl⟩ := List.append_of_mem h
  rw [tot_app]
  show _ ≤ tot a + tot (x :: b)
  rw [show x :: b = [x] ++ b from rfl, tot_app]
  have : tot [x] = x.length + 1 := by unfold tot; simp
  omega
theorem tot_set : ∀ (l : List Str) (i : Nat) (x : Str), tot (l.set i x) ≤ tot l + x.length
  | [], i, x => by show tot [] ≤ _; unfold tot; simp
  | y :: l, 0, x => by
    show tot (x :: l) ≤ tot (y :: l) + x.length
    rw [show x :: l = [x] ++ l from rfl, show y :: l = [y] ++ l from rfl, tot_app, tot_app]
    have h1 : tot [x] = x.length + 1 := by unfold tot; simp
    have h2 : tot [y] = y.length + 1 := by unfold tot; simp
    omega
  | y :: l, i + 1, x => by
    have := tot_set l i x
    show tot (y :: l.set i x) ≤ tot (y :: l) + x.length
    rw [show y :: l.set i x = [y] ++ l.set i x from rfl, show y :: l = [y] ++ l from rfl, tot_app, tot_app]
    omega
theorem join_tot : ∀ l : List Str, (Str.join " " l).length ≤ tot l
  | [] => by show (Str.join " " []).length ≤ 0; decide +kernel
  | [a] => by
    have h1 : tot [a] = a.length + 1 := by unfold tot; simp
    rw [h1]
    show a.length ≤ _
    omega
  | a :: b :: r => by
    have := join_tot (b :: r)
    have e : (Str.join " " (a :: b :: r)).length = a.length + 1 + (Str.join " " (b :: r)).length := by
      show (a ++ " " ++ Str.join " " (b :: r)).length = _
      rw [str_len_app, str_len_app, blank_len]
    rw [e, show a :: b :: r = [a] ++ (b :: r) from rfl, tot_app]
    have h1 : tot [a] = a.length + 1 := by unfold tot; simp
    omega
theorem tot_join : ∀ l : List Str, l ≠ [] → tot l = (Str.join " " l).length + 1
  | [], h => absurd rfl h
  | [a], _ => by
    have h1 : tot [a] = a.length + 1 := by unfold tot; simp
    rw [h1]; rfl
  | a :: b :: r, _ => by
    have k := tot_join (b :: r) (by simp)
    have e : (Str.join " " (a :: b :: r)).length = a.length + 1 + (Str.join " " (b :: r)).length := by
      show (a ++ " " ++ Str.join " " (b :: r)).length = _
      rw [str_len_app, str_len_app, blank_len]
    rw [e, show a :: b :: r = [a] ++ (b :: r) from rfl, tot_app, k]
    have h1 : tot [a] = a.length + 1 := by unfold tot; simp
    omega
theorem tot_split (x : Str) : tot (Txt.split x " ") ≤ x.length + 1 := by
  by_cases h : Txt.split x " " = []
  · rw [h]; show 0 ≤ _; omega
  · rw [tot_join _ h, PySem.StrLaws.join_split]; exact Nat.le_refl _
theorem spl_ne {S : List Nat} : ∀ (l : List Nat) (k : Nat) (acc : List Nat), TL.spl S k acc l ≠ []
  | [], k, acc => by rw [TL.spl_nil]; simp
  | c :: r, 0, acc => by
    rw [TL.spl]
    split
    · simp
    · exact spl_ne r 0 _
  | c :: r, k + 1, acc => by
    rw [TL.spl]
    exact spl_ne r k acc
theorem split_ne (x : Str) : Txt.split x " " ≠ [] := fun h => by
  have z := TL.split_spl x " " (by decide +kernel) (TL.kind_ok (by decide +kernel))
  rw [h] at z
  exact spl_ne _ _ _ z.symm
theorem tl_join12 (l : List Str) : (Txt.join " " l).length ≤ tot l := by
  rw [TL.join_eq]; exact join_tot l
theorem cut_le (x : Str) (a b : Option Int) : (cutS x a b).length ≤ x.length := cutS_length x a b
theorem one_len (c : Nat) : (⟨#[c]⟩ : Str).length = 1 := rfl
theorem iN {n k : Nat} (h : k < n) : ixN n (k : Int) = some k := by
  unfold ixN
  rw [if_pos (by omega), if_pos (by omega), Int.toNat_natCast]
def sp_L_bent_text : Sp := fun vs H Q _ => ∃ (F : Hp) (p : Addr) (a b : Int) (x near : Str), vs = [.ref p, .str x, .str near] ∧ Same F H ∧ F p = none ∧ H p = some (PurseO a b) ∧ 0 ≤ a ∧ 0 ≤ b ∧ x.length ≤ 20000 ∧ 1 ≤ near.length ∧ near.length ≤ 100 ∧
  ∀ (H' : Hp) (y : Str) (a' b' : Int), Gr (muP p) F H F H' → H' p = some (PurseO a' b') → 0 ≤ a' → 0 ≤ b' → y.length ≤ 4 * x.length + 4 → Q (.str y) H'
theorem ok_L_bent_text (t : Tx K mg) : FnOk P w K mg base CX0 2 t.a_L_bent_text t.fd_L_bent_text ["_law_purse_here", "_law_text_here", "_law_near"] sp_L_bent_text := by
  refine t.F_L_bent_text.ok sc_L_bent_text (fun vs H Q E h => ?_) (fun cdv A outer s H vs Q E hr h => ?_)
  · obtain ⟨F, p, a, b, x, near, rfl, _⟩ := h
    rfl
  · obtain ⟨F, p, a, b, x, near, rfl, sF, fp, hp, ha, hb, hx, n1, n100, q⟩ := h
    refine ⟨_, (pss_cons (ps_set (i := 3) sc_L_bent_text.nd rfl (by first | exact Or.inl rfl | exact Or.inr rfl) pe_str)
      (pss_cons (ps_set (i := 3) sc_L_bent_text.nd rfl (by first | exact Or.inl rfl | exact Or.inr rfl) (pe_op op_add_str (pv 3) pe_str))
      (pss_cons (ps_set (i := 4) sc_L_bent_text.nd rfl (by first | exact Or.inl rfl | exact Or.inr rfl) (pe_ix ix_list (pe_lst (pa_cons (pv 3) (pa_cons (pv 2) pa_nil))) (pe_call (ok_L_draw t) (hr.mono (by decide)) (by rfl) t.m_L_draw t.F_L_draw.kp t.b_L_draw .nil pass0 (pa_cons (pv 0) (pa_cons pe_int pa_nil))) (fun _ _ => rfl)))
      (pss_cons (ps_set (i := 4) sc_L_bent_text.nd rfl (by first | exact Or.inl rfl | exact Or.inr rfl) (pe_ix ix_str (pv 4) (pe_call (ok_L_draw t) (hr.mono (by decide)) (by rfl) t.m_L_draw t.F_L_draw.kp t.b_L_draw .nil pass0 (pa_cons (pv 0) (pa_cons (pe_callB (id := "len") call_len_str (by rfl) t.n_len (by decide +kernel) (pa_cons (pv 4) pa_nil)) pa_nil))) (fun _ _ => rfl)))
      (pss_cons (ps_set (i := 5) sc_L_bent_text.nd rfl (by first | exact Or.inl rfl | exact Or.inr rfl) (pe_call (ok_L_draw t) (hr.mono (by decide)) (by rfl) t.m_L_draw t.F_L_draw.kp t.b_L_draw .nil pass0 (pa_cons (pv 0) (pa_cons (pe_op op_add (pe_callB (id := "len") call_len_str (by rfl) t.n_len (by decide +kernel) (pa_cons (pv 1) pa_nil)) pe_int) pa_nil))))
      (pss_cons (ps_set (i := 6) sc_L_bent_text.nd rfl (by first | exact Or.inl rfl | exact Or.inr rfl) (pe_call (ok_L_draw t) (hr.mono (by decide)) (by rfl) t.m_L_draw t.F_L_draw.kp t.b_L_draw .nil pass0 (pa_cons (pv 0) (pa_cons pe_int pa_nil))))
      (pss_cons (ps_if (pt_cmpR op_eq (pv 6) pe_int (nomark _)) (pss_one (ps_ret (pe_op op_add_str (pe_op op_add_str (pe_slice sl_str (pv 1) po_none (po_some (pv 5))) (pv 4)) (pe_slice sl_str (pv 1) (po_some (pv 5)) po_none)))) pss_nil)
      (pss_cons (ps_if (pt_cmpR op_eq (pv 6) pe_int (nomark _)) (pss_one (ps_ret (pe_op op_add_str (pe_slice sl_str (pv 1) po_none (po_some (pv 5))) (pe_slice sl_str (pv 1) (po_some (pe_op op_add (pv 5) pe_int)) po_none)))) pss_nil)
      (pss_cons (ps_if (pt_cmpR op_lt (pv 6) pe_int (nomark _)) (pss_one (ps_ret (pe_op op_add_str (pe_op op_add_str (pe_slice sl_str (pv 1) po_none (po_some (pv 5))) (pv 4)) (pe_slice sl_str (pv 1) (po_some (pe_op op_add (pv 5) pe_int)) po_none)))) pss_nil)
      (pss_cons (ps_if (pt_cmpR op_eq (pv 6) pe_int (nomark _)) (pss_cons (ps_set (i := 7) sc_L_bent_text.nd rfl (by first | exact Or.inl rfl | exact Or.inr rfl) (pe_op op_add_str (pe_slice sl_str (pv 1) (po_some (pe_op op_add (pv 5) pe_int)) (po_some (pe_op op_add (pv 5) pe_int))) (pe_slice sl_str (pv 1) (po_some (pv 5)) (po_some (pe_op op_add (pv 5) pe_int)))))
      (pss_one (ps_ret (pe_op op_add_str (pe_op op_add_str (pe_slice sl_str (pv 1) po_none (po_some (pv 5))) (pv 7)) (pe_slice sl_str (pv 1) (po_some (pe_op op_add (pv 5) pe_int)) po_none))))) pss_nil)
      (pss_cons (ps_if (pt_cmpR op_eq (pv 6) pe_int (nomark _)) (pss_one (ps_ret (pe_slice sl_str (pv 1) po_none (po_some (pv 5))))) pss_nil)
      (pss_cons (ps_set (i := 8) sc_L_bent_text.nd rfl (by first | exact Or.inl rfl | exact Or.inr rfl) (pe_split (pv 1) pe_str))
      (pss_cons (ps_set (i := 9) sc_L_bent_text.nd rfl (by first | exact Or.inl rfl | exact Or.inr rfl) (pe_call (ok_L_draw t) (hr.mono (by decide)) (by rfl) t.m_L_draw t.F_L_draw.kp t.b_L_draw .nil pass0 (pa_cons (pv 0) (pa_cons (pe_callB (id := "len") call_lenQ (by rfl) t.n_len (by decide +kernel) (pa_cons (pv 8) pa_nil)) pa_nil))))
      (pss_cons (ps_set (i := 10) sc_L_bent_text.nd rfl (by first | exact Or.inl rfl | exact Or.inr rfl) (pe_call (ok_L_draw t) (hr.mono (by decide)) (by rfl) t.m_L_draw t.F_L_draw.kp t.b_L_draw .nil pass0 (pa_cons (pv 0) (pa_cons (pe_callB (id := "len") call_lenQ (by rfl) t.n_len (by decide +kernel) (pa_cons (pv 8) pa_nil)) pa_nil))))
      (pss_cons (ps_if (pt_cmpR op_eq (pv 6) pe_int (nomark _)) (pss_one (ps_set (i := 8) sc_L_bent_text.nd rfl (by first | exact Or.inl rfl | exact Or.inr rfl) (pe_op op_cat (pe_slice sl_list (pv 8) po_none (po_some (pv 9))) (pe_slice sl_list (pv 8) (po_some (pe_op op_add (pv 9) pe_int)) po_none)))) (pss_one (ps_if (pt_cmpR op_eq (pv 6) pe_int (nomark _)) (pss_one (ps_set (i := 8) sc_L_bent_text.nd rfl (by first | exact Or.inl rfl | exact Or.inr rfl) (pe_op op_cat (pe_op op_cat (pe_slice sl_list (pv 8) po_none (po_some (pv 9))) (pe_slice sl_list (pv 8) (po_some (pv 10)) (po_some (pe_op op_add (pv 10) pe_int)))) (pe_slice sl_list (pv 8) (po_some (pv 9)) po_none)))) (pss_one (ps_asg (pe_tup (pa_cons (pe_ix ix_list (pv 8) (pv 10) (fun _ _ => rfl)) (pa_cons (pe_ix ix_list (pv 8) (pv 9) (fun _ _ => rfl)) pa_nil))) (pg_tup rfl (pgs_cons (pg_sub (pv 8) (pv 9) set_list) (pgs_cons (pg_sub (pv 8) (pv 10) set_list) pgs_nil))))))))
      (pss_one (ps_ret (pe_join pe_str (pv 8))))))))))))))))))), ?_⟩
    have g0 : Gr (muP p) F H F H := Gr.refl sF
    refine ⟨_, rfl, _, _, rfl, rfl, by decide +kernel, ?_⟩
    dsimp only
    generalize hsg : (Str.ofString _ ++ Str.ofString _ : Str) = sg
    have ls : 1 ≤ sg.length ∧ sg.length ≤ 100 := by rw [← hsg]; decide +kernel
    clear hsg
    refine ⟨_, rfl, _, rfl, two_le, fun l nl => ?_⟩
    have g1 := g0.own (o := .lst [.str sg, .str near]) nl
    have hp1 := ln (u := .lst [.str sg, .str near]) nl hp
    have hl1 : (upd H l (.lst [.str sg, .str near])) l = some (.lst [.str sg, .str near]) := upd_same
    have pl : l ≠ p := (ne_of_none hp nl).symm
    generalize upd H l (.lst [.str sg, .str near]) = H1 at g1 hp1 hl1 ⊢
    refine ⟨_, rfl, p, a, b, 2, rfl, hp1, ha, hb, by decide, by decide, fun d a1 b1 d0 d1 ha1 hb1 => ?_⟩
    have g2 := g1.set (o := PurseO a1 b1) fp (.inr rfl)
    have hp2 : (upd H1 p (PurseO a1 b1)) p = some (PurseO a1 b1) := upd_same
    have hl2 := (upd_ne (o := PurseO a1 b1) pl).trans hl1
    generalize upd H1 p (PurseO a1 b1) = H2 at g2 hp2 hl2 ⊢
    obtain ⟨sn, hsn, n0, n9⟩ : ∃ sn : Str, atI [V.str sg, V.str near] d = some (.str sn) ∧ 1 ≤ sn.length ∧ sn.length ≤ 100 := by
      have h : d = 0 ∨ d = 1 := by omega
      rcases h with rfl | rfl
      · exact ⟨sg, rfl, ls.1, ls.2⟩
      · exact ⟨near, rfl, n1, n100⟩
    refine ⟨l, _, _, _, rfl, rfl, SqL.of hl2, hsn, ?_⟩
    refine ⟨_, rfl, _, rfl, _, rfl, _, rfl, le_size (n := sn.length) (by omega), p, a1, b1, (sn.length : Int), rfl, hp2, ha1, hb1, by omega, by omega, fun e a2 b2 e0 e1 ha2 hb2 => ?_⟩
    have g3 := g2.set (o := PurseO a2 b2) fp (.inr rfl)
    have hp3 : (upd H2 p (PurseO a2 b2)) p = some (PurseO a2 b2) := upd_same
    generalize upd H2 p (PurseO a2 b2) = H3 at g3 hp3 ⊢
    obtain ⟨c, hc⟩ : ∃ c, atI sn.cps.toList e = some c := by
      have hk : e.toNat < sn.cps.toList.length := by
        show _ < _
        rw [Array.length_toList]
        have : (sn.cps.size : Int) = (sn.length : Int) := rfl
        omega
      have ee : (e.toNat : Int) = e := Int.toNat_of_nonneg e0
      have z := atI_nat (j := e.toNat) (List.getElem?_eq_getElem hk)
      rw [ee] at z
      exact ⟨_, z⟩
    refine ⟨_, _, c, rfl, rfl, le_size (n := sn.length) (by omega), hc, ?_⟩
    refine ⟨_, rfl, _, rfl, _, rfl, le_size (n := x.length) (by omega), _, _, rfl, rfl, p, a2, b2, (x.length : Int) + 1, rfl, hp3, ha2, hb2, by omega, by omega, fun at_ a3 b3 f0 f1 ha3 hb3 => ?_⟩
    have g4 := g3.set (o := PurseO a3 b3) fp (.inr rfl)
    have hp4 : (upd H3 p (PurseO a3 b3)) p = some (PurseO a3 b3) := upd_same
    generalize upd H3 p (PurseO a3 b3) = H4 at g4 hp4 ⊢
    refine ⟨_, rfl, p, a3, b3, 9, rfl, hp4, ha3, hb3, by decide, by decide, fun kd a4 b4 k0 k1 ha4 hb4 => ?_⟩
    have g5 := g4.set (o := PurseO a4 b4) fp (.inr rfl)
    have hp5 : (upd H4 p (PurseO a4 b4)) p = some (PurseO a4 b4) := upd_same
    generalize upd H4 p (PurseO a4 b4) = H5 at g5 hp5 ⊢
    have lx : ∀ {a b : Option Int}, (cutS x a b).length ≤ x.length := fun {a b} => cut_le x a b
    have zx : ∀ {n : Nat}, n ≤ 100000 → n ≤ sizeLine := fun h => le_size (by omega)
    have l1 : (⟨#[c]⟩ : Str).length = 1 := rfl
    have c1 := cut_le x none (some at_)
    have c2 := cut_le x (some at_) none
    have c3 := cut_le x (some (at_ + 1)) none
    have c4 := cut_le x (some (at_ + 1)) (some (at_ + 2))
    have c5 := cut_le x (some at_) (some (at_ + 1))
    have c6 := cut_le x (some (at_ + 2)) none
    refine ⟨_, rfl, rfl, _, rfl, ite2 (fun _ => ?_) (fun _ => ?_)⟩
    · refine ⟨_, rfl, _, rfl, _, rfl, _, rfl, zx (n := x.length) (by omega), _, rfl, _, _, rfl, rfl, zx (n := _ + _) (by rw [l1]; omega), _, rfl, _, rfl, _, rfl, _, rfl, zx (n := x.length) (by omega), _, _, rfl, rfl, zx (n := _ + _) (by rw [str_len_app, l1]; omega), ?_⟩
      exact q _ _ a4 b4 g5 hp5 ha4 hb4 (by rw [str_len_app, str_len_app, l1]; omega)
    refine ⟨_, rfl, rfl, _, rfl, ite2 (fun _ => ?_) (fun _ => ?_)⟩
    · refine ⟨_, rfl, _, rfl, _, rfl, _, rfl, zx (n := x.length) (by omega), _, rfl, _, rfl, _, _, rfl, rfl, _, rfl, _, rfl, zx (n := x.length) (by omega), _, _, rfl, rfl, zx (n := _ + _) (by omega), ?_⟩
      exact q _ _ a4 b4 g5 hp5 ha4 hb4 (by rw [str_len_app]; omega)
    refine ⟨_, rfl, _, _, rfl, rfl, _, rfl, ite2 (fun _ => ?_) (fun _ => ?_)⟩
    · refine ⟨_, rfl, _, rfl, _, rfl, _, rfl, zx (n := x.length) (by omega), _, rfl, _, _, rfl, rfl, zx (n := _ + _) (by rw [l1]; omega), _, rfl, _, rfl, _, _, rfl, rfl, _, rfl, _, rfl, zx (n := x.length) (by omega), _, _, rfl, rfl, zx (n := _ + _) (by rw [str_len_app, l1]; omega), ?_⟩
      exact q _ _ a4 b4 g5 hp5 ha4 hb4 (by rw [str_len_app, str_len_app, l1]; omega)
    refine ⟨_, rfl, rfl, _, rfl, ite2 (fun _ => ?_) (fun _ => ?_)⟩
    · refine ⟨_, rfl, _, rfl, _, _, rfl, rfl, _, rfl, _, rfl, _, _, rfl, rfl, _, rfl, _, rfl, zx (n := x.length) (by omega), _, rfl, _, rfl, _, rfl, _, rfl, _, _, rfl, rfl, _, rfl, _, rfl, zx (n := x.length) (by omega), _, _, rfl, rfl, zx (n := _ + _) (by omega), ?_⟩
      refine ⟨_, rfl, _, rfl, _, rfl, _, rfl, zx (n := x.length) (by omega), _, rfl, _, _, rfl, rfl, zx (n := _ + _) (by rw [str_len_app]; omega), _, rfl, _, rfl, _, _, rfl, rfl, _, rfl, _, rfl, zx (n := x.length) (by omega), _, _, rfl, rfl, zx (n := _ + _) (by rw [str_len_app, str_len_app]; omega), ?_⟩
      exact q _ _ a4 b4 g5 hp5 ha4 hb4 (by rw [str_len_app, str_len_app, str_len_app]; omega)
    refine ⟨_, rfl, rfl, _, rfl, ite2 (fun _ => ?_) (fun _ => ?_)⟩
    · refine ⟨_, rfl, _, rfl, _, rfl, _, rfl, zx (n := x.length) (by omega), ?_⟩
      exact q _ _ a4 b4 g5 hp5 ha4 hb4 (by omega)
    -- words
    have ls2 := PyProof.Rows.split_le x " "
    have ts := tot_split x
    have ne : 1 ≤ (Txt.split x " ").length := by
      exact List.length_pos_iff.mpr (split_ne x)
    refine ⟨_, rfl, ⟨_, rfl⟩, _, _, rfl, rfl, by decide +kernel, zx (n := x.length + 2) (by omega), fun W nW => ?_⟩
    generalize Txt.split x " " = ws at ls2 ts ne nW ⊢
    have lw : (ws.map V.str).length = ws.length := List.length_map _
    have g6 := g5.own (o := .lst (ws.map V.str)) nW
    have hp6 := ln (u := .lst (ws.map V.str)) nW hp5
    have hW : (upd H5 W (.lst (ws.map V.str))) W = some (.lst (ws.map V.str)) := upd_same
    have pW : W ≠ p := (ne_of_none hp5 nW).symm
    generalize upd H5 W (.lst (ws.map V.str)) = H6 at g6 hp6 hW ⊢
    refine ⟨_, rfl, _, rfl, W, _, rfl, .inl (SqL.of hW), p, a4, b4, ((ws.map V.str).length : Int), rfl, hp6, ha4, hb4, by omega, by omega, fun sp a5 b5 s0 s1 ha5 hb5 => ?_⟩
    have g7 := g6.set (o := PurseO a5 b5) fp (.inr rfl)
    have hp7 : (upd H6 p (PurseO a5 b5)) p = some (PurseO a5 b5) := upd_same
    have hW7 := (upd_ne (o := PurseO a5 b5) pW).trans hW
    generalize upd H6 p (PurseO a5 b5) = H7 at g7 hp7 hW7 ⊢
    refine ⟨_, rfl, _, rfl, W, _, rfl, .inl (SqL.of hW7), p, a5, b5, ((ws.map V.str).length : Int), rfl, hp7, ha5, hb5, by omega, by omega, fun fr a6 b6 r0 r1 ha6 hb6 => ?_⟩
    have g8 := g7.set (o := PurseO a6 b6) fp (.inr rfl)
    have hp8 : (upd H7 p (PurseO a6 b6)) p = some (PurseO a6 b6) := upd_same
    have hW8 := (upd_ne (o := PurseO a6 b6) pW).trans hW7
    generalize upd H7 p (PurseO a6 b6) = H8 at g8 hp8 hW8 ⊢
    obtain ⟨i, rfl⟩ := Int.eq_ofNat_of_zero_le s0
    obtain ⟨j, rfl⟩ := Int.eq_ofNat_of_zero_le r0
    have i1 : i < ws.length := by omega
    have j1 : j < ws.length := by omega
    have bl1 : (" " : Str).length = 1 := blank_len
    refine ⟨_, rfl, rfl, _, rfl, ite2 (fun _ => ?_) (fun _ => ?_)⟩
    · refine ⟨_, rfl, _, rfl, _, rfl, W, _, rfl, SqL.of hW8, fun S1 m1 => ?_⟩
      rw [cut_take]
      refine ⟨_, rfl, _, rfl, _, _, rfl, rfl, _, rfl, W, _, rfl, SqL.of (ln m1 hW8), fun S2 m2 => ?_⟩
      dsimp only
      rw [show ((i : Int) + 1) = ((i + 1 : Nat) : Int) from rfl, cut_drop]
      refine ⟨S1, S2, _, _, rfl, rfl, ln m2 upd_same, upd_same, by rw [List.length_take, List.length_drop]; exact zx (by omega), fun S3 m3 => ?_⟩
      have e : (ws.map V.str).take i ++ (ws.map V.str).drop (i + 1) = (ws.take i ++ ws.drop (i + 1)).map V.str := by rw [List.map_append, List.map_take, List.map_drop]
      rw [e]
      have t1 := tot_cut ws i
      have t2 := tot_cut (ws.drop i) 1
      rw [List.drop_drop] at t2
      have t3 := tot_app (ws.take i) (ws.drop (i + 1))
      have t4 := tl_join12 (ws.take i ++ ws.drop (i + 1))
      refine ⟨⟨_, rfl⟩, _, rfl, _, S3, ws.take i ++ ws.drop (i + 1), rfl, rfl, .inl (SqL.of upd_same), ?_, ?_⟩
      · rw [bl1, Nat.mul_one]
        show tot _ ≤ _
        omega
      · exact q _ _ a6 b6 (((g8.own m1).own m2).own m3) (ln m3 (ln m2 (ln m1 hp8))) ha6 hb6 (by omega)
    refine ⟨_, rfl, rfl, _, rfl, ite2 (fun _ => ?_) (fun _ => ?_)⟩
    · refine ⟨_, rfl, _, rfl, _, rfl, W, _, rfl, SqL.of hW8, fun S1 m1 => ?_⟩
      rw [cut_take]
      refine ⟨_, rfl, _, rfl, _, rfl, _, rfl, _, _, rfl, rfl, _, rfl, W, _, rfl, SqL.of (ln m1 hW8), fun S2 m2 => ?_⟩
      dsimp only
      rw [show ((j : Int) + 1) = ((j + 1 : Nat) : Int) from rfl, cut_mid (by omega) (by omega), show j + 1 - j = 1 by omega]
      refine ⟨S1, S2, _, _, rfl, rfl, ln m2 upd_same, upd_same, by rw [List.length_take, List.length_take]; exact zx (by omega), fun S3 m3 => ?_⟩
      refine ⟨_, rfl, _, rfl, _, rfl, W, _, rfl, SqL.of (ln m3 (ln m2 (ln m1 hW8))), fun S4 m4 => ?_⟩
      rw [cut_drop]
      refine ⟨S3, S4, _, _, rfl, rfl, ln m4 upd_same, upd_same, by simp only [List.length_append, List.length_take, List.length_drop]; exact zx (by omega), fun S5 m5 => ?_⟩
      have e : (ws.map V.str).take i ++ ((ws.map V.str).drop j).take 1 ++ (ws.map V.str).drop i = (ws.take i ++ (ws.drop j).take 1 ++ ws.drop i).map V.str := by rw [List.map_append, List.map_append, List.map_take, List.map_take, List.map_drop, List.map_drop]
      rw [e]
      have t1 := tot_cut ws i
      have t2 := tot_cut (ws.drop j) 1
      have t3 := tot_cut ws j
      have t4 := tot_app (ws.take i ++ (ws.drop j).take 1) (ws.drop i)
      have t5 := tot_app (ws.take i) ((ws.drop j).take 1)
      have t6 := tl_join12 (ws.take i ++ (ws.drop j).take 1 ++ ws.drop i)
      refine ⟨⟨_, rfl⟩, _, rfl, _, S5, ws.take i ++ (ws.drop j).take 1 ++ ws.drop i, rfl, rfl, .inl (SqL.of upd_same), ?_, ?_⟩
      · rw [bl1, Nat.mul_one]
        show tot _ ≤ _
        omega
      · exact q _ _ a6 b6 (((((g8.own m1).own m2).own m3).own m4).own m5) (ln m5 (ln m4 (ln m3 (ln m2 (ln m1 hp8))))) ha6 hb6 (by omega)
    have wi : (ws.map V.str)[i]? = some (.str ws[i]) := by rw [List.getElem?_map, List.getElem?_eq_getElem i1]; rfl
    have wj : (ws.map V.str)[j]? = some (.str ws[j]) := by rw [List.getElem?_map, List.getElem?_eq_getElem j1]; rfl
    refine ⟨_, rfl, _, rfl, W, _, _, _, rfl, rfl, SqL.of hW8, atI_nat wj, _, rfl, _, rfl, W, _, _, _, rfl, rfl, SqL.of hW8, atI_nat wi, two_le, fun u nu => ?_⟩
    refine ⟨u, _, rfl, SqT.of upd_same, rfl, _, _, rfl, _, rfl, _, rfl, W, _, _, i, rfl, rfl, ln nu hW8, iN (by omega), _, _, rfl, _, rfl, _, rfl, W, _, _, j, rfl, rfl, upd_same, iN (by rw [List.length_set]; omega), rfl, ?_⟩
    rw [upd_upd, show ((ws.map V.str).set i (.str ws[j])).set j (.str ws[i]) = ((ws.set i ws[j]).set j ws[i]).map V.str by rw [List.map_set, List.map_set]]
    have t1 := tot_set (ws.set i ws[j]) j ws[i]
    have t2 := tot_set ws i ws[j]
    have t3 := tot_mem (List.getElem_mem i1)
    have t4 := tot_mem (List.getElem_mem j1)
    have t6 := tl_join12 ((ws.set i ws[j]).set j ws[i])
    have gu := (g8.own (o := .tup [.str ws[j], .str ws[i]]) nu).set (q := W) (o := .lst (((ws.set i ws[j]).set j ws[i]).map V.str)) (g5.free nW) (.inl (g5.th _ nW))
    refine ⟨⟨_, rfl⟩, _, rfl, _, W, (ws.set i ws[j]).set j ws[i], rfl, rfl, .inl (SqL.of upd_same), ?_, ?_⟩
    · rw [bl1, Nat.mul_one]
      show tot _ ≤ _
      omega
    · exact q _ _ a6 b6 gu ((upd_ne pW.symm).trans (ln nu hp8)) ha6 hb6 (by omega)
/-! ### must_machine lets machines by (of the general is_machine) -/
theorem isM_gm {M : Mach} {R S : Nat} (h : MOk M R S) : isM (gm M) = true := by
  have lM : (gm M).length = R := by unfold gm; rw [List.length_map]; exact h.len
  have hd : ((gm M).headD []).length = S := by
    cases M with
    | nil =>
      have h1 := h.len
      have h2 := h.r1
      have h1 : 0 = R := h1
      omega
    | cons r0 rest =>
      show (r0.map entL).length = S
      rw [List.length_map]
      exact h.row r0 List.mem_cons_self
  unfold isM
  rw [lM, hd, decide_eq_true h.r1, decide_eq_true h.r4, decide_eq_true h.s2, decide_eq_true h.s4]
  have a1 : ((gm M).all fun r => decide (r.length = S)) = true := List.all_eq_true.mpr fun r m => by
    obtain ⟨r0, m0, rfl⟩ := List.mem_map.mp m
    rw [List.length_map]
    exact decide_eq_true (h.row r0 m0)
  have a2 : ((gm M).all fun r => r.all fun e => isE R S e.l) = true := List.all_eq_true.mpr fun r m => List.all_eq_true.mpr fun e k => by
    obtain ⟨r0, m0, rfl⟩ := List.mem_map.mp m
    obtain ⟨e0, k0, rfl⟩ := List.mem_map.mp k
    have eo := h.ent r0 m0 e0 k0
    cases e0 with
    | emp => rfl
    | go p w r =>
      obtain ⟨⟨o1, o2⟩, o3, o4, o5⟩ := eo.ok _ _ _ rfl
      show (decide (0 ≤ p) && decide (p < (S : Int)) && (decide (w = -1) || decide (w = 1)) && decide (0 ≤ r) && decide (r < (R : Int))) = true
      rw [decide_eq_true o1, decide_eq_true o2, decide_eq_true o4, decide_eq_true o5]
      rcases o3 with o3 | o3 <;> (rw [o3]; rfl)
  rw [a1, a2]; rfl
/-! ### the text of a machine is read back -/
theorem fig_tl {p : Int} (h0 : 0 ≤ p) (h1 : p < 4) : TL.tl (toString p : Str) = [48 + p.toNat] := by
  have h : p = 0 ∨ p = 1 ∨ p = 2 ∨ p = 3 := by omega
  rcases h with rfl | rfl | rfl | rfl <;> decide +kernel
theorem way_tl (w : Int) : TL.tl (wayT w) = [if w = 1 then 82 else 76] := by
  unfold wayT
  by_cases e : w = 1
  · rw [if_pos e, if_pos e]; decide +kernel
  · rw [if_neg e, if_neg e]; decide +kernel
theorem row_tl {r : Int} (h0 : 0 ≤ r) (h1 : r < 4) : TL.tl (rowT r) = [65 + r.toNat] := by
  have h : r = 0 ∨ r = 1 ∨ r = 2 ∨ r = 3 := by omega
  rcases h with rfl | rfl | rfl | rfl <;> decide +kernel
theorem textE_tl {p w r : Int} (p0 : 0 ≤ p) (p1 : p < 4) (r0 : 0 ≤ r) (r1 : r < 4) : TL.tl (textE [p, w, r]) = [48 + p.toNat, if w = 1 then 82 else 76, 65 + r.toNat] := by
  show TL.tl (toString p ++ wayT w ++ rowT r) = _
  rw [TL.tl_append, TL.tl_append, fig_tl p0 p1, way_tl, row_tl r0 r1]; rfl
theorem eP_textE {R S : Nat} {e : GE} (h : isE R S e.l = true) (hR : R ≤ 4) (hS : S ≤ 4) : eP 4 (TL.tl (textE e.l)) = some e ∧ 44 ∉ TL.tl (textE e.l) ∧ 32 ∉ TL.tl (textE e.l) := by
  obtain ⟨l⟩ := e
  rcases isE_cases h with e | ⟨p, w, r, e, p0, p1, hw, r0, r1⟩
  · have e : l = [] := e
    subst e
    refine ⟨?_, ?_, ?_⟩
    · show eP 4 (TL.tl ("---" : Str)) = _
      rw [dash_tl]; rfl
    · show 44 ∉ TL.tl ("---" : Str)
      rw [dash_tl]; decide
    · show 32 ∉ TL.tl ("---" : Str)
      rw [dash_tl]; decide
  · have e : l = [p, w, r] := e
    subst e
    have z := textE_tl (w := w) p0 (by omega) r0 (by omega)
    have ha : 48 ≤ 48 + p.toNat ∧ 48 + p.toNat < 48 + 4 := by omega
    have hc : 65 ≤ 65 + r.toNat ∧ 65 + r.toNat < 69 := by omega
    have hb : (if w = 1 then 82 else 76) = 76 ∨ (if w = 1 then 82 else 76) = 82 := by
      by_cases e : w = 1
      · rw [if_pos e]; exact .inr rfl
      · rw [if_neg e]; exact .inl rfl
    show eP 4 (TL.tl (textE [p, w, r])) = _ ∧ 44 ∉ TL.tl (textE [p, w, r]) ∧ 32 ∉ TL.tl (textE [p, w, r])
    rw [z]
    refine ⟨?_, ?_, ?_⟩
    · unfold eP
      rw [if_neg (by intro k; have := (List.cons.inj k).1; omega)]
      show (if (48 ≤ 48 + p.toNat ∧ 48 + p.toNat < 48 + 4) ∧ ((if w = 1 then 82 else 76) = 76 ∨ (if w = 1 then 82 else 76) = 82) ∧ (65 ≤ 65 + r.toNat ∧ 65 + r.toNat < 69) then some (⟨[((48 + p.toNat : Nat) : Int) - 48, if (if w = 1 then 82 else 76) = 82 then 1 else -1, ((65 + r.toNat : Nat) : Int) - 65]⟩ : GE) else none) = _
      rw [if_pos ⟨ha, hb, hc⟩]
      have e1 : ((48 + p.toNat : Nat) : Int) - 48 = p := by omega
      have e3 : ((65 + r.toNat : Nat) : Int) - 65 = r := by omega
      rw [e1, e3]
      rcases hw with rfl | rfl <;> rfl
    · intro m
      rcases List.mem_cons.mp m with m | m
      · omega
      rcases List.mem_cons.mp m with m | m
      · rcases hb with k | k <;> rw [k] at m <;> cases m
      · have := List.mem_singleton.mp m; omega
    · intro m
      rcases List.mem_cons.mp m with m | m
      · omega
      rcases List.mem_cons.mp m with m | m
      · rcases hb with k | k <;> rw [k] at m <;> cases m
      · have := List.mem_singleton.mp m; omega
theorem mem_joinL {S : List Nat} {c : Nat} : ∀ {ps : List (List Nat)}, c ∈ TL.joinL S ps → c ∈ S ∨ ∃ p ∈ ps, c ∈ p
  | [], h => by cases h
  | [p], h => .inr ⟨p, List.mem_cons_self, h⟩
  | p :: q :: r, h => by
    have h : c ∈ p ++ (S ++ TL.joinL S (q :: r)) := h
    rcases List.mem_append.mp h with h | h
    · exact .inr ⟨p, List.mem_cons_self, h⟩
    rcases List.mem_append.mp h with h | h
    · exact .inl h
    rcases mem_joinL h with h | ⟨x, m, h⟩
    · exact .inl h
    · exact .inr ⟨x, List.mem_cons_of_mem _ m, h⟩
theorem comma_tl : TL.tl ("," : Str) = [44] := by decide +kernel
theorem blank_tl : TL.tl (" " : Str) = [32] := by decide +kernel
theorem rowP_textR {R S : Nat} {r : List GE} (hn : r ≠ []) (h : ∀ e ∈ r, isE R S e.l = true) (hR : R ≤ 4) (hS : S ≤ 4) : rowP 4 (textR r) = some r ∧ 32 ∉ TL.tl (textR r) := by
  constructor
  · unfold rowP textR
    rw [TL.split_join comma_tl (by decide +kernel) (fun z => hn (List.map_eq_nil_iff.mp z)) fun p m => by
      obtain ⟨e, me, rfl⟩ := List.mem_map.mp m
      exact (eP_textE (h e me) hR hS).2.1]
    refine allS_some ?_
    rw [List.map_map]
    exact List.map_congr_left fun e me => (eP_textE (h e me) hR hS).1
  · intro m
    unfold textR at m
    rw [TL.join_eq, TL.tl_join, comma_tl] at m
    rcases mem_joinL m with m | ⟨p, mp, m⟩
    · exact absurd (List.mem_singleton.mp m) (by decide)
    · obtain ⟨x, mx, rfl⟩ := List.mem_map.mp mp
      obtain ⟨e, me, rfl⟩ := List.mem_map.mp mx
      exact (eP_textE (h e me) hR hS).2.2 m
theorem machL_textM {M : GM} (h : isM M = true) : machL (textM M) = some M := by
  obtain ⟨R, S, k⟩ := isM_of h
  have hr : ∀ r ∈ M, rowP 4 (textR r) = some r ∧ 32 ∉ TL.tl (textR r) := fun r m => by
    refine rowP_textR (fun e => ?_) (k.ent r m) k.r4 k.s4
    have := k.row r m
    have h2 := k.s2
    rw [e] at this
    have this : 0 = S := this
    omega
  have hn : M ≠ [] := fun e => by
    have := k.len
    have h1 := k.r1
    rw [e] at this
    have this : 0 = R := this
    omega
  have e : machP 4 (textM M) = some M := by
    unfold machP textM
    rw [TL.split_join blank_tl (by decide +kernel) (fun z => hn (List.map_eq_nil_iff.mp z)) fun p m => by
      obtain ⟨r, mr, rfl⟩ := List.mem_map.mp m
      exact (hr r mr).2]
    refine allS_some ?_
    rw [List.map_map]
    exact List.map_congr_left fun r mr => (hr r mr).1
  unfold machL
  rw [e]
  show (if isM M = true then some M else none) = some M
  rw [if_pos h]
theorem textM_len {M : GM} (h : isM M = true) : (textM M).length ≤ 68 := by
  obtain ⟨R, S, k⟩ := isM_of h
  have z := join_len_le " " (M.map textR) (k := 16) fun x m => by
    obtain ⟨r, mr, rfl⟩ := List.mem_map.mp m
    exact textR_le (k.ent r mr) k.s4 (by rw [k.row r mr]; exact k.s4)
  rw [List.length_map, blank_len] at z
  have : M.length * (16 + 1) ≤ 4 * 17 := Nat.mul_le_mul (by rw [k.len]; exact k.r4) (Nat.le_refl 17)
  show (Txt.join " " _).length ≤ 68
  omega
/-! ### a tuple the other way round -/
theorem revAdj (n : Nat) : Builtin.Slice.sliceAdjust none none (-1) (n : Int) = ((n : Int) - 1, -1) := rfl
theorem revPlaces (n : Nat) : Builtin.Slice.slicePlaces ((n : Int) - 1) (-1) (-1) = n := by
  unfold Builtin.Slice.slicePlaces
  rw [if_neg (by decide)]
  by_cases h : (n : Int) - 1 > -1
  · rw [if_pos h, show (- -1 : Int) = 1 from rfl, Int.ediv_one]; omega
  · rw [if_neg h]; omega
theorem fm_all {α β : Type} {f : α → Option β} {g : α → β} : ∀ {l : List α}, (∀ x ∈ l, f x = some (g x)) → l.filterMap f = l.map g
  | [], _ => rfl
  | x :: l, h => by
    rw [List.filterMap_cons, h x (List.mem_cons_self ..)]
    show g x :: l.filterMap f = _
    rw [fm_all fun y hy => h y (List.mem_cons_of_mem _ hy)]; rfl
theorem revPick (zs : List Value) : ((List.range zs.length).filterMap fun (k : Nat) => zs.toArray[((zs.length : Int) - 1 + (k : Int) * -1).toNat]?) = zs.reverse := by
  refine List.ext_getElem? fun i => ?_
  have e : ∀ k ∈ List.range zs.length, zs.toArray[((zs.length : Int) - 1 + (k : Int) * -1).toNat]? = some ((zs.reverse[k]?).getD .none) := fun k hk => by
    have hk := List.mem_range.mp hk
    rw [List.getElem?_toArray, List.getElem?_reverse hk, show ((zs.length : Int) - 1 + (k : Int) * -1).toNat = zs.length - 1 - k by omega, List.getElem?_eq_getElem (by omega)]
    rfl
  rw [fm_all e, List.getElem?_map]
  by_cases hi : i < zs.length
  · rw [List.getElem?_range hi, List.getElem?_reverse hi, List.getElem?_eq_getElem (by omega)]
    show some ((zs.reverse[i]?).getD .none) = _
    rw [List.getElem?_reverse hi, List.getElem?_eq_getElem (by omega)]
    rfl
  · rw [List.getElem?_eq_none (by rw [List.length_range]; omega), List.getElem?_eq_none (by rw [List.length_reverse]; omega)]
    rfl
section
open PySem.Spec PyProof.Rows HT
variable {prog : Program} {w : World} {A : Around} {E : Value → Shared → Prop} {s : Shared}
theorem revApplied {sl : Addr} {u : Tok} {n : Nat} {Q : Int × Int × Nat → Shared → Prop} (hs : s.heap.IsSliceOf sl .none .none (.int (-1) u)) (h : Q ((n : Int) - 1, -1, n) s) :
    wpAny (model prog w) A (Builtin.Slice.sliceApplied (.ref sl) (pure (n : Int))) Q E s := by
  obtain ⟨ob, k1, k2, k3⟩ := id hs
  unfold Builtin.Slice.sliceApplied Builtin.Slice.sliceFields
  refine wpAny_bind (wpAny_bind (wpAny_field k1 k3 (x := .none) rfl (wpAny_bind (wpAny_field k1 k3 (x := .none) rfl (wpAny_bind (wpAny_field k1 k3 (x := .int (-1) u) rfl (wpAny_pure ?_)))))))
  refine wpAny_bind (slicePart_int ?_)
  show wpAny _ _ (if ((-1 : Int) == 0) = true then _ else _) _ _ s
  rw [if_neg (by decide)]
  refine wpAny_bind (slicePart_none (wpAny_bind (slicePart_none (wpAny_bind (wpAny_pure ?_)))))
  show wpAny _ _ (match Builtin.Slice.sliceAdjust none none (-1) (n : Int) with | (lo, hi) => pure (lo, (-1 : Int), Builtin.Slice.slicePlaces lo hi (-1))) _ _ s
  rw [revAdj]
  show wpAny _ _ (pure ((n : Int) - 1, (-1 : Int), Builtin.Slice.slicePlaces ((n : Int) - 1) (-1) (-1))) _ _ s
  rw [revPlaces]
  exact wpAny_pure h
theorem revItem {t sl : Addr} {zs : List Value} {u : Tok} {Q : Value → Shared → Prop} (ht : IsTup s.heap t zs.toArray) (hs : s.heap.IsSliceOf sl .none .none (.int (-1) u))
    (h : Q (.ref s.heap.objs.size) { s with heap := s.heap.push { cls := .type "tuple", data := .seq zs.reverse.toArray } }) (hz : zs.length ≤ sizeLine) : wpAny (model prog w) A (getItem (.ref t) (.ref sl)) Q E s := by
  have fits : sizeOk (.seq zs.reverse.toArray) := by
    show zs.reverse.toArray.size ≤ sizeLine
    rw [List.size_toArray, List.length_reverse]; exact hz
  obtain ⟨ob, k1, k2, k3⟩ := id hs
  unfold getItem
  try with_reducible refine wpAny_holding ?_
  first | refine wpAny_bind (wpAny_pure ?_) | skip
  refine wpAny_bind (wpAny_sequenceKey ht.typeIs (by decide) (wpAny_bind (wpAny_callSpecial?_slot (name := Str.ofString "__getitem__") ht.typeIs PyProof.Rows.slot_tuple_getitem
    (wpAny_call_entry PyProof.Rows.slot_tuple_getitem ht.typeIs entry_tuple_getitem ?_ (args_tuple_getitem _ _)))))
  show wpAny _ _ (Builtin.Tuple.tupleItemsOf (.ref t) >>= _) _ _ s
  refine wpAny_bind (tupleItemsOf_ ht (wpAny_bind (wpAny_typeOf (v := .ref sl) ⟨ob, k1, k2⟩ ?_)))
  rw [if_pos (by decide)]
  refine wpAny_bind (revApplied (n := zs.toArray.size) hs ?_)
  have off : ¬ (((zs.toArray.size : Int) - 1 == 0 && (-1 : Int) == 1 && zs.toArray.size == zs.toArray.size) = true) := by
    rw [show ((-1 : Int) == 1) = false from rfl, Bool.and_false, Bool.false_and]
    exact Bool.false_ne_true
  show wpAny _ _ (if ((zs.toArray.size : Int) - 1 == 0 && (-1 : Int) == 1 && zs.toArray.size == zs.toArray.size) = true then _ else _) _ _ s
  rw [if_neg off]
  rw [List.size_toArray, revPick]
  first
    | exact wpAny_bind (m := Builtin.Tuple.tupleExact _) (wpAny_newObj_type (wpAny_pure ⟨_, rfl, wpAny_pure h⟩) fits)
    | exact wpAny_bind (m := Builtin.Tuple.tupleExact _) (wpAny_newObj_type (wpAny_bind (wpAny_pure (wpAny_pure ⟨_, rfl, wpAny_pure h⟩))) fits)
    | exact wpAny_bind (wpAny_bind (m := Builtin.Tuple.tupleExact _) (wpAny_newObj_type (wpAny_pure (wpAny_pure ⟨_, rfl, wpAny_pure h⟩)) fits))
    | exact wpAny_bind (wpAny_bind (m := Builtin.Tuple.tupleExact _) (wpAny_newObj_type (wpAny_pure ⟨_, rfl, wpAny_pure h⟩) fits))
end
section
open PySem.Spec PyProof.Rows
variable {X : Cx}
def tRevT (K : PySem.W.Frag) (te : TE) : TE := fun σ H Q => te σ H fun x G => ∃ a xs, x = .ref a ∧ SqT K G a xs ∧ ∀ p, G p = none → Q (.ref p) (upd G p (.tup xs.reverse))
theorem pe_revT {e : PySem.Expr} {te : TE} {k : Nat} {p1 p2 p3 pos : Pos} (he : PE X e te) : PE X (.Subscript e (.Slice none none (some (.UnaryOp .USub (.Constant (.int 1) k p1) p2)) p3) pos) (tRevT X.K te) := by
  refine ⟨fun pins s σ H Q I h => Subscript_ (thn (he.run pins s σ H _ I h) fun v s1 ⟨x, G, J, r, q⟩ => ?_)⟩
  obtain ⟨a, xs, ex, hx, q⟩ := q
  subst ex
  cases r
  have step : PO X (some (.UnaryOp .USub (.Constant (.int 1) k p1) p2)) (tPart (tUn (rU fun i => .int (-i)) (tC (.int 1)))) := po_some (pe_un un_neg pe_int)
  refine wpAny_Slice (thn (po_none.run pins s1 σ G (fun o G' => o = none ∧ G' = G) J ⟨rfl, rfl⟩) fun u1 s2 ⟨o1, G1, J1, i1, e1, f1⟩ => ?_)
  subst e1 f1
  refine thn (po_none.run pins s2 σ G1 (fun o G' => o = none ∧ G' = G1) J1 ⟨rfl, rfl⟩) fun u2 s3 ⟨o2, G2, J2, i2, e2, f2⟩ => ?_
  subst e2 f2
  refine thn (step.run pins s3 σ G2 (fun o G' => o = some (-1) ∧ G' = G2) J2 ⟨1, rfl, -1, rfl, rfl, rfl⟩) fun u3 s4 ⟨o3, G3, J3, i3, e3, f3⟩ => ?_
  subst e3 f3
  cases i1
  cases i2
  cases i3 with
  | int _ tk =>
    have J5 : Inv X pins σ G3 { s4 with heap := s4.heap.push { cls := .type "slice", data := .fields #[.none, .none, .int (-1) tk] } } := J3.kept (t' := s4.toks) fun b ob z => Heap.get?_push_of_some _ z
    obtain ⟨its, r, ht, hz⟩ := J5.tuple hx
    have hlen := r.length
    show wpAny (model X.prog X.w) X.A (subscriptTail e (.Slice none none (some (.UnaryOp .USub (.Constant (.int 1) k p1) p2)) p3) (.ref a) (.ref s4.heap.objs.size)) (EP X pins σ Q) X.xe { s4 with heap := s4.heap.push { cls := .type "slice", data := .fields #[.none, .none, .int (-1) tk] } }
    refine tail_any (ops := [.ref a, .ref s4.heap.objs.size]) ht.typeIs (PyProof.Rows.slot_tuple_getitem.lookup) ?_ (by with_unfolding_all rfl)
    refine revItem ht (Heap.IsSliceOf.new _ _ _ _) ?_ (by omega)
    refine ⟨.ref _, _, J5.laid (t' := s4.toks) (o := .tup xs.reverse) (fun b ob z => Heap.get?_push_of_some _ z) (Nat.le_refl _) ?_, rfl, q _ (J5.hok.fresh (Nat.le_refl _))⟩
    exact ⟨by rw [List.length_reverse]; exact hz, _, r.reverse, IsTup.new _ _⟩
end
/-! ### machines drawn: lists that may be changed yet -/
structure MaO (H F1 H1 : Hp) (m : Addr) (rs : List Addr) (ess : List (List V)) (M : Mach) : Prop where
  ow : Ow H F1 H1 m (.lst (rs.map V.ref))
  nd : rs.Nodup
  ne : m ∉ rs
  len : rs.length = ess.length
  rows : ∀ (i : Nat) r es, rs[i]? = some r → ess[i]? = some es → Ow H F1 H1 r (.lst es)
  dat : All2 (fun es row => IsAll F1 es row) ess M
section
variable {mu mu' : Addr → Prop} {H F F1 H1 F2 H2 : Hp} {m : Addr} {rs : List Addr} {ess : List (List V)} {M : Mach}
theorem MaO.row (x : MaO H F1 H1 m rs ess M) {r : Addr} (h : r ∈ rs) : ∃ es, Ow H F1 H1 r (.lst es) := by
  obtain ⟨i, hi⟩ := List.getElem?_of_mem h
  have l := (List.getElem?_eq_some_iff.mp hi).1
  exact ⟨ess[i]'(by rw [← x.len]; exact l), x.rows i r _ hi (List.getElem?_eq_getElem _)⟩
theorem MaO.gr (x : MaO H F1 H1 m rs ess M) (g : Gr mu F1 H1 F2 H2) (k : ∀ c, mu c → c ≠ m ∧ c ∉ rs) : MaO H F2 H2 m rs ess M where
  ow := x.ow.call g fun z => (k m z).1 rfl
  nd := x.nd
  ne := x.ne
  len := x.len
  rows := fun i r es h1 h2 => (x.rows i r es h1 h2).call g fun z => (k r z).2 (List.mem_of_getElem? h1)
  dat := x.dat.imp fun es row z => z.up g.ff
theorem MaO.off (x : MaO H F1 H1 m rs ess M) {p : Addr} {o : HO} (h : H p = some o) : ∀ c, muP p c → c ≠ m ∧ c ∉ rs := fun c e => by
  rw [show c = p from e]
  refine ⟨fun z => ?_, fun z => ?_⟩
  · rw [z, x.ow.n] at h; cases h
  · obtain ⟨es, w⟩ := x.row z
    rw [w.n] at h; cases h
theorem MaO.offn (x : MaO H F1 H1 m rs ess M) {p : Addr} (h : H1 p = none) : p ≠ m ∧ p ∉ rs := by
  refine ⟨fun z => ?_, fun z => ?_⟩
  · rw [z, x.ow.h] at h; cases h
  · obtain ⟨es, w⟩ := x.row z
    rw [w.h] at h; cases h
/-- a row that is done comes in -/
theorem MaO.add (x : MaO H F1 H1 m rs ess M) {r : Addr} {es : List V} {row : List Ent} (w : Ow H F1 H1 r (.lst es)) (k : r ≠ m ∧ r ∉ rs) (d : IsAll F1 es row) : MaO H F1 (upd H1 m (.lst ((rs ++ [r]).map V.ref))) m (rs ++ [r]) (ess ++ [es]) (M ++ [row]) where
  ow := x.ow.set
  nd := nd_snoc x.nd k.2
  ne := fun z => by
    rcases List.mem_append.mp z with z | z
    · exact x.ne z
    · exact k.1 (List.mem_singleton.mp z).symm
  len := by rw [List.length_append, List.length_append, x.len]; rfl
  rows := fun i r' es' h1 h2 => by
    by_cases l : i < rs.length
    · rw [List.getElem?_append_left l] at h1
      rw [List.getElem?_append_left (by rw [← x.len]; exact l)] at h2
      exact (x.rows i r' es' h1 h2).other fun z => x.ne (by rw [← z]; exact List.mem_of_getElem? h1)
    · rw [List.getElem?_append_right (by omega)] at h1
      rw [List.getElem?_append_right (by rw [← x.len]; omega), ← x.len] at h2
      cases e : i - rs.length with
      | zero =>
        rw [e] at h1 h2
        cases h1; cases h2
        exact w.other k.1
      | succ n => rw [e] at h1; cases h1
  dat := x.dat.app (All2.one d)
/-- an entry of it is changed -/
theorem MaO.put (x : MaO H F1 H1 m rs ess M) {i j : Nat} {r : Addr} {es : List V} {row : List Ent} {v : V} {e : Ent} (hr : rs[i]? = some r) (hes : ess[i]? = some es) (hrow : M[i]? = some row) (hv : Is F1 v e) :
    MaO H F1 (upd H1 r (.lst (es.set j v))) m rs (ess.set i (es.set j v)) (M.set i (row.set j e)) where
  ow := x.ow.other fun z => x.ne (by rw [z]; exact List.mem_of_getElem? hr)
  nd := x.nd
  ne := x.ne
  len := by rw [List.length_set]; exact x.len
  rows := fun i' r' es' h1 h2 => by
    by_cases e : i = i'
    · subst e
      rw [hr] at h1
      cases h1
      rw [List.getElem?_set_self (List.getElem?_eq_some_iff.mp hes).1] at h2
      cases h2
      exact (x.rows i r es hr hes).set
    · rw [List.getElem?_set_ne e] at h2
      exact (x.rows i' r' es' h1 h2).other fun z => e (nd_ix x.nd hr (by rw [← z]; exact h1))
  dat := x.dat.set ((x.dat.2 i es row hes hrow).set hv j) i
/-- it is changed no more -/
theorem MaO.frz (x : MaO H F1 H1 m rs ess M) (g : Gr mu F H F1 H1) : ∃ F2, Gr mu F H F2 H1 ∧ Same F1 F2 ∧ Is F2 (.ref m) M ∧ (∀ c, c ≠ m → c ∉ rs → F2 c = F1 c) ∧ ∀ c, c = m ∨ c ∈ rs → F2 c = H1 c := by
  have own : ∀ c, (c = m ∨ c ∈ rs) → H c = none ∧ F1 c = none ∧ ∃ o, H1 c = some o := fun c h => by
    rcases h with rfl | h
    · exact ⟨x.ow.n, x.ow.f, _, x.ow.h⟩
    · obtain ⟨es, w⟩ := x.row h
      exact ⟨w.n, w.f, _, w.h⟩
  have s : Same F1 (fun c => if c = m ∨ c ∈ rs then H1 c else F1 c) := fun c o h => by
    by_cases e : c = m ∨ c ∈ rs
    · rw [(own c e).2.1] at h; cases h
    · simp only [e, if_false]; exact h
  refine ⟨fun c => if c = m ∨ c ∈ rs then H1 c else F1 c, ⟨fun c o h => s c o (g.ff c o h), fun c o h => ?_, fun c o h => ?_, g.fr, g.th⟩, s, ⟨m, rs.map V.ref, rfl, ?_, by rw [List.length_map, x.len]; exact x.dat.1, fun i v row h1 h2 => ?_⟩, fun c h1 h2 => if_neg fun z => z.elim h1 h2, fun c h => if_pos h⟩
  · by_cases e : c = m ∨ c ∈ rs
    · simp only [e, if_true] at h; exact h
    · simp only [e, if_false] at h; exact g.fh c o h
  · by_cases e : c = m ∨ c ∈ rs
    · exact .inr (own c e).1
    · simp only [e, if_false] at h; exact g.nw c o h
  · show (if m = m ∨ m ∈ rs then H1 m else F1 m) = _
    rw [if_pos (.inl rfl)]; exact x.ow.h
  · rw [List.getElem?_map] at h1
    cases hr : rs[i]? with
    | none => rw [hr] at h1; cases h1
    | some r =>
      rw [hr] at h1
      cases h1
      obtain ⟨es, hes, hd⟩ := x.dat.get h2
      refine ⟨r, es, rfl, ?_, hd.up s⟩
      show (if r = m ∨ r ∈ rs then H1 r else F1 r) = _
      rw [if_pos (.inr (List.mem_of_getElem? hr))]
      exact (x.rows i r es hr hes).h
/-- it may be changed again -/
theorem MaO.thaw {F0 F3 G : Hp} (s0 : Same F0 H) (x : MaO H F1 H1 m rs ess M) (s : Same F1 F2) (on : ∀ c, c = m ∨ c ∈ rs → F2 c = H1 c) (s' : Same F2 F3) (g : Gr mu F0 H F3 G) : ∃ F', Gr mu F0 H F' G ∧ Same F1 F' ∧ MaO H F' G m rs ess M := by
  have own : ∀ c, (c = m ∨ c ∈ rs) → H c = none ∧ F1 c = none ∧ ∀ o, H1 c = some o → G c = some o := fun c h => by
    have k : ∀ o, H1 c = some o → G c = some o := fun o e => g.fh _ _ (s' _ _ ((on c h).trans e))
    rcases id h with rfl | h
    · exact ⟨x.ow.n, x.ow.f, k⟩
    · obtain ⟨es, w⟩ := x.row h
      exact ⟨w.n, w.f, k⟩
  have sa : Same F1 (fun c => if c = m ∨ c ∈ rs then none else F3 c) := fun c o h => by
    by_cases e : c = m ∨ c ∈ rs
    · rw [(own c e).2.1] at h; cases h
    · simp only [e, if_false]; exact s' _ _ (s _ _ h)
  have sb : Same (fun c => if c = m ∨ c ∈ rs then none else F3 c) F3 := fun c o h => by
    by_cases e : c = m ∨ c ∈ rs
    · simp only [e, if_true] at h; cases h
    · simp only [e, if_false] at h; exact h
  have no : ∀ c, (c = m ∨ c ∈ rs) → (fun c => if c = m ∨ c ∈ rs then none else F3 c) c = none := fun c e => if_pos e
  refine ⟨fun c => if c = m ∨ c ∈ rs then none else F3 c, ⟨fun c o h => ?_, fun c o h => g.fh _ _ (sb _ _ h), fun c o h => g.nw _ _ (sb _ _ h), g.fr, g.th⟩, sa, ⟨⟨x.ow.n, no _ (.inl rfl), (own _ (.inl rfl)).2.2 _ x.ow.h⟩, x.nd, x.ne, x.len, fun i r es h1 h2 => ?_, x.dat.imp fun es row z => z.up sa⟩⟩
  · by_cases e : c = m ∨ c ∈ rs
    · have z := s0 c o h
      rw [(own c e).1] at z; cases z
    · simp only [e, if_false]; exact g.ff c o h
  · have w := x.rows i r es h1 h2
    have m' : r = m ∨ r ∈ rs := .inr (List.mem_of_getElem? h1)
    exact ⟨w.n, no _ m', (own _ m').2.2 _ w.h⟩
theorem MaO.at (x : MaO H F1 H1 m rs ess M) {i : Nat} {row : List Ent} (h : M[i]? = some row) : ∃ r es, rs[i]? = some r ∧ ess[i]? = some es ∧ Ow H F1 H1 r (.lst es) ∧ IsAll F1 es row := by
  obtain ⟨es, hes, al⟩ := x.dat.get h
  have l : i < rs.length := by rw [x.len]; exact (List.getElem?_eq_some_iff.mp hes).1
  exact ⟨_, es, List.getElem?_eq_getElem l, hes, x.rows i _ es (List.getElem?_eq_getElem l) hes, al⟩
end
theorem ixN_of {n : Nat} {k : Int} (h0 : 0 ≤ k) (h1 : k < n) : ixN n k = some k.toNat := by
  unfold ixN
  rw [if_pos h0, if_pos h1]
theorem Gr.pf {mu : Addr → Prop} {F H F1 H1 : Hp} {p : Addr} {o : HO} (g : Gr mu F H F1 H1) (f : F p = none) (h : H p = some o) : F1 p = none := by
  cases e : F1 p with
  | none => rfl
  | some z =>
    rcases g.nw p z e with k | k
    · rw [f] at k; cases k
    · rw [h] at k; cases k
/-- a draw: the purse alone is another one -/
theorem Gr.drw {F H F1 H1 : Hp} {p : Addr} {o : HO} {a b : Int} (g : Gr (muP p) F H F1 H1) (f : F p = none) (h : H p = some o) : Gr (muP p) F H F1 (upd H1 p (PurseO a b)) ∧ Gr (muP p) F1 H1 F1 (upd H1 p (PurseO a b)) :=
  ⟨g.set (g.pf f h) (.inr rfl), (Gr.refl g.fh).set (g.pf f h) (.inr rfl)⟩
theorem MOk.set {M : Mach} {R S i j : Nat} {row : List Ent} {e : Ent} (h : MOk M R S) (hr : M[i]? = some row) (he : EOk R S e) : MOk (M.set i (row.set j e)) R S := by
  have mr := List.mem_of_getElem? hr
  refine ⟨h.r1, h.r4, h.s2, h.s4, by rw [List.length_set]; exact h.len, fun r z => ?_, fun r z e' z' => ?_⟩
  · rcases List.mem_or_eq_of_mem_set z with z | rfl
    · exact h.row r z
    · rw [List.length_set]; exact h.row row mr
  · rcases List.mem_or_eq_of_mem_set z with z | rfl
    · exact h.ent r z e' z'
    · rcases List.mem_or_eq_of_mem_set z' with z' | rfl
      · exact h.ent row mr e' z'
      · exact he
def sp_L_machine : Sp := fun vs H Q _ => ∃ (F : Hp) (p : Addr) (a b : Int), vs = [.ref p] ∧ Same F H ∧ F p = none ∧ H p = some (PurseO a b) ∧ 0 ≤ a ∧ 0 ≤ b ∧
  ∀ (F' H' : Hp) (m : Addr) (rs : List Addr) (ess : List (List V)) (M : Mach) (R S : Nat) (a' b' : Int), Gr (muP p) F H F' H' → H' p = some (PurseO a' b') → 0 ≤ a' → 0 ≤ b' → MOk M R S → MaO H F' H' m rs ess M → Q (.ref m) H'
theorem ok_L_machine (t : Tx K mg) : FnOk P w K mg base CX0 2 t.a_L_machine t.fd_L_machine ["_law_purse_here"] sp_L_machine := by
  refine t.F_L_machine.ok sc_L_machine (fun vs H Q E h => ?_) (fun cdv A outer s H vs Q E hr h => ?_)
  · obtain ⟨F, p, a, b, rfl, _⟩ := h
    rfl
  · obtain ⟨F, p, a, b, rfl, sF, fp, hp, ha, hb, q⟩ := h
    refine ⟨_, (pss_cons (ps_set (i := 1) sc_L_machine.nd rfl (by first | exact Or.inl rfl | exact Or.inr rfl) (pe_op op_add pe_int (pe_call (ok_L_draw t) (hr.mono (by decide)) (by rfl) t.m_L_draw t.F_L_draw.kp t.b_L_draw .nil pass0 (pa_cons (pv 0) (pa_cons pe_int pa_nil)))))
      (pss_cons (ps_set (i := 2) sc_L_machine.nd rfl (by first | exact Or.inl rfl | exact Or.inr rfl) (pe_op op_add pe_int (pe_call (ok_L_draw t) (hr.mono (by decide)) (by rfl) t.m_L_draw t.F_L_draw.kp t.b_L_draw .nil pass0 (pa_cons (pv 0) (pa_cons pe_int pa_nil)))))
      (pss_cons (ps_set (i := 3) sc_L_machine.nd rfl (by first | exact Or.inl rfl | exact Or.inr rfl) (pe_call (ok_L_draw t) (hr.mono (by decide)) (by rfl) t.m_L_draw t.F_L_draw.kp t.b_L_draw .nil pass0 (pa_cons (pv 0) (pa_cons pe_int pa_nil))))
      (pss_cons (ps_set (i := 4) sc_L_machine.nd rfl (by first | exact Or.inl rfl | exact Or.inr rfl) (pe_lst pa_nil))
      (pss_cons (ps_for PassesOwn.never rfl (pi_range1 (by rfl) t.n_range (pa_cons (pv 1) pa_nil)) (pg_name (i := 5) sc_L_machine.nd rfl (by first | exact Or.inl rfl | exact Or.inr rfl)) (pss_cons (ps_set (i := 6) sc_L_machine.nd rfl (by first | exact Or.inl rfl | exact Or.inr rfl) (pe_lst pa_nil))
      (pss_cons (ps_for PassesOwn.never rfl (pi_range1 (by rfl) t.n_range (pa_cons (pv 2) pa_nil)) (pg_name (i := 7) sc_L_machine.nd rfl (by first | exact Or.inl rfl | exact Or.inr rfl)) (pss_cons (ps_set (i := 8) sc_L_machine.nd rfl (by first | exact Or.inl rfl | exact Or.inr rfl) (pe_tup (pa_cons (pe_call (ok_L_draw t) (hr.mono (by decide)) (by rfl) t.m_L_draw t.F_L_draw.kp t.b_L_draw .nil pass0 (pa_cons (pv 0) (pa_cons (pv 2) pa_nil))) (pa_cons (pe_op op_sub (pe_op op_mul pe_int (pe_call (ok_L_draw t) (hr.mono (by decide)) (by rfl) t.m_L_draw t.F_L_draw.kp t.b_L_draw .nil pass0 (pa_cons (pv 0) (pa_cons pe_int pa_nil)))) pe_int) (pa_cons (pe_call (ok_L_draw t) (hr.mono (by decide)) (by rfl) t.m_L_draw t.F_L_draw.kp t.b_L_draw .nil pass0 (pa_cons (pv 0) (pa_cons (pv 1) pa_nil))) pa_nil)))))
      (pss_cons (ps_if (PW.pt (pw_and (pt_cmpR op_gt (pv 3) pe_int (nomark _)) (pw_and1 (pt_cmpR op_eq (pe_call (ok_L_draw t) (hr.mono (by decide)) (by rfl) t.m_L_draw t.F_L_draw.kp t.b_L_draw .nil pass0 (pa_cons (pv 0) (pa_cons (pe_op op_add pe_int (pe_op op_mul pe_int (pv 3))) pa_nil))) pe_int (nomark _))))) (pss_one (ps_set (i := 8) sc_L_machine.nd rfl (by first | exact Or.inl rfl | exact Or.inr rfl) (pe_tup pa_nil))) pss_nil)
      (pss_one (ps_expr (pe_bm PySem.F.plainAttrs_list PySem.F.slot_list_append PySem.F.type_list_append mt_append (pv 6) (pa_cons (pv 8) pa_nil)))))))
      (pss_one (ps_expr (pe_bm PySem.F.plainAttrs_list PySem.F.slot_list_append PySem.F.type_list_append mt_append (pv 4) (pa_cons (pv 6) pa_nil)))))))
      (pss_cons (ps_if (pt_cmpR op_eq (pv 3) pe_int (nomark _)) (pss_one (ps_asg (pe_tup pa_nil) (pg_sub (pe_ix ix_list (pv 4) (pe_call (ok_L_draw t) (hr.mono (by decide)) (by rfl) t.m_L_draw t.F_L_draw.kp t.b_L_draw .nil pass0 (pa_cons (pv 0) (pa_cons (pv 1) pa_nil))) (fun _ _ => rfl)) (pe_call (ok_L_draw t) (hr.mono (by decide)) (by rfl) t.m_L_draw t.F_L_draw.kp t.b_L_draw .nil pass0 (pa_cons (pv 0) (pa_cons (pv 2) pa_nil))) set_list))) pss_nil)
      (pss_one (ps_ret (pv 4))))))))), ?_⟩
    have g0 : Gr (muP p) F H F H := Gr.refl sF
    -- rows, signs, kind
    refine ⟨_, rfl, p, a, b, 4, rfl, hp, ha, hb, by decide, by decide, fun d1 a1 b1 d10 d11 ha1 hb1 => ⟨_, _, rfl, rfl, ?_⟩⟩
    have g1 := g0.set (o := PurseO a1 b1) fp (.inr rfl)
    refine ⟨_, rfl, p, a1, b1, 3, rfl, upd_same, ha1, hb1, by decide, by decide, fun d2 a2 b2 d20 d21 ha2 hb2 => ⟨_, _, rfl, rfl, ?_⟩⟩
    have g2 := g1.set (o := PurseO a2 b2) fp (.inr rfl)
    refine ⟨_, rfl, p, a2, b2, 4, rfl, upd_same, ha2, hb2, by decide, by decide, fun d3 a3 b3 d30 d31 ha3 hb3 => ?_⟩
    have g3 := g2.set (o := PurseO a3 b3) fp (.inr rfl)
    generalize eH3 : upd (upd (upd H p (PurseO a1 b1)) p (PurseO a2 b2)) p (PurseO a3 b3) = H3 at g3
    have hp3 : H3 p = some (PurseO a3 b3) := by rw [← eH3]; exact upd_same
    have eR : ((1 + d1).toNat : Int) = 1 + d1 := Int.toNat_of_nonneg (by omega)
    have eS : ((2 + d2).toNat : Int) = 2 + d2 := Int.toNat_of_nonneg (by omega)
    generalize hR : (1 + d1).toNat = R at eR
    generalize hS : (2 + d2).toNat = S at eS
    dsimp only
    rw [← eR, ← eS]
    have R4 : R ≤ 4 := by omega
    have R1 : 1 ≤ R := by omega
    have S4 : S ≤ 4 := by omega
    have S2 : 2 ≤ S := by omega
    -- found = []
    refine ⟨nil_le, fun D nD => ?_⟩
    have x0 : MaO H F (upd H3 D (.lst [])) D [] [] [] := ⟨Ow.mk1 g3 nD, List.nodup_nil, (fun z => nomatch z), rfl, fun i r es h _ => (by cases h), All2.nil⟩
    have g4 := g3.own (o := .lst []) nD
    refine ⟨_, rfl, (R : Int), rfl, by omega, by omega, for_range (lo := 0) (n := ((R : Int)).toNat) (fun i σ G => ∃ (F1 : Hp) (rs : List Addr) (ess : List (List V)) (M : Mach) (a b : Int) (v5 v6 v7 v8 : Option V), σ = [some (.ref p), some (.int R), some (.int S), some (.int d3), some (.ref D), v5, v6, v7, v8] ∧
      Gr (muP p) F H F1 G ∧ G p = some (PurseO a b) ∧ 0 ≤ a ∧ 0 ≤ b ∧ MaO H F1 G D rs ess M ∧ M.length = i ∧ ∀ row ∈ M, row.length = S ∧ ∀ e ∈ row, EOk R S e) ⟨F, [], [], [], a3, b3, none, none, none, none, rfl, g4, ?_, ha3, hb3, x0, rfl, fun row z => nomatch z⟩ ?_ ?_⟩
    · rw [upd_ne (ne_of_none hp3 nD)]; exact hp3
    · rintro i σ G hi ⟨F1, rs, ess, M, a, b, v5, v6, v7, v8, rfl, g, hpG, ha, hb, x, hl, hM⟩
      -- row = []
      refine ⟨nil_le, fun r nr => ?_⟩
      have gr := g.own (o := .lst []) nr
      have wr : Ow H F1 (upd G r (.lst [])) r (.lst []) := Ow.mk1 g nr
      have xr := x.gr ((Gr.refl (mu := mu0) g.fh).own (o := .lst []) nr) fun c z => z.elim
      have offr := x.offn nr
      have hpr : (upd G r (.lst [])) p = some (PurseO a b) := by rw [upd_ne (ne_of_none hpG nr)]; exact hpG
      refine ⟨_, rfl, (S : Int), rfl, by omega, by omega, for_range (lo := 0) (n := ((S : Int)).toNat) (fun j σ G => ∃ (F1 : Hp) (es : List V) (row : List Ent) (a b : Int) (v7 v8 : Option V), σ = [some (.ref p), some (.int R), some (.int S), some (.int d3), some (.ref D), some (.int (0 + i)), some (.ref r), v7, v8] ∧
        Gr (muP p) F H F1 G ∧ G p = some (PurseO a b) ∧ 0 ≤ a ∧ 0 ≤ b ∧ MaO H F1 G D rs ess M ∧ Ow H F1 G r (.lst es) ∧ IsAll F1 es row ∧ row.length = j ∧ ∀ e ∈ row, EOk R S e) ⟨F1, [], [], a, b, v7, v8, rfl, gr, hpr, ha, hb, xr, wr, All2.nil, rfl, fun e z => nomatch z⟩ ?_ ?_⟩
      · rintro j σ G hj ⟨F1, es, row, a, b, v7, v8, rfl, g, hpG, ha, hb, x, w, al, hl, hrow⟩
        have wp : r ≠ p := fun z => by rw [z] at w; rw [w.n] at hp; cases hp
        have wD : r ≠ D := offr.1
        -- the entry
        refine ⟨_, rfl, _, rfl, p, a, b, (S : Int), rfl, hpG, ha, hb, by omega, by omega, fun e1 a1 b1 e10 e11 ha1 hb1 => ?_⟩
        obtain ⟨g1, k1⟩ := g.drw (a := a1) (b := b1) fp hp
        refine ⟨_, rfl, p, a1, b1, 2, rfl, upd_same, ha1, hb1, by decide, by decide, fun e2 a2 b2 e20 e21 ha2 hb2 => ⟨_, _, rfl, rfl, .inl ⟨by decide, by decide⟩, _, _, rfl, rfl, ?_⟩⟩
        obtain ⟨g2, k2⟩ := g1.drw (a := a2) (b := b2) fp hp
        refine ⟨_, rfl, _, rfl, p, a2, b2, (R : Int), rfl, upd_same, ha2, hb2, by omega, by omega, fun e3 a3 b3 e30 e31 ha3 hb3 => ⟨three_le, fun q0 nq => ?_⟩⟩
        obtain ⟨g3, k3⟩ := g2.drw (a := a3) (b := b3) fp hp
        have k := (k1.trans k2).trans k3
        have x3 := x.gr k (x.off hp)
        have w3 := w.call k wp
        have hp3 : (upd (upd (upd G p (PurseO a1 b1)) p (PurseO a2 b2)) p (PurseO a3 b3)) p = some (PurseO a3 b3) := upd_same
        generalize upd (upd (upd G p (PurseO a1 b1)) p (PurseO a2 b2)) p (PurseO a3 b3) = G3 at g3 k x3 w3 hp3 nq
        have g4 := g3.new (o := .tup [.int e1, .int (2 * e2 - 1), .int e3]) nq
        have k4 := (Gr.refl (mu := mu0) g3.fh).new (o := .tup [.int e1, .int (2 * e2 - 1), .int e3]) nq
        have x4 := x3.gr k4 fun c z => z.elim
        have w4 := w3.call k4 fun z => z
        have hp4 := k4.fr _ _ hp3 fun z => z
        have ee : Is (upd F1 q0 (.tup [.int e1, .int (2 * e2 - 1), .int e3])) (.ref q0) (Ent.go e1 (2 * e2 - 1) e3) := ⟨q0, rfl, upd_same⟩
        have eo : EOk R S (Ent.go e1 (2 * e2 - 1) e3) := ⟨fun p w r z => by cases z; exact ⟨⟨e10, e11⟩, by omega, e30, e31⟩⟩
        have al4 := al.up k4.ff
        generalize upd F1 q0 (.tup [.int e1, .int (2 * e2 - 1), .int e3]) = F4 at g4 k4 x4 w4 ee al4
        generalize upd G3 q0 (.tup [.int e1, .int (2 * e2 - 1), .int e3]) = G4 at g4 k4 x4 w4 hp4
        -- what is the same in both ways: the entry comes in
        have fin : ∀ (F5 G5 : Hp) (q5 : Addr) (e5 : Ent) (a5 b5 : Int), Gr (muP p) F H F5 G5 → G5 p = some (PurseO a5 b5) → 0 ≤ a5 → 0 ≤ b5 → MaO H F5 G5 D rs ess M → Ow H F5 G5 r (.lst es) → IsAll F5 es row → Is F5 (.ref q5) e5 → EOk R S e5 →
            ∃ (F1 : Hp) (es1 : List V) (row : List Ent) (a b : Int) (v7 v8 : Option V), [some (.ref p), some (.int R), some (.int S), some (.int d3), some (.ref D), some (.int (0 + i)), some (.ref r), some (.int (0 + j)), some (.ref q5)] = [some (.ref p), some (.int R), some (.int S), some (.int d3), some (.ref D), some (.int (0 + i)), some (.ref r), v7, v8] ∧
              Gr (muP p) F H F1 (upd G5 r (.lst (es ++ [.ref q5]))) ∧ (upd G5 r (.lst (es ++ [.ref q5]))) p = some (PurseO a b) ∧ 0 ≤ a ∧ 0 ≤ b ∧ MaO H F1 (upd G5 r (.lst (es ++ [.ref q5]))) D rs ess M ∧ Ow H F1 (upd G5 r (.lst (es ++ [.ref q5]))) r (.lst es1) ∧ IsAll F1 es1 row ∧ row.length = j + 1 ∧ ∀ e ∈ row, EOk R S e := by
          intro F5 G5 q5 e5 a5 b5 g5 hp5 ha5 hb5 x5 w5 al5 ie5 eo5
          refine ⟨F5, es ++ [.ref q5], row ++ [e5], a5, b5, _, _, rfl, g5.set w5.f (.inl w5.n), by rw [upd_ne (Ne.symm wp)]; exact hp5, ha5, hb5, x5.gr (mu := fun c => c = r) ((Gr.refl g5.fh).set w5.f (.inr rfl)) (fun c z => by rw [show c = r from z]; exact offr), w5.set, al5.app (All2.one ie5), by rw [List.length_append, hl]; rfl, fun e z => ?_⟩
          rcases List.mem_append.mp z with z | z
          · exact hrow e z
          · rw [List.mem_singleton.mp z]; exact eo5
        have ll : ∀ G5 F5 : Hp, IsAll F5 es row → es.length < sizeLine := fun _ _ z => by rw [z.1, hl]; exact lt_size (by omega)
        refine ⟨_, rfl, _, _, rfl, rfl, _, rfl, ?_⟩
        refine ite2 (fun c => ?_) (fun c => ?_)
        · refine ⟨_, rfl, _, rfl, _, _, rfl, rfl, .inl ⟨by decide, by decide⟩, _, _, rfl, rfl, p, a3, b3, _, rfl, hp4, ha3, hb3, by omega, by omega, fun e4 a4 b4 e40 e41 ha4 hb4 => ⟨rfl, _, rfl, ?_⟩⟩
          obtain ⟨g5, k5⟩ := g4.drw (a := a4) (b := b4) fp hp
          have x5 := x4.gr k5 (x4.off hp)
          have w5 := w4.call k5 wp
          have al5 := al4.up k5.ff
          have hp5 : (upd G4 p (PurseO a4 b4)) p = some (PurseO a4 b4) := upd_same
          generalize upd G4 p (PurseO a4 b4) = G5 at g5 k5 x5 w5 hp5
          refine ite2 (fun c => ?_) (fun c => ?_)
          · refine ⟨nil_le, fun q2 nq2 => ?_⟩
            have g6 := g5.new (o := .tup []) nq2
            have k6 := (Gr.refl (mu := mu0) g5.fh).new (o := .tup []) nq2
            have x6 := x5.gr k6 fun c z => z.elim
            have w6 := w5.call k6 fun z => z
            refine ⟨_, rfl, .inl ⟨rfl, _, SqL.of w6.h⟩, _, rfl, r, _, _, rfl, rfl, w6.h, ll G5 _ al5, ?_⟩
            exact fin _ _ q2 .emp a4 b4 g6 (k6.fr _ _ hp5 fun z => z) ha4 hb4 x6 w6 (al5.up k6.ff) ⟨q2, rfl, upd_same⟩ ⟨fun p w r z => by cases z⟩
          · refine ⟨_, rfl, .inl ⟨rfl, _, SqL.of w5.h⟩, _, rfl, r, _, _, rfl, rfl, w5.h, ll G5 _ al5, ?_⟩
            exact fin _ _ q0 _ a4 b4 g5 hp5 ha4 hb4 x5 w5 al5 (ee.up k5.ff) eo
        · refine ifF rfl ?_
          refine ⟨_, rfl, .inl ⟨rfl, _, SqL.of w4.h⟩, _, rfl, r, _, _, rfl, rfl, w4.h, ll G4 _ al4, ?_⟩
          exact fin _ _ q0 _ a3 b3 g4 hp4 ha3 hb3 x4 w4 al4 ee eo
      · rintro σ G ⟨F1, es, row, a, b, v7, v8, rfl, g, hpG, ha, hb, x, w, al, hl2, hrow⟩
        have hl2 : row.length = S := by rw [hl2]; exact Int.toNat_natCast S
        refine ⟨_, rfl, .inl ⟨rfl, _, SqL.of x.ow.h⟩, _, rfl, D, _, _, rfl, rfl, x.ow.h, by rw [List.length_map, x.len, x.dat.1, hl]; exact lt_size (by omega), ?_⟩
        have e1 : rs.map V.ref ++ [V.ref r] = (rs ++ [r]).map V.ref := by rw [List.map_append]; rfl
        rw [e1]
        have pD : p ≠ D := fun z => by rw [z] at hp; rw [x.ow.n] at hp; cases hp
        refine ⟨F1, rs ++ [r], ess ++ [es], M ++ [row], a, b, _, _, _, _, rfl, g.set x.ow.f (.inl x.ow.n), by rw [upd_ne pD]; exact hpG, ha, hb, x.add w offr al, by rw [List.length_append, hl]; rfl, fun row' z => ?_⟩
        rcases List.mem_append.mp z with z | z
        · exact hM row' z
        · rw [List.mem_singleton.mp z]; exact ⟨hl2, hrow⟩
    · rintro σ G ⟨F1, rs, ess, M, a, b, v5, v6, v7, v8, rfl, g, hpG, ha, hb, x, hl, hM⟩
      have hl : M.length = R := by rw [hl]; exact Int.toNat_natCast R
      have mok : ∀ M' : Mach, M'.length = R → (∀ row ∈ M', row.length = S ∧ ∀ e ∈ row, EOk R S e) → MOk M' R S := fun M' h1 h2 => ⟨R1, R4, S2, S4, h1, fun r z => (h2 r z).1, fun r z => (h2 r z).2⟩
      refine ⟨_, rfl, rfl, _, rfl, ?_⟩
      refine ite2 (fun c => ?_) (fun c => ?_)
      · refine ⟨nil_le, fun q2 nq2 => ?_⟩
        have g6 := g.new (o := .tup []) nq2
        have k6 := (Gr.refl (mu := mu0) g.fh).new (o := .tup []) nq2
        have x6 := x.gr k6 fun c z => z.elim
        have hp6 := k6.fr _ _ hpG fun z => z
        have i6 : Is (upd F1 q2 (.tup [])) (.ref q2) Ent.emp := ⟨q2, rfl, upd_same⟩
        generalize upd F1 q2 (.tup []) = F6 at g6 k6 x6 i6
        generalize upd G q2 (.tup []) = G6 at g6 k6 x6 hp6
        refine ⟨_, rfl, _, rfl, _, rfl, p, a, b, (R : Int), rfl, hp6, ha, hb, by omega, by omega, fun i1 a1 b1 i10 i11 ha1 hb1 => ?_⟩
        obtain ⟨g7, k7⟩ := g6.drw (a := a1) (b := b1) fp hp
        have x7 := x6.gr k7 (x6.off hp)
        have hi : i1.toNat < rs.length := by rw [x.len, x.dat.1, hl]; omega
        have hrs : rs[i1.toNat]? = some rs[i1.toNat] := List.getElem?_eq_getElem hi
        have hes : ess[i1.toNat]? = some (ess[i1.toNat]'(by rw [← x.len]; exact hi)) := List.getElem?_eq_getElem _
        obtain ⟨row, hrow, al⟩ := x7.dat.get' hes
        have w7 := x7.rows _ _ _ hrs hes
        refine ⟨D, _, i1, _, rfl, rfl, SqL.of x7.ow.h, at_of (Int.toNat_of_nonneg i10).symm (by rw [List.getElem?_map, hrs]; rfl), ?_⟩
        refine ⟨_, rfl, _, rfl, p, a1, b1, (S : Int), rfl, upd_same, ha1, hb1, by omega, by omega, fun i2 a2 b2 i20 i21 ha2 hb2 => ?_⟩
        obtain ⟨g8, k8⟩ := g7.drw (a := a2) (b := b2) fp hp
        have x8 := x7.gr k8 (x7.off hp)
        have w8 := x8.rows _ _ _ hrs hes
        have ml : row ∈ M := List.mem_of_getElem? hrow
        have lr := (hM row ml).1
        refine ⟨_, _, i2, i2.toNat, rfl, rfl, w8.h, ixN_of i20 (by rw [al.1, lr]; exact i21), ?_⟩
        have hp8 : (upd (upd G6 p (PurseO a1 b1)) p (PurseO a2 b2)) p = some (PurseO a2 b2) := upd_same
        generalize upd (upd G6 p (PurseO a1 b1)) p (PurseO a2 b2) = G8 at g8 k8 x8 w8 hp8
        have pr : p ≠ rs[i1.toNat] := fun z => by rw [z] at hp; rw [w8.n] at hp; cases hp
        refine ⟨_, rfl, ?_⟩
        refine q F6 _ D rs _ _ R S a2 b2 (g8.set w8.f (.inl w8.n)) (by rw [upd_ne pr]; exact hp8) ha2 hb2 (mok _ (by rw [List.length_set]; exact hl) fun row' z => ?_) (x8.put (j := i2.toNat) hrs hes hrow i6)
        rcases List.mem_or_eq_of_mem_set z with z | rfl
        · exact hM row' z
        · refine ⟨by rw [List.length_set]; exact lr, fun e z => ?_⟩
          rcases List.mem_or_eq_of_mem_set z with z | rfl
          · exact (hM row ml).2 e z
          · exact ⟨fun p w r z => by cases z⟩
      · exact ⟨_, rfl, q F1 G D rs ess M R S a b g hpG ha hb (mok M hl hM) x⟩
theorem small_str {l : List Str} {k : Nat} (h : l.all (fun x => decide (x.length ≤ k)) = true) : ∀ x ∈ l, x.length ≤ k := fun x m => of_decide_eq_true (List.all_eq_true.mp h x m)
def sp_law (K : PySem.W.Frag) : Sp := fun vs H Q _ => ∃ (a : Addr) (ns : List Int), vs = [.ref a] ∧ SqL K H a (ns.map V.int) ∧ ns.length ≤ 63 ∧ ∀ H', Q (.bl true) H'
theorem ok_law (t : Tx K mg) : FnOk P w K mg base CX0 8 t.a_law t.fd_law ["_law_script"] (sp_law K) := by
  refine t.F_law.ok sc_law (fun vs H Q E h => ?_) (fun cdv A outer s H vs Q E hr h => ?_)
  · obtain ⟨a, ns, rfl, _⟩ := h
    rfl
  · obtain ⟨a, ns, rfl, hS, hn, q⟩ := h
    refine ⟨_, (pss_cons (ps_set (i := 1) sc_law.nd rfl (by first | exact Or.inl rfl | exact Or.inr rfl) (pe_call (ok_L_purse t) (hr.mono (by decide)) (by rfl) t.m_L_purse t.F_L_purse.kp t.b_L_purse .nil pass0 (pa_cons (pv 0) pa_nil)))
      (pss_cons (ps_set (i := 2) sc_law.nd rfl (by first | exact Or.inl rfl | exact Or.inr rfl) (pe_lst (pa_cons pe_str (pa_cons pe_str (pa_cons pe_str (pa_cons pe_str (pa_cons pe_str (pa_cons pe_str (pa_cons pe_str (pa_cons pe_str (pa_cons pe_str (pa_cons pe_str pa_nil))))))))))))
      (pss_cons (ps_for PassesOwn.never rfl (pi_list (pe_op op_cat (pv 2) (pe_lst (pa_cons pe_str pa_nil)))) (pg_name (i := 3) sc_law.nd rfl (by first | exact Or.inl rfl | exact Or.inr rfl)) (pss_one (ps_if (pt_not (pt_val (pe_call (ok_L_right t) (hr.mono (by decide)) (by rfl) t.m_L_right t.F_L_right.kp t.b_L_right .nil pass0 (pa_cons (pv 3) pa_nil)))) (pss_one (ps_ret pe_bl)) pss_nil)))
      (pss_cons (ps_for PassesOwn.never rfl (pi_range1 (by rfl) t.n_range (pa_cons pe_int pa_nil)) (pg_name (i := 4) sc_law.nd rfl (by first | exact Or.inl rfl | exact Or.inr rfl)) (pss_cons (ps_set (i := 5) sc_law.nd rfl (by first | exact Or.inl rfl | exact Or.inr rfl) (pe_call (ok_L_machine t) (hr.mono (by decide)) (by rfl) t.m_L_machine t.F_L_machine.kp t.b_L_machine .nil pass0 (pa_cons (pv 1) pa_nil)))
      (pss_cons (ps_set (i := 3) sc_law.nd rfl (by first | exact Or.inl rfl | exact Or.inr rfl) (pe_call (ok_L_text t) (hr.mono (by decide)) (by rfl) t.m_L_text t.F_L_text.kp t.b_L_text .nil pass0 (pa_cons (pv 5) pa_nil)))
      (pss_cons (ps_if (pt_cmpR (op_neD hr.units) (pe_call (ok_L_machine_of t) (hr.mono (by decide)) (by rfl) t.m_L_machine_of t.F_L_machine_of.kp t.b_L_machine_of .nil pass0 (pa_cons (pv 3) pa_nil)) (pv 5) (nomark _)) (pss_one (ps_ret pe_bl)) pss_nil)
      (pss_one (ps_for PassesOwn.never rfl (pi_range1 (by rfl) t.n_range (pa_cons pe_int pa_nil)) (pg_name (i := 6) sc_law.nd rfl (by first | exact Or.inl rfl | exact Or.inr rfl)) (pss_cons (ps_if (pt_not (pt_val (pe_call (ok_L_right t) (hr.mono (by decide)) (by rfl) t.m_L_right t.F_L_right.kp t.b_L_right .nil pass0 (pa_cons (pv 3) pa_nil)))) (pss_one (ps_ret pe_bl)) pss_nil)
      (pss_one (ps_set (i := 3) sc_law.nd rfl (by first | exact Or.inl rfl | exact Or.inr rfl) (pe_call (ok_L_bent_text t) (hr.mono (by decide)) (by rfl) t.m_L_bent_text t.F_L_bent_text.kp t.b_L_bent_text .nil pass0 (pa_cons (pv 1) (pa_cons (pv 3) (pa_cons pe_str pa_nil)))))))))))))
      (pss_one (ps_ret pe_bl)))))), ?_⟩
    refine ⟨_, rfl, a, ns, rfl, hS, hn, fun a0 b0 p H1 ha0 hb0 s1 np hp1 => ?_⟩
    have g1 : Gr (muP p) H H1 H H1 := Gr.refl s1
    refine ⟨le_size (n := 10) (by decide), fun l1 n1 => ?_⟩
    have hl1 : (upd H1 l1 (.lst [.str "", .str " ", .str ",", .str "---", .str "---,---", .str "--- ---", .str "0RA,", .str "---,--- ", .str "0RB,---", .str "2RA,---"])) l1 = _ := upd_same
    have hp2 := ln (u := .lst [.str "", .str " ", .str ",", .str "---", .str "---,---", .str "--- ---", .str "0RA,", .str "---,--- ", .str "0RB,---", .str "2RA,---"]) n1 hp1
    have g2 := g1.own (o := .lst [.str "", .str " ", .str ",", .str "---", .str "---,---", .str "--- ---", .str "0RA,", .str "---,--- ", .str "0RB,---", .str "2RA,---"]) n1
    generalize upd H1 l1 (.lst [.str "", .str " ", .str ",", .str "---", .str "---,---", .str "--- ---", .str "0RA,", .str "---,--- ", .str "0RB,---", .str "2RA,---"]) = H2 at hl1 hp2 g2 ⊢
    refine ⟨_, rfl, one_le, fun l2 n2 => ?_⟩
    have hl2 : (upd H2 l2 (.lst [.str "0RA,0RA,0RA,0RA,0RA"])) l2 = _ := upd_same
    have hl3 := ln (u := .lst [.str "0RA,0RA,0RA,0RA,0RA"]) n2 hl1
    have hp3 := ln (u := .lst [.str "0RA,0RA,0RA,0RA,0RA"]) n2 hp2
    have g3 := g2.own (o := .lst [.str "0RA,0RA,0RA,0RA,0RA"]) n2
    generalize upd H2 l2 (.lst [.str "0RA,0RA,0RA,0RA,0RA"]) = H3 at hl2 hl3 hp3 g3 ⊢
    refine ⟨l1, l2, _, _, rfl, rfl, hl3, hl2, le_size (n := 11) (by decide), fun l3 n3 => ?_⟩
    obtain ⟨ws, ews, hws⟩ : ∃ ws : List Str, ([V.str "", .str " ", .str ",", .str "---", .str "---,---", .str "--- ---", .str "0RA,", .str "---,--- ", .str "0RB,---", .str "2RA,---"] ++ [V.str "0RA,0RA,0RA,0RA,0RA"] : List V) = ws.map V.str ∧ ∀ x ∈ ws, x.length ≤ 20 :=
      ⟨["", " ", ",", "---", "---,---", "--- ---", "0RA,", "---,--- ", "0RB,---", "2RA,---", "0RA,0RA,0RA,0RA,0RA"], rfl, small_str (by decide +kernel)⟩
    rw [ews]
    have g4 := g3.new (o := .lst (ws.map V.str)) n3
    have hF : (upd H l3 (.lst (ws.map V.str))) l3 = _ := upd_same
    have hp4 := ln (u := .lst (ws.map V.str)) n3 hp3
    generalize upd H l3 (.lst (ws.map V.str)) = FA at g4 hF
    generalize upd H3 l3 (.lst (ws.map V.str)) = H4 at g4 hp4 ⊢
    refine ⟨l3, rfl, ⟨_, SqL.of (g4.fh _ _ hF)⟩, for_list (K := K) (a := l3) (xs := ws.map V.str) (fun i σ G => ∃ (F : Hp) (v3 : Option V), σ = [some (.ref a), some (.ref p), some (.ref l1), v3, none, none, none] ∧ Gr (muP p) H H1 F G ∧ Same FA F ∧ G p = some (PurseO a0 b0)) ⟨FA, none, rfl, g4, Same.refl FA, hp4⟩ (fun i σ G _ ⟨F, _, _, g, s, _⟩ => SqL.of (g.fh _ _ (s _ _ hF))) ?_ ?_⟩
    · rintro i y σ G hi ⟨F, v3, rfl, g, s, hpG⟩
      obtain ⟨x, hx, rfl⟩ : ∃ x, ws[i]? = some x ∧ V.str x = y := by
        rw [List.getElem?_map] at hi
        exact Option.map_eq_some_iff.mp hi
      have lx := hws x (List.mem_of_getElem? hx)
      refine ⟨_, rfl, F, x, rfl, g.fh, by omega, fun F' G' g' => ⟨_, rfl, ifF rfl ?_⟩⟩
      exact ⟨F', _, rfl, g.trans g'.of0, fun c o h => g'.ff _ _ (s _ _ h), g'.fr _ _ hpG (fun z => z)⟩
    rintro σ G ⟨F, v3, rfl, g, s, hpG⟩
    refine ⟨5, rfl, by decide, by decide, for_range (lo := 0) (n := 5) (fun i σ G => ∃ (F : Hp) (u z : Int) (v3 v4 v5 v6 : Option V), σ = [some (.ref a), some (.ref p), some (.ref l1), v3, v4, v5, v6] ∧ Gr (muP p) H H1 F G ∧ G p = some (PurseO u z) ∧ 0 ≤ u ∧ 0 ≤ z) ⟨F, a0, b0, _, _, _, _, rfl, g, hpG, ha0, hb0⟩ ?_ ?_⟩
    · rintro k σ GZ hk ⟨FZ0, uZ, zZ, v3, v4, v5, v6, rfl, gZ, hpZ, huZ, hzZ⟩
      refine ⟨_, rfl, FZ0, p, uZ, zZ, rfl, gZ.fh, gZ.pf np hp1, hpZ, huZ, hzZ, fun F2 H2 m rs ess M R S a1 b1 g2 hp2 ha1 hb1 hM x => ?_⟩
      obtain ⟨FX, g3, _, hm, _, _⟩ := x.frz g2
      have t3 := gZ.trans g3
      have hg := gm_is hm
      have hI := isM_gm hM
      refine ⟨_, rfl, FX, .ref m, gm M, rfl, t3.fh, hg, hI, fun H4 k4 => ?_⟩
      have t4 := t3.trans k4.of0
      have hp4 := k4.fr _ _ hp2 (fun z => z)
      have lx := textM_len hI
      refine ⟨_, rfl, FX, textM (gm M), rfl, t4.fh, by omega, fun F5 H5 v k5 hv => ⟨_, rfl, ?_⟩⟩
      rw [machL_textM hI] at hv
      have t5 := t4.trans k5.of0
      have hp5 := k5.fr _ _ hp4 (fun z => z)
      refine ne_dat (a := gm M) (b := gm M) (Is.up (show Is F5 v (gm M) from hv) t5.fh) (Is.up (Is.up hg k5.ff) t5.fh) ⟨_, rfl, ifF (by rw [decide_eq_true rfl]; rfl) ?_⟩
      refine ⟨4, rfl, by decide, by decide, for_range (lo := 0) (n := 4) (fun i σ G => ∃ (F : Hp) (y : Str) (u z : Int) (v6 : Option V), σ = [some (.ref a), some (.ref p), some (.ref l1), some (.str y), some (.int (0 + (k : Int))), some (.ref m), v6] ∧ Gr (muP p) H H1 F G ∧ G p = some (PurseO u z) ∧ 0 ≤ u ∧ 0 ≤ z ∧ y.length + 2 ≤ 70 * 4 ^ i) ⟨F5, textM (gm M), a1, b1, _, rfl, t5, hp5, ha1, hb1, by rw [Nat.pow_zero]; omega⟩ ?_ ?_⟩
      · rintro i σ G hi ⟨F, y, u, z, v6, rfl, g, hpG, hu, hz, hl⟩
        have p4 : 4 ^ i ≤ 4 ^ 3 := Nat.pow_le_pow_right (by decide) (by omega)
        have p4 : 4 ^ i ≤ 64 := p4
        refine ⟨_, rfl, F, y, rfl, g.fh, by omega, fun F6 H6 k6 => ⟨_, rfl, ifF rfl ?_⟩⟩
        have t6 := g.trans k6.of0
        have hp6 := k6.fr _ _ hpG (fun z => z)
        refine ⟨_, rfl, _, rfl, F6, p, u, z, y, _, rfl, t6.fh, t6.pf np hp1, hp6, hu, hz, by omega, by decide +kernel, by decide +kernel, fun H7 x' a' b' g7 hp7 ha' hb' hl' => ?_⟩
        exact ⟨F6, x', a', b', _, rfl, t6.trans g7, hp7, ha', hb', by rw [Nat.pow_succ]; omega⟩
      · rintro σ G ⟨F, y, u, z, v6, rfl, g, hpG, hu, hz, _⟩
        exact ⟨F, u, z, _, _, _, _, rfl, g, hpG, hu, hz⟩
    · rintro σ G ⟨F, u, z, v3, v4, v5, v6, rfl, g, _⟩
      exact q _

end
def all_tx {K : PySem.W.Frag} {h : Heap} {mg : Str → Option Value} {a_L_mixed a_L_purse a_L_draw a_L_machine a_L_entry_text a_L_text a_L_is_entry a_L_is_machine a_L_entry_of a_L_machine_of a_must a_is_entry a_is_machine a_read_entry a_read_machine a_L_read a_L_same a_L_word a_L_right a_L_bent_text a_law C_NoText C_MillError C_NoMachine C_NoName C_Twice C_Full C_NoSuch C_NoPaper C_NoDeed C_NoSize : Addr} {od_L_mixed an_L_mixed od_L_purse an_L_purse od_L_draw an_L_draw od_L_machine an_L_machine od_L_entry_text an_L_entry_text od_L_text an_L_text od_L_is_entry an_L_is_entry od_L_is_machine an_L_is_machine od_L_entry_of an_L_entry_of od_L_machine_of an_L_machine_of od_must an_must od_is_entry an_is_entry od_is_machine an_is_machine od_read_entry an_read_entry od_read_machine an_read_machine od_L_read an_L_read od_L_same an_L_same od_L_word an_L_word od_L_right an_L_right od_L_bent_text an_L_bent_text od_law an_law : Option Addr} {sl_L_mixed sl_L_purse sl_L_draw sl_L_machine sl_L_entry_text sl_L_text sl_L_is_entry sl_L_is_machine sl_L_entry_of sl_L_machine_of sl_must sl_is_entry sl_is_machine sl_read_entry sl_read_machine sl_L_read sl_L_same sl_L_word sl_L_right sl_L_bent_text sl_law : Array (Option Value)} {oc_L_mixed kV_L_mixed dc_L_mixed pm_L_mixed cd_L_mixed ct_L_mixed oc_L_purse kV_L_purse dc_L_purse pm_L_purse cd_L_purse ct_L_purse oc_L_draw kV_L_draw dc_L_draw pm_L_draw cd_L_draw ct_L_draw oc_L_machine kV_L_machine dc_L_machine pm_L_machine cd_L_machine ct_L_machine oc_L_entry_text kV_L_entry_text dc_L_entry_text pm_L_entry_text cd_L_entry_text ct_L_entry_text oc_L_text kV_L_text dc_L_text pm_L_text cd_L_text ct_L_text oc_L_is_entry kV_L_is_entry dc_L_is_entry pm_L_is_entry cd_L_is_entry ct_L_is_entry oc_L_is_machine kV_L_is_machine dc_L_is_machine pm_L_is_machine cd_L_is_machine ct_L_is_machine oc_L_entry_of kV_L_entry_of dc_L_entry_of pm_L_entry_of cd_L_entry_of ct_L_entry_of oc_L_machine_of kV_L_machine_of dc_L_machine_of pm_L_machine_of cd_L_machine_of ct_L_machine_of oc_must kV_must dc_must pm_must cd_must ct_must oc_is_entry kV_is_entry dc_is_entry pm_is_entry cd_is_entry ct_is_entry oc_is_machine kV_is_machine dc_is_machine pm_is_machine cd_is_machine ct_is_machine oc_read_entry kV_read_entry dc_read_entry pm_read_entry cd_read_entry ct_read_entry oc_read_machine kV_read_machine dc_read_machine pm_read_machine cd_read_machine ct_read_machine oc_L_read kV_L_read dc_L_read pm_L_read cd_L_read ct_L_read oc_L_same kV_L_same dc_L_same pm_L_same cd_L_same ct_L_same oc_L_word kV_L_word dc_L_word pm_L_word cd_L_word ct_L_word oc_L_right kV_L_right dc_L_right pm_L_right cd_L_right ct_L_right oc_L_bent_text kV_L_bent_text dc_L_bent_text pm_L_bent_text cd_L_bent_text ct_L_bent_text oc_law kV_law dc_law pm_law cd_law ct_law : Value} {tk_MOST_ROWS tk_MOST_SIGNS tk_FIGURES tk_ROWS : Tok} (X : K.In h) (G : h.Ns mainGlobals mg)
    (n_NoText : PySem.W.nsIn K mainGlobals "NoText" = some (some (.ref C_NoText)))
    (n_MillError : PySem.W.nsIn K mainGlobals "MillError" = some (some (.ref C_MillError)))
    (n_NoMachine : PySem.W.nsIn K mainGlobals "NoMachine" = some (some (.ref C_NoMachine)))
    (n_NoName : PySem.W.nsIn K mainGlobals "NoName" = some (some (.ref C_NoName)))
    (n_Twice : PySem.W.nsIn K mainGlobals "Twice" = some (some (.ref C_Twice)))
    (n_Full : PySem.W.nsIn K mainGlobals "Full" = some (some (.ref C_Full)))
    (n_NoSuch : PySem.W.nsIn K mainGlobals "NoSuch" = some (some (.ref C_NoSuch)))
    (n_NoPaper : PySem.W.nsIn K mainGlobals "NoPaper" = some (some (.ref C_NoPaper)))
    (n_NoDeed : PySem.W.nsIn K mainGlobals "NoDeed" = some (some (.ref C_NoDeed)))
    (n_NoSize : PySem.W.nsIn K mainGlobals "NoSize" = some (some (.ref C_NoSize)))
    (n_L_mixed : PySem.W.nsIn K mainGlobals "_law_mixed" = some (some (.ref a_L_mixed)))
    (l_L_mixed : K.lookup a_L_mixed = some ⟨oc_L_mixed, od_L_mixed, .func (PySem.W.fnOf "_law_mixed" "_law_mixed" (defArgs s_L_mixed) (defBody s_L_mixed) (defScope s_L_mixed) .none kV_L_mixed dc_L_mixed pm_L_mixed an_L_mixed cd_L_mixed ct_L_mixed), sl_L_mixed⟩)
    (c_L_mixed : PySem.W.codeIn K cd_L_mixed "_law_mixed" = true)
    (k_L_mixed : PySem.W.keepIn K (.ref a_L_mixed) = true)
    (n_L_purse : PySem.W.nsIn K mainGlobals "_law_purse" = some (some (.ref a_L_purse)))
    (l_L_purse : K.lookup a_L_purse = some ⟨oc_L_purse, od_L_purse, .func (PySem.W.fnOf "_law_purse" "_law_purse" (defArgs s_L_purse) (defBody s_L_purse) (defScope s_L_purse) .none kV_L_purse dc_L_purse pm_L_purse an_L_purse cd_L_purse ct_L_purse), sl_L_purse⟩)
    (c_L_purse : PySem.W.codeIn K cd_L_purse "_law_purse" = true)
    (k_L_purse : PySem.W.keepIn K (.ref a_L_purse) = true)
    (n_L_draw : PySem.W.nsIn K mainGlobals "_law_draw" = some (some (.ref a_L_draw)))
    (l_L_draw : K.lookup a_L_draw = some ⟨oc_L_draw, od_L_draw, .func (PySem.W.fnOf "_law_draw" "_law_draw" (defArgs s_L_draw) (defBody s_L_draw) (defScope s_L_draw) .none kV_L_draw dc_L_draw pm_L_draw an_L_draw cd_L_draw ct_L_draw), sl_L_draw⟩)
    (c_L_draw : PySem.W.codeIn K cd_L_draw "_law_draw" = true)
    (k_L_draw : PySem.W.keepIn K (.ref a_L_draw) = true)
    (n_L_machine : PySem.W.nsIn K mainGlobals "_law_machine" = some (some (.ref a_L_machine)))
    (l_L_machine : K.lookup a_L_machine = some ⟨oc_L_machine, od_L_machine, .func (PySem.W.fnOf "_law_machine" "_law_machine" (defArgs s_L_machine) (defBody s_L_machine) (defScope s_L_machine) .none kV_L_machine dc_L_machine pm_L_machine an_L_machine cd_L_machine ct_L_machine), sl_L_machine⟩)
    (c_L_machine : PySem.W.codeIn K cd_L_machine "_law_machine" = true)
    (k_L_machine : PySem.W.keepIn K (.ref a_L_machine) = true)
    (n_L_entry_text : PySem.W.nsIn K mainGlobals "_law_entry_text" = some (some (.ref a_L_entry_text)))
    (l_L_entry_text : K.lookup a_L_entry_text = some ⟨oc_L_entry_text, od_L_entry_text, .func (PySem.W.fnOf "_law_entry_text" "_law_entry_text" (defArgs s_L_entry_text) (defBody s_L_entry_text) (defScope s_L_entry_text) .none kV_L_entry_text dc_L_entry_text pm_L_entry_text an_L_entry_text cd_L_entry_text ct_L_entry_text), sl_L_entry_text⟩)
    (c_L_entry_text : PySem.W.codeIn K cd_L_entry_text "_law_entry_text" = true)
    (k_L_entry_text : PySem.W.keepIn K (.ref a_L_entry_text) = true)
    (n_L_text : PySem.W.nsIn K mainGlobals "_law_text" = some (some (.ref a_L_text)))
    (l_L_text : K.lookup a_L_text = some ⟨oc_L_text, od_L_text, .func (PySem.W.fnOf "_law_text" "_law_text" (defArgs s_L_text) (defBody s_L_text) (defScope s_L_text) .none kV_L_text dc_L_text pm_L_text an_L_text cd_L_text ct_L_text), sl_L_text⟩)
    (c_L_text : PySem.W.codeIn K cd_L_text "_law_text" = true)
    (k_L_text : PySem.W.keepIn K (.ref a_L_text) = true)
    (n_L_is_entry : PySem.W.nsIn K mainGlobals "_law_is_entry" = some (some (.ref a_L_is_entry)))
    (l_L_is_entry : K.lookup a_L_is_entry = some ⟨oc_L_is_entry, od_L_is_entry, .func (PySem.W.fnOf "_law_is_entry" "_law_is_entry" (defArgs s_L_is_entry) (defBody s_L_is_entry) (defScope s_L_is_entry) .none kV_L_is_entry dc_L_is_entry pm_L_is_entry an_L_is_entry cd_L_is_entry ct_L_is_entry), sl_L_is_entry⟩)
    (c_L_is_entry : PySem.W.codeIn K cd_L_is_entry "_law_is_entry" = true)
    (k_L_is_entry : PySem.W.keepIn K (.ref a_L_is_entry) = true)
    (n_L_is_machine : PySem.W.nsIn K mainGlobals "_law_is_machine" = some (some (.ref a_L_is_machine)))
    (l_L_is_machine : K.lookup a_L_is_machine = some ⟨oc_L_is_machine, od_L_is_machine, .func (PySem.W.fnOf "_law_is_machine" "_law_is_machine" (defArgs s_L_is_machine) (defBody s_L_is_machine) (defScope s_L_is_machine) .none kV_L_is_machine dc_L_is_machine pm_L_is_machine an_L_is_machine cd_L_is_machine ct_L_is_machine), sl_L_is_machine⟩)
    (c_L_is_machine : PySem.W.codeIn K cd_L_is_machine "_law_is_machine" = true)
    (k_L_is_machine : PySem.W.keepIn K (.ref a_L_is_machine) = true)
    (n_L_entry_of : PySem.W.nsIn K mainGlobals "_law_entry_of" = some (some (.ref a_L_entry_of)))
    (l_L_entry_of : K.lookup a_L_entry_of = some ⟨oc_L_entry_of, od_L_entry_of, .func (PySem.W.fnOf "_law_entry_of" "_law_entry_of" (defArgs s_L_entry_of) (defBody s_L_entry_of) (defScope s_L_entry_of) .none kV_L_entry_of dc_L_entry_of pm_L_entry_of an_L_entry_of cd_L_entry_of ct_L_entry_of), sl_L_entry_of⟩)
    (c_L_entry_of : PySem.W.codeIn K cd_L_entry_of "_law_entry_of" = true)
    (k_L_entry_of : PySem.W.keepIn K (.ref a_L_entry_of) = true)
    (n_L_machine_of : PySem.W.nsIn K mainGlobals "_law_machine_of" = some (some (.ref a_L_machine_of)))
    (l_L_machine_of : K.lookup a_L_machine_of = some ⟨oc_L_machine_of, od_L_machine_of, .func (PySem.W.fnOf "_law_machine_of" "_law_machine_of" (defArgs s_L_machine_of) (defBody s_L_machine_of) (defScope s_L_machine_of) .none kV_L_machine_of dc_L_machine_of pm_L_machine_of an_L_machine_of cd_L_machine_of ct_L_machine_of), sl_L_machine_of⟩)
    (c_L_machine_of : PySem.W.codeIn K cd_L_machine_of "_law_machine_of" = true)
    (k_L_machine_of : PySem.W.keepIn K (.ref a_L_machine_of) = true)
    (n_must : PySem.W.nsIn K mainGlobals "must" = some (some (.ref a_must)))
    (l_must : K.lookup a_must = some ⟨oc_must, od_must, .func (PySem.W.fnOf "must" "must" (defArgs s_must) (defBody s_must) (defScope s_must) .none kV_must dc_must pm_must an_must cd_must ct_must), sl_must⟩)
    (c_must : PySem.W.codeIn K cd_must "must" = true)
    (k_must : PySem.W.keepIn K (.ref a_must) = true)
    (n_is_entry : PySem.W.nsIn K mainGlobals "is_entry" = some (some (.ref a_is_entry)))
    (l_is_entry : K.lookup a_is_entry = some ⟨oc_is_entry, od_is_entry, .func (PySem.W.fnOf "is_entry" "is_entry" (defArgs s_is_entry) (defBody s_is_entry) (defScope s_is_entry) .none kV_is_entry dc_is_entry pm_is_entry an_is_entry cd_is_entry ct_is_entry), sl_is_entry⟩)
    (c_is_entry : PySem.W.codeIn K cd_is_entry "is_entry" = true)
    (k_is_entry : PySem.W.keepIn K (.ref a_is_entry) = true)
    (n_is_machine : PySem.W.nsIn K mainGlobals "is_machine" = some (some (.ref a_is_machine)))
    (l_is_machine : K.lookup a_is_machine = some ⟨oc_is_machine, od_is_machine, .func (PySem.W.fnOf "is_machine" "is_machine" (defArgs s_is_machine) (defBody s_is_machine) (defScope s_is_machine) .none kV_is_machine dc_is_machine pm_is_machine an_is_machine cd_is_machine ct_is_machine), sl_is_machine⟩)
    (c_is_machine : PySem.W.codeIn K cd_is_machine "is_machine" = true)
    (k_is_machine : PySem.W.keepIn K (.ref a_is_machine) = true)
    (n_read_entry : PySem.W.nsIn K mainGlobals "read_entry" = some (some (.ref a_read_entry)))
    (l_read_entry : K.lookup a_read_entry = some ⟨oc_read_entry, od_read_entry, .func (PySem.W.fnOf "read_entry" "read_entry" (defArgs s_read_entry) (defBody s_read_entry) (defScope s_read_entry) .none kV_read_entry dc_read_entry pm_read_entry an_read_entry cd_read_entry ct_read_entry), sl_read_entry⟩)
    (c_read_entry : PySem.W.codeIn K cd_read_entry "read_entry" = true)
    (k_read_entry : PySem.W.keepIn K (.ref a_read_entry) = true)
    (n_read_machine : PySem.W.nsIn K mainGlobals "read_machine" = some (some (.ref a_read_machine)))
    (l_read_machine : K.lookup a_read_machine = some ⟨oc_read_machine, od_read_machine, .func (PySem.W.fnOf "read_machine" "read_machine" (defArgs s_read_machine) (defBody s_read_machine) (defScope s_read_machine) .none kV_read_machine dc_read_machine pm_read_machine an_read_machine cd_read_machine ct_read_machine), sl_read_machine⟩)
    (c_read_machine : PySem.W.codeIn K cd_read_machine "read_machine" = true)
    (k_read_machine : PySem.W.keepIn K (.ref a_read_machine) = true)
    (n_L_read : PySem.W.nsIn K mainGlobals "_law_read" = some (some (.ref a_L_read)))
    (l_L_read : K.lookup a_L_read = some ⟨oc_L_read, od_L_read, .func (PySem.W.fnOf "_law_read" "_law_read" (defArgs s_L_read) (defBody s_L_read) (defScope s_L_read) .none kV_L_read dc_L_read pm_L_read an_L_read cd_L_read ct_L_read), sl_L_read⟩)
    (c_L_read : PySem.W.codeIn K cd_L_read "_law_read" = true)
    (k_L_read : PySem.W.keepIn K (.ref a_L_read) = true)
    (n_L_same : PySem.W.nsIn K mainGlobals "_law_same" = some (some (.ref a_L_same)))
    (l_L_same : K.lookup a_L_same = some ⟨oc_L_same, od_L_same, .func (PySem.W.fnOf "_law_same" "_law_same" (defArgs s_L_same) (defBody s_L_same) (defScope s_L_same) .none kV_L_same dc_L_same pm_L_same an_L_same cd_L_same ct_L_same), sl_L_same⟩)
    (c_L_same : PySem.W.codeIn K cd_L_same "_law_same" = true)
    (k_L_same : PySem.W.keepIn K (.ref a_L_same) = true)
    (n_L_word : PySem.W.nsIn K mainGlobals "_law_word" = some (some (.ref a_L_word)))
    (l_L_word : K.lookup a_L_word = some ⟨oc_L_word, od_L_word, .func (PySem.W.fnOf "_law_word" "_law_word" (defArgs s_L_word) (defBody s_L_word) (defScope s_L_word) .none kV_L_word dc_L_word pm_L_word an_L_word cd_L_word ct_L_word), sl_L_word⟩)
    (c_L_word : PySem.W.codeIn K cd_L_word "_law_word" = true)
    (k_L_word : PySem.W.keepIn K (.ref a_L_word) = true)
    (n_L_right : PySem.W.nsIn K mainGlobals "_law_right" = some (some (.ref a_L_right)))
    (l_L_right : K.lookup a_L_right = some ⟨oc_L_right, od_L_right, .func (PySem.W.fnOf "_law_right" "_law_right" (defArgs s_L_right) (defBody s_L_right) (defScope s_L_right) .none kV_L_right dc_L_right pm_L_right an_L_right cd_L_right ct_L_right), sl_L_right⟩)
    (c_L_right : PySem.W.codeIn K cd_L_right "_law_right" = true)
    (k_L_right : PySem.W.keepIn K (.ref a_L_right) = true)
    (n_L_bent_text : PySem.W.nsIn K mainGlobals "_law_bent_text" = some (some (.ref a_L_bent_text)))
    (l_L_bent_text : K.lookup a_L_bent_text = some ⟨oc_L_bent_text, od_L_bent_text, .func (PySem.W.fnOf "_law_bent_text" "_law_bent_text" (defArgs s_L_bent_text) (defBody s_L_bent_text) (defScope s_L_bent_text) .none kV_L_bent_text dc_L_bent_text pm_L_bent_text an_L_bent_text cd_L_bent_text ct_L_bent_text), sl_L_bent_text⟩)
    (c_L_bent_text : PySem.W.codeIn K cd_L_bent_text "_law_bent_text" = true)
    (k_L_bent_text : PySem.W.keepIn K (.ref a_L_bent_text) = true)
    (n_law : PySem.W.nsIn K mainGlobals "law" = some (some (.ref a_law)))
    (l_law : K.lookup a_law = some ⟨oc_law, od_law, .func (PySem.W.fnOf "law" "law" (defArgs s_law) (defBody s_law) (defScope s_law) .none kV_law dc_law pm_law an_law cd_law ct_law), sl_law⟩)
    (c_law : PySem.W.codeIn K cd_law "law" = true)
    (k_law : PySem.W.keepIn K (.ref a_law) = true)
    (n_MOST_ROWS : PySem.W.nsIn K mainGlobals "MOST_ROWS" = some (some (.int 4 tk_MOST_ROWS)))
    (n_MOST_SIGNS : PySem.W.nsIn K mainGlobals "MOST_SIGNS" = some (some (.int 4 tk_MOST_SIGNS)))
    (n_FIGURES : PySem.W.nsIn K mainGlobals "FIGURES" = some (some (.str "0123456789" tk_FIGURES)))
    (n_ROWS : PySem.W.nsIn K mainGlobals "ROWS" = some (some (.str "ABCD" tk_ROWS)))
    (z_range : PySem.W.nsIn K mainGlobals "range" = some none)
    (z_len : PySem.W.nsIn K mainGlobals "len" = some none)
    (z_abs : PySem.W.nsIn K mainGlobals "abs" = some none)
    (z_str : PySem.W.nsIn K mainGlobals "str" = some none)
    (z_int : PySem.W.nsIn K mainGlobals "int" = some none)
    (z_min : PySem.W.nsIn K mainGlobals "min" = some none)
    (z_max : PySem.W.nsIn K mainGlobals "max" = some none)
    (z_all : PySem.W.nsIn K mainGlobals "all" = some none)
    (z_isinstance : PySem.W.nsIn K mainGlobals "isinstance" = some none)
    (z_tuple : PySem.W.nsIn K mainGlobals "tuple" = some none)
    (z_list : PySem.W.nsIn K mainGlobals "list" = some none)
    (z_bool : PySem.W.nsIn K mainGlobals "bool" = some none)
    (z_ValueError : PySem.W.nsIn K mainGlobals "ValueError" = some none)
    (fa_x_NoText : PySem.W.excIn K C_NoText [.type "ValueError", .type "Exception", .type "BaseException", .type "object"] "ValueError.__new__" = true)
    (fa_k_NoText : PySem.W.keepIn K (.ref C_NoText) = true)
    (fa_b_NoText : PySem.W.subIn K (.ref C_NoText) (.type "BaseException") = some true)
    (fa_t_NoText : PySem.W.typeIn K (.ref C_NoText) = some (.type "type"))
    (fa_h_NoText : PySem.W.hasDictIn K C_NoText = true)
    (fa_k_MillError : PySem.W.keepIn K (.ref C_MillError) = true)
    (fa_b_MillError : PySem.W.subIn K (.ref C_MillError) (.type "BaseException") = some true)
    (fa_t_MillError : PySem.W.typeIn K (.ref C_MillError) = some (.type "type"))
    (fa_h_MillError : PySem.W.hasDictIn K C_MillError = true)
    (fa_hg_NoText : PySem.W.findIn K (.ref C_NoText) "__getattribute__" = some (some (.builtin "BaseException.__getattribute__")))
    (fa_hk_NoText : PySem.W.findIn K (.ref C_NoText) "__getattr__" = some none)
    (fa_ha_NoText : PySem.W.findIn K (.ref C_NoText) "__class__" = some (some (.builtin "object.__class__")))
    (fa_hm_NoText : PySem.W.mroIn K C_NoText (.type "object") = some true)
    (fa_s_NoText_MillError : PySem.W.subIn K (.ref C_NoText) (.ref C_MillError) = some true)
    (fa_hn_ : PySem.W.specialIn K (.builtin "object.__class__") "__get__" = some (some (.builtin "getset_descriptor.__get__")))
    (fa_ht_ : PySem.W.takesIn K (.builtin "object.__class__") = some true)
    (fa_i_NoMachine : PySem.W.isClsIn K C_NoMachine = true)
    (fa_se_NoMachine : PySem.W.subIn K (.ref C_NoMachine) (.ref C_NoMachine) = some true)
    (fa_t_NoMachine : PySem.W.typeIn K (.ref C_NoMachine) = some (.type "type"))
    (fa_s_NoText_NoMachine : PySem.W.subIn K (.ref C_NoText) (.ref C_NoMachine) = some false)
    (fa_sn_NoMachine : PySem.W.subIn K (.type "NoneType") (.ref C_NoMachine) = some false)
    (fa_i_NoText : PySem.W.isClsIn K C_NoText = true)
    (fa_se_NoText : PySem.W.subIn K (.ref C_NoText) (.ref C_NoText) = some true)
    (fa_s_NoText_NoText : PySem.W.subIn K (.ref C_NoText) (.ref C_NoText) = some true)
    (fa_sn_NoText : PySem.W.subIn K (.type "NoneType") (.ref C_NoText) = some false)
    (fa_i_NoName : PySem.W.isClsIn K C_NoName = true)
    (fa_se_NoName : PySem.W.subIn K (.ref C_NoName) (.ref C_NoName) = some true)
    (fa_t_NoName : PySem.W.typeIn K (.ref C_NoName) = some (.type "type"))
    (fa_s_NoText_NoName : PySem.W.subIn K (.ref C_NoText) (.ref C_NoName) = some false)
    (fa_sn_NoName : PySem.W.subIn K (.type "NoneType") (.ref C_NoName) = some false)
    (fa_i_Twice : PySem.W.isClsIn K C_Twice = true)
    (fa_se_Twice : PySem.W.subIn K (.ref C_Twice) (.ref C_Twice) = some true)
    (fa_t_Twice : PySem.W.typeIn K (.ref C_Twice) = some (.type "type"))
    (fa_s_NoText_Twice : PySem.W.subIn K (.ref C_NoText) (.ref C_Twice) = some false)
    (fa_sn_Twice : PySem.W.subIn K (.type "NoneType") (.ref C_Twice) = some false)
    (fa_i_Full : PySem.W.isClsIn K C_Full = true)
    (fa_se_Full : PySem.W.subIn K (.ref C_Full) (.ref C_Full) = some true)
    (fa_t_Full : PySem.W.typeIn K (.ref C_Full) = some (.type "type"))
    (fa_s_NoText_Full : PySem.W.subIn K (.ref C_NoText) (.ref C_Full) = some false)
    (fa_sn_Full : PySem.W.subIn K (.type "NoneType") (.ref C_Full) = some false)
    (fa_i_NoSuch : PySem.W.isClsIn K C_NoSuch = true)
    (fa_se_NoSuch : PySem.W.subIn K (.ref C_NoSuch) (.ref C_NoSuch) = some true)
    (fa_t_NoSuch : PySem.W.typeIn K (.ref C_NoSuch) = some (.type "type"))
    (fa_s_NoText_NoSuch : PySem.W.subIn K (.ref C_NoText) (.ref C_NoSuch) = some false)
    (fa_sn_NoSuch : PySem.W.subIn K (.type "NoneType") (.ref C_NoSuch) = some false)
    (fa_i_NoPaper : PySem.W.isClsIn K C_NoPaper = true)
    (fa_se_NoPaper : PySem.W.subIn K (.ref C_NoPaper) (.ref C_NoPaper) = some true)
    (fa_t_NoPaper : PySem.W.typeIn K (.ref C_NoPaper) = some (.type "type"))
    (fa_s_NoText_NoPaper : PySem.W.subIn K (.ref C_NoText) (.ref C_NoPaper) = some false)
    (fa_sn_NoPaper : PySem.W.subIn K (.type "NoneType") (.ref C_NoPaper) = some false)
    (fa_i_NoDeed : PySem.W.isClsIn K C_NoDeed = true)
    (fa_se_NoDeed : PySem.W.subIn K (.ref C_NoDeed) (.ref C_NoDeed) = some true)
    (fa_t_NoDeed : PySem.W.typeIn K (.ref C_NoDeed) = some (.type "type"))
    (fa_s_NoText_NoDeed : PySem.W.subIn K (.ref C_NoText) (.ref C_NoDeed) = some false)
    (fa_sn_NoDeed : PySem.W.subIn K (.type "NoneType") (.ref C_NoDeed) = some false)
    (fa_i_NoSize : PySem.W.isClsIn K C_NoSize = true)
    (fa_se_NoSize : PySem.W.subIn K (.ref C_NoSize) (.ref C_NoSize) = some true)
    (fa_t_NoSize : PySem.W.typeIn K (.ref C_NoSize) = some (.type "type"))
    (fa_s_NoText_NoSize : PySem.W.subIn K (.ref C_NoText) (.ref C_NoSize) = some false)
    (fa_sn_NoSize : PySem.W.subIn K (.type "NoneType") (.ref C_NoSize) = some false)
    (fa_i_MillError : PySem.W.isClsIn K C_MillError = true)
    (fa_se_MillError : PySem.W.subIn K (.ref C_MillError) (.ref C_MillError) = some true)
    (fa_sn_MillError : PySem.W.subIn K (.type "NoneType") (.ref C_MillError) = some false)
    (fa_s_NoText_ValueError : PySem.W.subIn K (.ref C_NoText) (.type "ValueError") = some true) : Tx K mg where
  a_L_mixed := a_L_mixed
  fd_L_mixed := PySem.W.fnOf "_law_mixed" "_law_mixed" (defArgs s_L_mixed) (defBody s_L_mixed) (defScope s_L_mixed) .none kV_L_mixed dc_L_mixed pm_L_mixed an_L_mixed cd_L_mixed ct_L_mixed
  F_L_mixed := fun_mk l_L_mixed c_L_mixed k_L_mixed
  b_L_mixed := (fun_mk (st := s_L_mixed) l_L_mixed c_L_mixed k_L_mixed).binds (ps := ["_law_cell", "_law_k"]) fun _ _ _ _ _ _ us hl => match us, hl with | [_, _], _ => rfl
  m_L_mixed := PySem.W.mg_of X G n_L_mixed
  a_L_purse := a_L_purse
  fd_L_purse := PySem.W.fnOf "_law_purse" "_law_purse" (defArgs s_L_purse) (defBody s_L_purse) (defScope s_L_purse) .none kV_L_purse dc_L_purse pm_L_purse an_L_purse cd_L_purse ct_L_purse
  F_L_purse := fun_mk l_L_purse c_L_purse k_L_purse
  b_L_purse := (fun_mk (st := s_L_purse) l_L_purse c_L_purse k_L_purse).binds (ps := ["_law_script"]) fun _ _ _ _ _ _ us hl => match us, hl with | [_], _ => rfl
  m_L_purse := PySem.W.mg_of X G n_L_purse
  a_L_draw := a_L_draw
  fd_L_draw := PySem.W.fnOf "_law_draw" "_law_draw" (defArgs s_L_draw) (defBody s_L_draw) (defScope s_L_draw) .none kV_L_draw dc_L_draw pm_L_draw an_L_draw cd_L_draw ct_L_draw
  F_L_draw := fun_mk l_L_draw c_L_draw k_L_draw
  b_L_draw := (fun_mk (st := s_L_draw) l_L_draw c_L_draw k_L_draw).binds (ps := ["_law_purse_here", "_law_out_of"]) fun _ _ _ _ _ _ us hl => match us, hl with | [_, _], _ => rfl
  m_L_draw := PySem.W.mg_of X G n_L_draw
  a_L_machine := a_L_machine
  fd_L_machine := PySem.W.fnOf "_law_machine" "_law_machine" (defArgs s_L_machine) (defBody s_L_machine) (defScope s_L_machine) .none kV_L_machine dc_L_machine pm_L_machine an_L_machine cd_L_machine ct_L_machine
  F_L_machine := fun_mk l_L_machine c_L_machine k_L_machine
  b_L_machine := (fun_mk (st := s_L_machine) l_L_machine c_L_machine k_L_machine).binds (ps := ["_law_purse_here"]) fun _ _ _ _ _ _ us hl => match us, hl with | [_], _ => rfl
  m_L_machine := PySem.W.mg_of X G n_L_machine
  a_L_entry_text := a_L_entry_text
  fd_L_entry_text := PySem.W.fnOf "_law_entry_text" "_law_entry_text" (defArgs s_L_entry_text) (defBody s_L_entry_text) (defScope s_L_entry_text) .none kV_L_entry_text dc_L_entry_text pm_L_entry_text an_L_entry_text cd_L_entry_text ct_L_entry_text
  F_L_entry_text := fun_mk l_L_entry_text c_L_entry_text k_L_entry_text
  b_L_entry_text := (fun_mk (st := s_L_entry_text) l_L_entry_text c_L_entry_text k_L_entry_text).binds (ps := ["_law_entry"]) fun _ _ _ _ _ _ us hl => match us, hl with | [_], _ => rfl
  m_L_entry_text := PySem.W.mg_of X G n_L_entry_text
  a_L_text := a_L_text
  fd_L_text := PySem.W.fnOf "_law_text" "_law_text" (defArgs s_L_text) (defBody s_L_text) (defScope s_L_text) .none kV_L_text dc_L_text pm_L_text an_L_text cd_L_text ct_L_text
  F_L_text := fun_mk l_L_text c_L_text k_L_text
  b_L_text := (fun_mk (st := s_L_text) l_L_text c_L_text k_L_text).binds (ps := ["_law_machine_here"]) fun _ _ _ _ _ _ us hl => match us, hl with | [_], _ => rfl
  m_L_text := PySem.W.mg_of X G n_L_text
  a_L_is_entry := a_L_is_entry
  fd_L_is_entry := PySem.W.fnOf "_law_is_entry" "_law_is_entry" (defArgs s_L_is_entry) (defBody s_L_is_entry) (defScope s_L_is_entry) .none kV_L_is_entry dc_L_is_entry pm_L_is_entry an_L_is_entry cd_L_is_entry ct_L_is_entry
  F_L_is_entry := fun_mk l_L_is_entry c_L_is_entry k_L_is_entry
  b_L_is_entry := (fun_mk (st := s_L_is_entry) l_L_is_entry c_L_is_entry k_L_is_entry).binds (ps := ["_law_entry", "_law_rows", "_law_signs"]) fun _ _ _ _ _ _ us hl => match us, hl with | [_, _, _], _ => rfl
  m_L_is_entry := PySem.W.mg_of X G n_L_is_entry
  a_L_is_machine := a_L_is_machine
  fd_L_is_machine := PySem.W.fnOf "_law_is_machine" "_law_is_machine" (defArgs s_L_is_machine) (defBody s_L_is_machine) (defScope s_L_is_machine) .none kV_L_is_machine dc_L_is_machine pm_L_is_machine an_L_is_machine cd_L_is_machine ct_L_is_machine
  F_L_is_machine := fun_mk l_L_is_machine c_L_is_machine k_L_is_machine
  b_L_is_machine := (fun_mk (st := s_L_is_machine) l_L_is_machine c_L_is_machine k_L_is_machine).binds (ps := ["_law_machine_here"]) fun _ _ _ _ _ _ us hl => match us, hl with | [_], _ => rfl
  m_L_is_machine := PySem.W.mg_of X G n_L_is_machine
  a_L_entry_of := a_L_entry_of
  fd_L_entry_of := PySem.W.fnOf "_law_entry_of" "_law_entry_of" (defArgs s_L_entry_of) (defBody s_L_entry_of) (defScope s_L_entry_of) .none kV_L_entry_of dc_L_entry_of pm_L_entry_of an_L_entry_of cd_L_entry_of ct_L_entry_of
  F_L_entry_of := fun_mk l_L_entry_of c_L_entry_of k_L_entry_of
  b_L_entry_of := (fun_mk (st := s_L_entry_of) l_L_entry_of c_L_entry_of k_L_entry_of).binds (ps := ["_law_text_here"]) fun _ _ _ _ _ _ us hl => match us, hl with | [_], _ => rfl
  m_L_entry_of := PySem.W.mg_of X G n_L_entry_of
  a_L_machine_of := a_L_machine_of
  fd_L_machine_of := PySem.W.fnOf "_law_machine_of" "_law_machine_of" (defArgs s_L_machine_of) (defBody s_L_machine_of) (defScope s_L_machine_of) .none kV_L_machine_of dc_L_machine_of pm_L_machine_of an_L_machine_of cd_L_machine_of ct_L_machine_of
  F_L_machine_of := fun_mk l_L_machine_of c_L_machine_of k_L_machine_of
  b_L_machine_of := (fun_mk (st := s_L_machine_of) l_L_machine_of c_L_machine_of k_L_machine_of).binds (ps := ["_law_text_here"]) fun _ _ _ _ _ _ us hl => match us, hl with | [_], _ => rfl
  m_L_machine_of := PySem.W.mg_of X G n_L_machine_of
  a_must := a_must
  fd_must := PySem.W.fnOf "must" "must" (defArgs s_must) (defBody s_must) (defScope s_must) .none kV_must dc_must pm_must an_must cd_must ct_must
  F_must := fun_mk l_must c_must k_must
  b_must := (fun_mk (st := s_must) l_must c_must k_must).binds (ps := ["good"]) fun _ _ _ _ _ _ us hl => match us, hl with | [_], _ => rfl
  m_must := PySem.W.mg_of X G n_must
  a_is_entry := a_is_entry
  fd_is_entry := PySem.W.fnOf "is_entry" "is_entry" (defArgs s_is_entry) (defBody s_is_entry) (defScope s_is_entry) .none kV_is_entry dc_is_entry pm_is_entry an_is_entry cd_is_entry ct_is_entry
  F_is_entry := fun_mk l_is_entry c_is_entry k_is_entry
  b_is_entry := (fun_mk (st := s_is_entry) l_is_entry c_is_entry k_is_entry).binds (ps := ["entry", "rows", "signs"]) fun _ _ _ _ _ _ us hl => match us, hl with | [_, _, _], _ => rfl
  m_is_entry := PySem.W.mg_of X G n_is_entry
  a_is_machine := a_is_machine
  fd_is_machine := PySem.W.fnOf "is_machine" "is_machine" (defArgs s_is_machine) (defBody s_is_machine) (defScope s_is_machine) .none kV_is_machine dc_is_machine pm_is_machine an_is_machine cd_is_machine ct_is_machine
  F_is_machine := fun_mk l_is_machine c_is_machine k_is_machine
  b_is_machine := (fun_mk (st := s_is_machine) l_is_machine c_is_machine k_is_machine).binds (ps := ["machine"]) fun _ _ _ _ _ _ us hl => match us, hl with | [_], _ => rfl
  m_is_machine := PySem.W.mg_of X G n_is_machine
  a_read_entry := a_read_entry
  fd_read_entry := PySem.W.fnOf "read_entry" "read_entry" (defArgs s_read_entry) (defBody s_read_entry) (defScope s_read_entry) .none kV_read_entry dc_read_entry pm_read_entry an_read_entry cd_read_entry ct_read_entry
  F_read_entry := fun_mk l_read_entry c_read_entry k_read_entry
  b_read_entry := (fun_mk (st := s_read_entry) l_read_entry c_read_entry k_read_entry).binds (ps := ["text"]) fun _ _ _ _ _ _ us hl => match us, hl with | [_], _ => rfl
  m_read_entry := PySem.W.mg_of X G n_read_entry
  a_read_machine := a_read_machine
  fd_read_machine := PySem.W.fnOf "read_machine" "read_machine" (defArgs s_read_machine) (defBody s_read_machine) (defScope s_read_machine) .none kV_read_machine dc_read_machine pm_read_machine an_read_machine cd_read_machine ct_read_machine
  F_read_machine := fun_mk l_read_machine c_read_machine k_read_machine
  b_read_machine := (fun_mk (st := s_read_machine) l_read_machine c_read_machine k_read_machine).binds (ps := ["text"]) fun _ _ _ _ _ _ us hl => match us, hl with | [_], _ => rfl
  m_read_machine := PySem.W.mg_of X G n_read_machine
  a_L_read := a_L_read
  fd_L_read := PySem.W.fnOf "_law_read" "_law_read" (defArgs s_L_read) (defBody s_L_read) (defScope s_L_read) .none kV_L_read dc_L_read pm_L_read an_L_read cd_L_read ct_L_read
  F_L_read := fun_mk l_L_read c_L_read k_L_read
  b_L_read := (fun_mk (st := s_L_read) l_L_read c_L_read k_L_read).binds (ps := ["_law_text_here"]) fun _ _ _ _ _ _ us hl => match us, hl with | [_], _ => rfl
  m_L_read := PySem.W.mg_of X G n_L_read
  a_L_same := a_L_same
  fd_L_same := PySem.W.fnOf "_law_same" "_law_same" (defArgs s_L_same) (defBody s_L_same) (defScope s_L_same) .none kV_L_same dc_L_same pm_L_same an_L_same cd_L_same ct_L_same
  F_L_same := fun_mk l_L_same c_L_same k_L_same
  b_L_same := (fun_mk (st := s_L_same) l_L_same c_L_same k_L_same).binds (ps := ["_law_found", "_law_due"]) fun _ _ _ _ _ _ us hl => match us, hl with | [_, _], _ => rfl
  m_L_same := PySem.W.mg_of X G n_L_same
  a_L_word := a_L_word
  fd_L_word := PySem.W.fnOf "_law_word" "_law_word" (defArgs s_L_word) (defBody s_L_word) (defScope s_L_word) .none kV_L_word dc_L_word pm_L_word an_L_word cd_L_word ct_L_word
  F_L_word := fun_mk l_L_word c_L_word k_L_word
  b_L_word := (fun_mk (st := s_L_word) l_L_word c_L_word k_L_word).binds (ps := ["_law_caught"]) fun _ _ _ _ _ _ us hl => match us, hl with | [_], _ => rfl
  m_L_word := PySem.W.mg_of X G n_L_word
  a_L_right := a_L_right
  fd_L_right := PySem.W.fnOf "_law_right" "_law_right" (defArgs s_L_right) (defBody s_L_right) (defScope s_L_right) .none kV_L_right dc_L_right pm_L_right an_L_right cd_L_right ct_L_right
  F_L_right := fun_mk l_L_right c_L_right k_L_right
  b_L_right := (fun_mk (st := s_L_right) l_L_right c_L_right k_L_right).binds (ps := ["_law_text_here"]) fun _ _ _ _ _ _ us hl => match us, hl with | [_], _ => rfl
  m_L_right := PySem.W.mg_of X G n_L_right
  a_L_bent_text := a_L_bent_text
  fd_L_bent_text := PySem.W.fnOf "_law_bent_text" "_law_bent_text" (defArgs s_L_bent_text) (defBody s_L_bent_text) (defScope s_L_bent_text) .none kV_L_bent_text dc_L_bent_text pm_L_bent_text an_L_bent_text cd_L_bent_text ct_L_bent_text
  F_L_bent_text := fun_mk l_L_bent_text c_L_bent_text k_L_bent_text
  b_L_bent_text := (fun_mk (st := s_L_bent_text) l_L_bent_text c_L_bent_text k_L_bent_text).binds (ps := ["_law_purse_here", "_law_text_here", "_law_near"]) fun _ _ _ _ _ _ us hl => match us, hl with | [_, _, _], _ => rfl
  m_L_bent_text := PySem.W.mg_of X G n_L_bent_text
  a_law := a_law
  fd_law := PySem.W.fnOf "law" "law" (defArgs s_law) (defBody s_law) (defScope s_law) .none kV_law dc_law pm_law an_law cd_law ct_law
  F_law := fun_mk l_law c_law k_law
  b_law := (fun_mk (st := s_law) l_law c_law k_law).binds (ps := ["_law_script"]) fun _ _ _ _ _ _ us hl => match us, hl with | [_], _ => rfl
  m_law := PySem.W.mg_of X G n_law
  C_NoText := C_NoText
  m_NoText := PySem.W.mg_of X G n_NoText
  C_MillError := C_MillError
  m_MillError := PySem.W.mg_of X G n_MillError
  C_NoMachine := C_NoMachine
  m_NoMachine := PySem.W.mg_of X G n_NoMachine
  C_NoName := C_NoName
  m_NoName := PySem.W.mg_of X G n_NoName
  C_Twice := C_Twice
  m_Twice := PySem.W.mg_of X G n_Twice
  C_Full := C_Full
  m_Full := PySem.W.mg_of X G n_Full
  C_NoSuch := C_NoSuch
  m_NoSuch := PySem.W.mg_of X G n_NoSuch
  C_NoPaper := C_NoPaper
  m_NoPaper := PySem.W.mg_of X G n_NoPaper
  C_NoDeed := C_NoDeed
  m_NoDeed := PySem.W.mg_of X G n_NoDeed
  C_NoSize := C_NoSize
  m_NoSize := PySem.W.mg_of X G n_NoSize
  tk_MOST_ROWS := tk_MOST_ROWS
  m_MOST_ROWS := PySem.W.mg_of X G n_MOST_ROWS
  tk_MOST_SIGNS := tk_MOST_SIGNS
  m_MOST_SIGNS := PySem.W.mg_of X G n_MOST_SIGNS
  tk_FIGURES := tk_FIGURES
  m_FIGURES := PySem.W.mg_of X G n_FIGURES
  tk_ROWS := tk_ROWS
  m_ROWS := PySem.W.mg_of X G n_ROWS
  n_range := PySem.W.mg_none_of X G z_range
  n_len := PySem.W.mg_none_of X G z_len
  n_abs := PySem.W.mg_none_of X G z_abs
  n_str := PySem.W.mg_none_of X G z_str
  n_int := PySem.W.mg_none_of X G z_int
  n_min := PySem.W.mg_none_of X G z_min
  n_max := PySem.W.mg_none_of X G z_max
  n_all := PySem.W.mg_none_of X G z_all
  n_isinstance := PySem.W.mg_none_of X G z_isinstance
  n_tuple := PySem.W.mg_none_of X G z_tuple
  n_list := PySem.W.mg_none_of X G z_list
  n_bool := PySem.W.mg_none_of X G z_bool
  n_ValueError := PySem.W.mg_none_of X G z_ValueError
  x_NoText := fa_x_NoText
  k_NoText := fa_k_NoText
  b_NoText := fa_b_NoText
  t_NoText := fa_t_NoText
  h_NoText := fa_h_NoText
  k_MillError := fa_k_MillError
  b_MillError := fa_b_MillError
  t_MillError := fa_t_MillError
  h_MillError := fa_h_MillError
  hg_NoText := fa_hg_NoText
  hk_NoText := fa_hk_NoText
  ha_NoText := fa_ha_NoText
  hm_NoText := fa_hm_NoText
  s_NoText_MillError := fa_s_NoText_MillError
  hn_ := fa_hn_
  ht_ := fa_ht_
  i_NoMachine := fa_i_NoMachine
  se_NoMachine := fa_se_NoMachine
  t_NoMachine := fa_t_NoMachine
  s_NoText_NoMachine := fa_s_NoText_NoMachine
  sn_NoMachine := fa_sn_NoMachine
  i_NoText := fa_i_NoText
  se_NoText := fa_se_NoText
  s_NoText_NoText := fa_s_NoText_NoText
  sn_NoText := fa_sn_NoText
  i_NoName := fa_i_NoName
  se_NoName := fa_se_NoName
  t_NoName := fa_t_NoName
  s_NoText_NoName := fa_s_NoText_NoName
  sn_NoName := fa_sn_NoName
  i_Twice := fa_i_Twice
  se_Twice := fa_se_Twice
  t_Twice := fa_t_Twice
  s_NoText_Twice := fa_s_NoText_Twice
  sn_Twice := fa_sn_Twice
  i_Full := fa_i_Full
  se_Full := fa_se_Full
  t_Full := fa_t_Full
  s_NoText_Full := fa_s_NoText_Full
  sn_Full := fa_sn_Full
  i_NoSuch := fa_i_NoSuch
  se_NoSuch := fa_se_NoSuch
  t_NoSuch := fa_t_NoSuch
  s_NoText_NoSuch := fa_s_NoText_NoSuch
  sn_NoSuch := fa_sn_NoSuch
  i_NoPaper := fa_i_NoPaper
  se_NoPaper := fa_se_NoPaper
  t_NoPaper := fa_t_NoPaper
  s_NoText_NoPaper := fa_s_NoText_NoPaper
  sn_NoPaper := fa_sn_NoPaper
  i_NoDeed := fa_i_NoDeed
  se_NoDeed := fa_se_NoDeed
  t_NoDeed := fa_t_NoDeed
  s_NoText_NoDeed := fa_s_NoText_NoDeed
  sn_NoDeed := fa_sn_NoDeed
  i_NoSize := fa_i_NoSize
  se_NoSize := fa_se_NoSize
  t_NoSize := fa_t_NoSize
  s_NoText_NoSize := fa_s_NoText_NoSize
  sn_NoSize := fa_sn_NoSize
  i_MillError := fa_i_MillError
  se_MillError := fa_se_MillError
  sn_MillError := fa_sn_MillError
  s_NoText_ValueError := fa_s_NoText_ValueError
theorem all_mk {l : PySem.W.OpenLaw} {w : World} {K : PySem.W.Frag} {h : Heap} {mg : Str → Option Value} {fa : Addr} (X : K.In h) (G : h.Ns mainGlobals mg) (hfa : mg "law" = some (.ref fa)) (t : Tx K mg)
    (hb : ∃ (kV dc pm : Value) (an : Option Addr) (cd ct : Value), t.fd_law = PySem.W.fnOf "law" "law" (defArgs s_law) (defBody s_law) (defScope s_law) .none kV dc pm an cd ct) :
    ∃ fd : FuncData, (∀ (s : Shared) (v : Value), BindsTo s fd ⟨[v], []⟩ [("_law_script", v)]) ∧ ∀ base : Heap, K.In base → base.Ns mainGlobals mg → FnOk l.prog w K mg base CX0 8 fa fd ["_law_script"] (sp_law K) := by
  have e := hfa.symm.trans t.m_law
  cases e
  refine ⟨t.fd_law, fun s v => ?_, fun base _ _ => ok_law t⟩
  obtain ⟨kV, dc, pm, an, cd, ct, e⟩ := hb
  rw [e]
  exact .of_eq rfl
theorem walk {l : PySem.W.OpenLaw} {q : Program} {loose : List Str} {XP : (Str → Option Value) → Heap → Prop} {YP : World → Heap → Prop} {d : DefRec} {K : Params → PySem.W.Frag} (hn : l.most = some 63) (hdf : d.params.defaults = [])
    (hY : ∀ (w : World) (h : Heap), YP w h → (K w.params).In h)
    (F : ∀ (w : World) (mg : Str → Option Value) (fa : Addr) (h : Heap), (K w.params).In h → h.Ns mainGlobals mg → mg d.name = some (.ref fa) →
      ∃ fd : FuncData, (∀ (s : Shared) (u : Value), BindsTo s fd ⟨[u], []⟩ [("_law_script", u)]) ∧ ∀ base : Heap, (K w.params).In base → base.Ns mainGlobals mg → FnOk l.prog w (K w.params) mg base CX0 8 fa fd ["_law_script"] (sp_law (K w.params))) :
    PySem.W.WalkO q loose XP YP l.row.toRowW d [] (fun f vs => PySem.call f vs) :=
  L2.walk_of (n := 63) (k := 8) (x := "_law_script") (CX := fun _ => CX0) (sp := fun w => sp_law (K w.params)) hn (by decide) hdf ⟨rfl, by decide, by decide⟩ hY F (fun _ _ a ns hl _ hS => ⟨a, ns, rfl, hS, hl, fun _ => rfl⟩) fun _ _ _ _ _ z => z
theorem all_go {l : PySem.W.OpenLaw} {w : World} {K : PySem.W.Frag} {h : Heap} {mg : Str → Option Value} {fa : Addr} {a_L_mixed a_L_purse a_L_draw a_L_machine a_L_entry_text a_L_text a_L_is_entry a_L_is_machine a_L_entry_of a_L_machine_of a_must a_is_entry a_is_machine a_read_entry a_read_machine a_L_read a_L_same a_L_word a_L_right a_L_bent_text a_law C_NoText C_MillError C_NoMachine C_NoName C_Twice C_Full C_NoSuch C_NoPaper C_NoDeed C_NoSize : Addr} {od_L_mixed an_L_mixed od_L_purse an_L_purse od_L_draw an_L_draw od_L_machine an_L_machine od_L_entry_text an_L_entry_text od_L_text an_L_text od_L_is_entry an_L_is_entry od_L_is_machine an_L_is_machine od_L_entry_of an_L_entry_of od_L_machine_of an_L_machine_of od_must an_must od_is_entry an_is_entry od_is_machine an_is_machine od_read_entry an_read_entry od_read_machine an_read_machine od_L_read an_L_read od_L_same an_L_same od_L_word an_L_word od_L_right an_L_right od_L_bent_text an_L_bent_text od_law an_law : Option Addr} {sl_L_mixed sl_L_purse sl_L_draw sl_L_machine sl_L_entry_text sl_L_text sl_L_is_entry sl_L_is_machine sl_L_entry_of sl_L_machine_of sl_must sl_is_entry sl_is_machine sl_read_entry sl_read_machine sl_L_read sl_L_same sl_L_word sl_L_right sl_L_bent_text sl_law : Array (Option Value)} {oc_L_mixed kV_L_mixed dc_L_mixed pm_L_mixed cd_L_mixed ct_L_mixed oc_L_purse kV_L_purse dc_L_purse pm_L_purse cd_L_purse ct_L_purse oc_L_draw kV_L_draw dc_L_draw pm_L_draw cd_L_draw ct_L_draw oc_L_machine kV_L_machine dc_L_machine pm_L_machine cd_L_machine ct_L_machine oc_L_entry_text kV_L_entry_text dc_L_entry_text pm_L_entry_text cd_L_entry_text ct_L_entry_text oc_L_text kV_L_text dc_L_text pm_L_text cd_L_text ct_L_text oc_L_is_entry kV_L_is_entry dc_L_is_entry pm_L_is_entry cd_L_is_entry ct_L_is_entry oc_L_is_machine kV_L_is_machine dc_L_is_machine pm_L_is_machine cd_L_is_machine ct_L_is_machine oc_L_entry_of kV_L_entry_of dc_L_entry_of pm_L_entry_of cd_L_entry_of ct_L_entry_of oc_L_machine_of kV_L_machine_of dc_L_machine_of pm_L_machine_of cd_L_machine_of ct_L_machine_of oc_must kV_must dc_must pm_must cd_must ct_must oc_is_entry kV_is_entry dc_is_entry pm_is_entry cd_is_entry ct_is_entry oc_is_machine kV_is_machine dc_is_machine pm_is_machine cd_is_machine ct_is_machine oc_read_entry kV_read_entry dc_read_entry pm_read_entry cd_read_entry ct_read_entry oc_read_machine kV_read_machine dc_read_machine pm_read_machine cd_read_machine ct_read_machine oc_L_read kV_L_read dc_L_read pm_L_read cd_L_read ct_L_read oc_L_same kV_L_same dc_L_same pm_L_same cd_L_same ct_L_same oc_L_word kV_L_word dc_L_word pm_L_word cd_L_word ct_L_word oc_L_right kV_L_right dc_L_right pm_L_right cd_L_right ct_L_right oc_L_bent_text kV_L_bent_text dc_L_bent_text pm_L_bent_text cd_L_bent_text ct_L_bent_text oc_law kV_law dc_law pm_law cd_law ct_law : Value} {tk_MOST_ROWS tk_MOST_SIGNS tk_FIGURES tk_ROWS : Tok} (X : K.In h) (G : h.Ns mainGlobals mg) (hfa : mg "law" = some (.ref fa))
    (n_NoText : PySem.W.nsIn K mainGlobals "NoText" = some (some (.ref C_NoText)))
    (n_MillError : PySem.W.nsIn K mainGlobals "MillError" = some (some (.ref C_MillError)))
    (n_NoMachine : PySem.W.nsIn K mainGlobals "NoMachine" = some (some (.ref C_NoMachine)))
    (n_NoName : PySem.W.nsIn K mainGlobals "NoName" = some (some (.ref C_NoName)))
    (n_Twice : PySem.W.nsIn K mainGlobals "Twice" = some (some (.ref C_Twice)))
    (n_Full : PySem.W.nsIn K mainGlobals "Full" = some (some (.ref C_Full)))
    (n_NoSuch : PySem.W.nsIn K mainGlobals "NoSuch" = some (some (.ref C_NoSuch)))
    (n_NoPaper : PySem.W.nsIn K mainGlobals "NoPaper" = some (some (.ref C_NoPaper)))
    (n_NoDeed : PySem.W.nsIn K mainGlobals "NoDeed" = some (some (.ref C_NoDeed)))
    (n_NoSize : PySem.W.nsIn K mainGlobals "NoSize" = some (some (.ref C_NoSize)))
    (n_L_mixed : PySem.W.nsIn K mainGlobals "_law_mixed" = some (some (.ref a_L_mixed)))
    (l_L_mixed : K.lookup a_L_mixed = some ⟨oc_L_mixed, od_L_mixed, .func (PySem.W.fnOf "_law_mixed" "_law_mixed" (defArgs s_L_mixed) (defBody s_L_mixed) (defScope s_L_mixed) .none kV_L_mixed dc_L_mixed pm_L_mixed an_L_mixed cd_L_mixed ct_L_mixed), sl_L_mixed⟩)
    (c_L_mixed : PySem.W.codeIn K cd_L_mixed "_law_mixed" = true)
    (k_L_mixed : PySem.W.keepIn K (.ref a_L_mixed) = true)
    (n_L_purse : PySem.W.nsIn K mainGlobals "_law_purse" = some (some (.ref a_L_purse)))
    (l_L_purse : K.lookup a_L_purse = some ⟨oc_L_purse, od_L_purse, .func (PySem.W.fnOf "_law_purse" "_law_purse" (defArgs s_L_purse) (defBody s_L_purse) (defScope s_L_purse) .none kV_L_purse dc_L_purse pm_L_purse an_L_purse cd_L_purse ct_L_purse), sl_L_purse⟩)
    (c_L_purse : PySem.W.codeIn K cd_L_purse "_law_purse" = true)
    (k_L_purse : PySem.W.keepIn K (.ref a_L_purse) = true)
    (n_L_draw : PySem.W.nsIn K mainGlobals "_law_draw" = some (some (.ref a_L_draw)))
    (l_L_draw : K.lookup a_L_draw = some ⟨oc_L_draw, od_L_draw, .func (PySem.W.fnOf "_law_draw" "_law_draw" (defArgs s_L_draw) (defBody s_L_draw) (defScope s_L_draw) .none kV_L_draw dc_L_draw pm_L_draw an_L_draw cd_L_draw ct_L_draw), sl_L_draw⟩)
    (c_L_draw : PySem.W.codeIn K cd_L_draw "_law_draw" = true)
    (k_L_draw : PySem.W.keepIn K (.ref a_L_draw) = true)
    (n_L_machine : PySem.W.nsIn K mainGlobals "_law_machine" = some (some (.ref a_L_machine)))
    (l_L_machine : K.lookup a_L_machine = some ⟨oc_L_machine, od_L_machine, .func (PySem.W.fnOf "_law_machine" "_law_machine" (defArgs s_L_machine) (defBody s_L_machine) (defScope s_L_machine) .none kV_L_machine dc_L_machine pm_L_machine an_L_machine cd_L_machine ct_L_machine), sl_L_machine⟩)
    (c_L_machine : PySem.W.codeIn K cd_L_machine "_law_machine" = true)
    (k_L_machine : PySem.W.keepIn K (.ref a_L_machine) = true)
    (n_L_entry_text : PySem.W.nsIn K mainGlobals "_law_entry_text" = some (some (.ref a_L_entry_text)))
    (l_L_entry_text : K.lookup a_L_entry_text = some ⟨oc_L_entry_text, od_L_entry_text, .func (PySem.W.fnOf "_law_entry_text" "_law_entry_text" (defArgs s_L_entry_text) (defBody s_L_entry_text) (defScope s_L_entry_text) .none kV_L_entry_text dc_L_entry_text pm_L_entry_text an_L_entry_text cd_L_entry_text ct_L_entry_text), sl_L_entry_text⟩)
    (c_L_entry_text : PySem.W.codeIn K cd_L_entry_text "_law_entry_text" = true)
    (k_L_entry_text : PySem.W.keepIn K (.ref a_L_entry_text) = true)
    (n_L_text : PySem.W.nsIn K mainGlobals "_law_text" = some (some (.ref a_L_text)))
    (l_L_text : K.lookup a_L_text = some ⟨oc_L_text, od_L_text, .func (PySem.W.fnOf "_law_text" "_law_text" (defArgs s_L_text) (defBody s_L_text) (defScope s_L_text) .none kV_L_text dc_L_text pm_L_text an_L_text cd_L_text ct_L_text), sl_L_text⟩)
    (c_L_text : PySem.W.codeIn K cd_L_text "_law_text" = true)
    (k_L_text : PySem.W.keepIn K (.ref a_L_text) = true)
    (n_L_is_entry : PySem.W.nsIn K mainGlobals "_law_is_entry" = some (some (.ref a_L_is_entry)))
    (l_L_is_entry : K.lookup a_L_is_entry = some ⟨oc_L_is_entry, od_L_is_entry, .func (PySem.W.fnOf "_law_is_entry" "_law_is_entry" (defArgs s_L_is_entry) (defBody s_L_is_entry) (defScope s_L_is_entry) .none kV_L_is_entry dc_L_is_entry pm_L_is_entry an_L_is_entry cd_L_is_entry ct_L_is_entry), sl_L_is_entry⟩)
    (c_L_is_entry : PySem.W.codeIn K cd_L_is_entry "_law_is_entry" = true)
    (k_L_is_entry : PySem.W.keepIn K (.ref a_L_is_entry) = true)
    (n_L_is_machine : PySem.W.nsIn K mainGlobals "_law_is_machine" = some (some (.ref a_L_is_machine)))
    (l_L_is_machine : K.lookup a_L_is_machine = some ⟨oc_L_is_machine, od_L_is_machine, .func (PySem.W.fnOf "_law_is_machine" "_law_is_machine" (defArgs s_L_is_machine) (defBody s_L_is_machine) (defScope s_L_is_machine) .none kV_L_is_machine dc_L_is_machine pm_L_is_machine an_L_is_machine cd_L_is_machine ct_L_is_machine), sl_L_is_machine⟩)
    (c_L_is_machine : PySem.W.codeIn K cd_L_is_machine "_law_is_machine" = true)
    (k_L_is_machine : PySem.W.keepIn K (.ref a_L_is_machine) = true)
    (n_L_entry_of : PySem.W.nsIn K mainGlobals "_law_entry_of" = some (some (.ref a_L_entry_of)))
    (l_L_entry_of : K.lookup a_L_entry_of = some ⟨oc_L_entry_of, od_L_entry_of, .func (PySem.W.fnOf "_law_entry_of" "_law_entry_of" (defArgs s_L_entry_of) (defBody s_L_entry_of) (defScope s_L_entry_of) .none kV_L_entry_of dc_L_entry_of pm_L_entry_of an_L_entry_of cd_L_entry_of ct_L_entry_of), sl_L_entry_of⟩)
    (c_L_entry_of : PySem.W.codeIn K cd_L_entry_of "_law_entry_of" = true)
    (k_L_entry_of : PySem.W.keepIn K (.ref a_L_entry_of) = true)
    (n_L_machine_of : PySem.W.nsIn K mainGlobals "_law_machine_of" = some (some (.ref a_L_machine_of)))
    (l_L_machine_of : K.lookup a_L_machine_of = some ⟨oc_L_machine_of, od_L_machine_of, .func (PySem.W.fnOf "_law_machine_of" "_law_machine_of" (defArgs s_L_machine_of) (defBody s_L_machine_of) (defScope s_L_machine_of) .none kV_L_machine_of dc_L_machine_of pm_L_machine_of an_L_machine_of cd_L_machine_of ct_L_machine_of), sl_L_machine_of⟩)
    (c_L_machine_of : PySem.W.codeIn K cd_L_machine_of "_law_machine_of" = true)
    (k_L_machine_of : PySem.W.keepIn K (.ref a_L_machine_of) = true)
    (n_must : PySem.W.nsIn K mainGlobals "must" = some (some (.ref a_must)))
    (l_must : K.lookup a_must = some ⟨oc_must, od_must, .func (PySem.W.fnOf "must" "must" (defArgs s_must) (defBody s_must) (defScope s_must) .none kV_must dc_must pm_must an_must cd_must ct_must), sl_must⟩)
    (c_must : PySem.W.codeIn K cd_must "must" = true)
    (k_must : PySem.W.keepIn K (.ref a_must) = true)
    (n_is_entry : PySem.W.nsIn K mainGlobals "is_entry" = some (some (.ref a_is_entry)))
    (l_is_entry : K.lookup a_is_entry = some ⟨oc_is_entry, od_is_entry, .func (PySem.W.fnOf "is_entry" "is_entry" (defArgs s_is_entry) (defBody s_is_entry) (defScope s_is_entry) .none kV_is_entry dc_is_entry pm_is_entry an_is_entry cd_is_entry ct_is_entry), sl_is_entry⟩)
    (c_is_entry : PySem.W.codeIn K cd_is_entry "is_entry" = true)
    (k_is_entry : PySem.W.keepIn K (.ref a_is_entry) = true)
    (n_is_machine : PySem.W.nsIn K mainGlobals "is_machine" = some (some (.ref a_is_machine)))
    (l_is_machine : K.lookup a_is_machine = some ⟨oc_is_machine, od_is_machine, .func (PySem.W.fnOf "is_machine" "is_machine" (defArgs s_is_machine) (defBody s_is_machine) (defScope s_is_machine) .none kV_is_machine dc_is_machine pm_is_machine an_is_machine cd_is_machine ct_is_machine), sl_is_machine⟩)
    (c_is_machine : PySem.W.codeIn K cd_is_machine "is_machine" = true)
    (k_is_machine : PySem.W.keepIn K (.ref a_is_machine) = true)
    (n_read_entry : PySem.W.nsIn K mainGlobals "read_entry" = some (some (.ref a_read_entry)))
    (l_read_entry : K.lookup a_read_entry = some ⟨oc_read_entry, od_read_entry, .func (PySem.W.fnOf "read_entry" "read_entry" (defArgs s_read_entry) (defBody s_read_entry) (defScope s_read_entry) .none kV_read_entry dc_read_entry pm_read_entry an_read_entry cd_read_entry ct_read_entry), sl_read_entry⟩)
    (c_read_entry : PySem.W.codeIn K cd_read_entry "read_entry" = true)
    (k_read_entry : PySem.W.keepIn K (.ref a_read_entry) = true)
    (n_read_machine : PySem.W.nsIn K mainGlobals "read_machine" = some (some (.ref a_read_machine)))
    (l_read_machine : K.lookup a_read_machine = some ⟨oc_read_machine, od_read_machine, .func (PySem.W.fnOf "read_machine" "read_machine" (defArgs s_read_machine) (defBody s_read_machine) (defScope s_read_machine) .none kV_read_machine dc_read_machine pm_read_machine an_read_machine cd_read_machine ct_read_machine), sl_read_machine⟩)
    (c_read_machine : PySem.W.codeIn K cd_read_machine "read_machine" = true)
    (k_read_machine : PySem.W.keepIn K (.ref a_read_machine) = true)
    (n_L_read : PySem.W.nsIn K mainGlobals "_law_read" = some (some (.ref a_L_read)))
    (l_L_read : K.lookup a_L_read = some ⟨oc_L_read, od_L_read, .func (PySem.W.fnOf "_law_read" "_law_read" (defArgs s_L_read) (defBody s_L_read) (defScope s_L_read) .none kV_L_read dc_L_read pm_L_read an_L_read cd_L_read ct_L_read), sl_L_read⟩)
    (c_L_read : PySem.W.codeIn K cd_L_read "_law_read" = true)
    (k_L_read : PySem.W.keepIn K (.ref a_L_read) = true)
    (n_L_same : PySem.W.nsIn K mainGlobals "_law_same" = some (some (.ref a_L_same)))
    (l_L_same : K.lookup a_L_same = some ⟨oc_L_same, od_L_same, .func (PySem.W.fnOf "_law_same" "_law_same" (defArgs s_L_same) (defBody s_L_same) (defScope s_L_same) .none kV_L_same dc_L_same pm_L_same an_L_same cd_L_same ct_L_same), sl_L_same⟩)
    (c_L_same : PySem.W.codeIn K cd_L_same "_law_same" = true)
    (k_L_same : PySem.W.keepIn K (.ref a_L_same) = true)
    (n_L_word : PySem.W.nsIn K mainGlobals "_law_word" = some (some (.ref a_L_word)))
    (l_L_word : K.lookup a_L_word = some ⟨oc_L_word, od_L_word, .func (PySem.W.fnOf "_law_word" "_law_word" (defArgs s_L_word) (defBody s_L_word) (defScope s_L_word) .none kV_L_word dc_L_word pm_L_word an_L_word cd_L_word ct_L_word), sl_L_word⟩)
    (c_L_word : PySem.W.codeIn K cd_L_word "_law_word" = true)
    (k_L_word : PySem.W.keepIn K (.ref a_L_word) = true)
    (n_L_right : PySem.W.nsIn K mainGlobals "_law_right" = some (some (.ref a_L_right)))
    (l_L_right : K.lookup a_L_right = some ⟨oc_L_right, od_L_right, .func (PySem.W.fnOf "_law_right" "_law_right" (defArgs s_L_right) (defBody s_L_right) (defScope s_L_right) .none kV_L_right dc_L_right pm_L_right an_L_right cd_L_right ct_L_right), sl_L_right⟩)
    (c_L_right : PySem.W.codeIn K cd_L_right "_law_right" = true)
    (k_L_right : PySem.W.keepIn K (.ref a_L_right) = true)
    (n_L_bent_text : PySem.W.nsIn K mainGlobals "_law_bent_text" = some (some (.ref a_L_bent_text)))
    (l_L_bent_text : K.lookup a_L_bent_text = some ⟨oc_L_bent_text, od_L_bent_text, .func (PySem.W.fnOf "_law_bent_text" "_law_bent_text" (defArgs s_L_bent_text) (defBody s_L_bent_text) (defScope s_L_bent_text) .none kV_L_bent_text dc_L_bent_text pm_L_bent_text an_L_bent_text cd_L_bent_text ct_L_bent_text), sl_L_bent_text⟩)
    (c_L_bent_text : PySem.W.codeIn K cd_L_bent_text "_law_bent_text" = true)
    (k_L_bent_text : PySem.W.keepIn K (.ref a_L_bent_text) = true)
    (n_law : PySem.W.nsIn K mainGlobals "law" = some (some (.ref a_law)))
    (l_law : K.lookup a_law = some ⟨oc_law, od_law, .func (PySem.W.fnOf "law" "law" (defArgs s_law) (defBody s_law) (defScope s_law) .none kV_law dc_law pm_law an_law cd_law ct_law), sl_law⟩)
    (c_law : PySem.W.codeIn K cd_law "law" = true)
    (k_law : PySem.W.keepIn K (.ref a_law) = true)
    (n_MOST_ROWS : PySem.W.nsIn K mainGlobals "MOST_ROWS" = some (some (.int 4 tk_MOST_ROWS)))
    (n_MOST_SIGNS : PySem.W.nsIn K mainGlobals "MOST_SIGNS" = some (some (.int 4 tk_MOST_SIGNS)))
    (n_FIGURES : PySem.W.nsIn K mainGlobals "FIGURES" = some (some (.str "0123456789" tk_FIGURES)))
    (n_ROWS : PySem.W.nsIn K mainGlobals "ROWS" = some (some (.str "ABCD" tk_ROWS)))
    (z_range : PySem.W.nsIn K mainGlobals "range" = some none)
    (z_len : PySem.W.nsIn K mainGlobals "len" = some none)
    (z_abs : PySem.W.nsIn K mainGlobals "abs" = some none)
    (z_str : PySem.W.nsIn K mainGlobals "str" = some none)
    (z_int : PySem.W.nsIn K mainGlobals "int" = some none)
    (z_min : PySem.W.nsIn K mainGlobals "min" = some none)
    (z_max : PySem.W.nsIn K mainGlobals "max" = some none)
    (z_all : PySem.W.nsIn K mainGlobals "all" = some none)
    (z_isinstance : PySem.W.nsIn K mainGlobals "isinstance" = some none)
    (z_tuple : PySem.W.nsIn K mainGlobals "tuple" = some none)
    (z_list : PySem.W.nsIn K mainGlobals "list" = some none)
    (z_bool : PySem.W.nsIn K mainGlobals "bool" = some none)
    (z_ValueError : PySem.W.nsIn K mainGlobals "ValueError" = some none)
    (fa_x_NoText : PySem.W.excIn K C_NoText [.type "ValueError", .type "Exception", .type "BaseException", .type "object"] "ValueError.__new__" = true)
    (fa_k_NoText : PySem.W.keepIn K (.ref C_NoText) = true)
    (fa_b_NoText : PySem.W.subIn K (.ref C_NoText) (.type "BaseException") = some true)
    (fa_t_NoText : PySem.W.typeIn K (.ref C_NoText) = some (.type "type"))
    (fa_h_NoText : PySem.W.hasDictIn K C_NoText = true)
    (fa_k_MillError : PySem.W.keepIn K (.ref C_MillError) = true)
    (fa_b_MillError : PySem.W.subIn K (.ref C_MillError) (.type "BaseException") = some true)
    (fa_t_MillError : PySem.W.typeIn K (.ref C_MillError) = some (.type "type"))
    (fa_h_MillError : PySem.W.hasDictIn K C_MillError = true)
    (fa_hg_NoText : PySem.W.findIn K (.ref C_NoText) "__getattribute__" = some (some (.builtin "BaseException.__getattribute__")))
    (fa_hk_NoText : PySem.W.findIn K (.ref C_NoText) "__getattr__" = some none)
    (fa_ha_NoText : PySem.W.findIn K (.ref C_NoText) "__class__" = some (some (.builtin "object.__class__")))
    (fa_hm_NoText : PySem.W.mroIn K C_NoText (.type "object") = some true)
    (fa_s_NoText_MillError : PySem.W.subIn K (.ref C_NoText) (.ref C_MillError) = some true)
    (fa_hn_ : PySem.W.specialIn K (.builtin "object.__class__") "__get__" = some (some (.builtin "getset_descriptor.__get__")))
    (fa_ht_ : PySem.W.takesIn K (.builtin "object.__class__") = some true)
    (fa_i_NoMachine : PySem.W.isClsIn K C_NoMachine = true)
    (fa_se_NoMachine : PySem.W.subIn K (.ref C_NoMachine) (.ref C_NoMachine) = some true)
    (fa_t_NoMachine : PySem.W.typeIn K (.ref C_NoMachine) = some (.type "type"))
    (fa_s_NoText_NoMachine : PySem.W.subIn K (.ref C_NoText) (.ref C_NoMachine) = some false)
    (fa_sn_NoMachine : PySem.W.subIn K (.type "NoneType") (.ref C_NoMachine) = some false)
    (fa_i_NoText : PySem.W.isClsIn K C_NoText = true)
    (fa_se_NoText : PySem.W.subIn K (.ref C_NoText) (.ref C_NoText) = some true)
    (fa_s_NoText_NoText : PySem.W.subIn K (.ref C_NoText) (.ref C_NoText) = some true)
    (fa_sn_NoText : PySem.W.subIn K (.type "NoneType") (.ref C_NoText) = some false)
    (fa_i_NoName : PySem.W.isClsIn K C_NoName = true)
    (fa_se_NoName : PySem.W.subIn K (.ref C_NoName) (.ref C_NoName) = some true)
    (fa_t_NoName : PySem.W.typeIn K (.ref C_NoName) = some (.type "type"))
    (fa_s_NoText_NoName : PySem.W.subIn K (.ref C_NoText) (.ref C_NoName) = some false)
    (fa_sn_NoName : PySem.W.subIn K (.type "NoneType") (.ref C_NoName) = some false)
    (fa_i_Twice : PySem.W.isClsIn K C_Twice = true)
    (fa_se_Twice : PySem.W.subIn K (.ref C_Twice) (.ref C_Twice) = some true)
    (fa_t_Twice : PySem.W.typeIn K (.ref C_Twice) = some (.type "type"))
    (fa_s_NoText_Twice : PySem.W.subIn K (.ref C_NoText) (.ref C_Twice) = some false)
    (fa_sn_Twice : PySem.W.subIn K (.type "NoneType") (.ref C_Twice) = some false)
    (fa_i_Full : PySem.W.isClsIn K C_Full = true)
    (fa_se_Full : PySem.W.subIn K (.ref C_Full) (.ref C_Full) = some true)
    (fa_t_Full : PySem.W.typeIn K (.ref C_Full) = some (.type "type"))
    (fa_s_NoText_Full : PySem.W.subIn K (.ref C_NoText) (.ref C_Full) = some false)
    (fa_sn_Full : PySem.W.subIn K (.type "NoneType") (.ref C_Full) = some false)
    (fa_i_NoSuch : PySem.W.isClsIn K C_NoSuch = true)
    (fa_se_NoSuch : PySem.W.subIn K (.ref C_NoSuch) (.ref C_NoSuch) = some true)
    (fa_t_NoSuch : PySem.W.typeIn K (.ref C_NoSuch) = some (.type "type"))
    (fa_s_NoText_NoSuch : PySem.W.subIn K (.ref C_NoText) (.ref C_NoSuch) = some false)
    (fa_sn_NoSuch : PySem.W.subIn K (.type "NoneType") (.ref C_NoSuch) = some false)
    (fa_i_NoPaper : PySem.W.isClsIn K C_NoPaper = true)
    (fa_se_NoPaper : PySem.W.subIn K (.ref C_NoPaper) (.ref C_NoPaper) = some true)
    (fa_t_NoPaper : PySem.W.typeIn K (.ref C_NoPaper) = some (.type "type"))
    (fa_s_NoText_NoPaper : PySem.W.subIn K (.ref C_NoText) (.ref C_NoPaper) = some false)
    (fa_sn_NoPaper : PySem.W.subIn K (.type "NoneType") (.ref C_NoPaper) = some false)
    (fa_i_NoDeed : PySem.W.isClsIn K C_NoDeed = true)
    (fa_se_NoDeed : PySem.W.subIn K (.ref C_NoDeed) (.ref C_NoDeed) = some true)
    (fa_t_NoDeed : PySem.W.typeIn K (.ref C_NoDeed) = some (.type "type"))
    (fa_s_NoText_NoDeed : PySem.W.subIn K (.ref C_NoText) (.ref C_NoDeed) = some false)
    (fa_sn_NoDeed : PySem.W.subIn K (.type "NoneType") (.ref C_NoDeed) = some false)
    (fa_i_NoSize : PySem.W.isClsIn K C_NoSize = true)
    (fa_se_NoSize : PySem.W.subIn K (.ref C_NoSize) (.ref C_NoSize) = some true)
    (fa_t_NoSize : PySem.W.typeIn K (.ref C_NoSize) = some (.type "type"))
    (fa_s_NoText_NoSize : PySem.W.subIn K (.ref C_NoText) (.ref C_NoSize) = some false)
    (fa_sn_NoSize : PySem.W.subIn K (.type "NoneType") (.ref C_NoSize) = some false)
    (fa_i_MillError : PySem.W.isClsIn K C_MillError = true)
    (fa_se_MillError : PySem.W.subIn K (.ref C_MillError) (.ref C_MillError) = some true)
    (fa_sn_MillError : PySem.W.subIn K (.type "NoneType") (.ref C_MillError) = some false)
    (fa_s_NoText_ValueError : PySem.W.subIn K (.ref C_NoText) (.type "ValueError") = some true) :
    ∃ fd : FuncData, (∀ (s : Shared) (v : Value), BindsTo s fd ⟨[v], []⟩ [("_law_script", v)]) ∧ ∀ base : Heap, K.In base → base.Ns mainGlobals mg → FnOk l.prog w K mg base CX0 8 fa fd ["_law_script"] (sp_law K) :=
  all_mk X G hfa (all_tx X G n_NoText n_MillError n_NoMachine n_NoName n_Twice n_Full n_NoSuch n_NoPaper n_NoDeed n_NoSize n_L_mixed l_L_mixed c_L_mixed k_L_mixed n_L_purse l_L_purse c_L_purse k_L_purse n_L_draw l_L_draw c_L_draw k_L_draw n_L_machine l_L_machine c_L_machine k_L_machine n_L_entry_text l_L_entry_text c_L_entry_text k_L_entry_text n_L_text l_L_text c_L_text k_L_text n_L_is_entry l_L_is_entry c_L_is_entry k_L_is_entry n_L_is_machine l_L_is_machine c_L_is_machine k_L_is_machine n_L_entry_of l_L_entry_of c_L_entry_of k_L_entry_of n_L_machine_of l_L_machine_of c_L_machine_of k_L_machine_of n_must l_must c_must k_must n_is_entry l_is_entry c_is_entry k_is_entry n_is_machine l_is_machine c_is_machine k_is_machine n_read_entry l_read_entry c_read_entry k_read_entry n_read_machine l_read_machine c_read_machine k_read_machine n_L_read l_L_read c_L_read k_L_read n_L_same l_L_same c_L_same k_L_same n_L_word l_L_word c_L_word k_L_word n_L_right l_L_right c_L_right k_L_right n_L_bent_text l_L_bent_text c_L_bent_text k_L_bent_text n_law l_law c_law k_law n_MOST_ROWS n_MOST_SIGNS n_FIGURES n_ROWS z_range z_len z_abs z_str z_int z_min z_max z_all z_isinstance z_tuple z_list z_bool z_ValueError fa_x_NoText fa_k_NoText fa_b_NoText fa_t_NoText fa_h_NoText fa_k_MillError fa_b_MillError fa_t_MillError fa_h_MillError fa_hg_NoText fa_hk_NoText fa_ha_NoText fa_hm_NoText fa_s_NoText_MillError fa_hn_ fa_ht_ fa_i_NoMachine fa_se_NoMachine fa_t_NoMachine fa_s_NoText_NoMachine fa_sn_NoMachine fa_i_NoText fa_se_NoText fa_s_NoText_NoText fa_sn_NoText fa_i_NoName fa_se_NoName fa_t_NoName fa_s_NoText_NoName fa_sn_NoName fa_i_Twice fa_se_Twice fa_t_Twice fa_s_NoText_Twice fa_sn_Twice fa_i_Full fa_se_Full fa_t_Full fa_s_NoText_Full fa_sn_Full fa_i_NoSuch fa_se_NoSuch fa_t_NoSuch fa_s_NoText_NoSuch fa_sn_NoSuch fa_i_NoPaper fa_se_NoPaper fa_t_NoPaper fa_s_NoText_NoPaper fa_sn_NoPaper fa_i_NoDeed fa_se_NoDeed fa_t_NoDeed fa_s_NoText_NoDeed fa_sn_NoDeed fa_i_NoSize fa_se_NoSize fa_t_NoSize fa_s_NoText_NoSize fa_sn_NoSize fa_i_MillError fa_se_MillError fa_sn_MillError fa_s_NoText_ValueError) ⟨_, _, _, _, _, _, rfl⟩
end E
open PySem PySem.W PyProof.Rows
set_option maxRecDepth 100000 in
set_option maxHeartbeats 0 in
theorem PySem.Challenge.cw_endnever_k12_machines_read_holds : PySem.Challenge.rw_endnever_k12_machines_read.Holds := by
  w_on; o_law; k_head; (case hw => w_witness2)
  k_fill
  refine E.walk (l := PySem.Challenge.rw_endnever_k12_machines_read) rfl rfl (fun w h Y => PySem.W.kIn_of Y) ?F
  case F =>
    intro w mg fa h KX G hmg
    refine' E.all_go KX G hmg ?n_NoText ?n_MillError ?n_NoMachine ?n_NoName ?n_Twice ?n_Full ?n_NoSuch ?n_NoPaper ?n_NoDeed ?n_NoSize ?n_L_mixed ?l_L_mixed ?c_L_mixed ?k_L_mixed ?n_L_purse ?l_L_purse ?c_L_purse ?k_L_purse ?n_L_draw ?l_L_draw ?c_L_draw ?k_L_draw ?n_L_machine ?l_L_machine ?c_L_machine ?k_L_machine ?n_L_entry_text ?l_L_entry_text ?c_L_entry_text ?k_L_entry_text ?n_L_text ?l_L_text ?c_L_text ?k_L_text ?n_L_is_entry ?l_L_is_entry ?c_L_is_entry ?k_L_is_entry ?n_L_is_machine ?l_L_is_machine ?c_L_is_machine ?k_L_is_machine ?n_L_entry_of ?l_L_entry_of ?c_L_entry_of ?k_L_entry_of ?n_L_machine_of ?l_L_machine_of ?c_L_machine_of ?k_L_machine_of ?n_must ?l_must ?c_must ?k_must ?n_is_entry ?l_is_entry ?c_is_entry ?k_is_entry ?n_is_machine ?l_is_machine ?c_is_machine ?k_is_machine ?n_read_entry ?l_read_entry ?c_read_entry ?k_read_entry ?n_read_machine ?l_read_machine ?c_read_machine ?k_read_machine ?n_L_read ?l_L_read ?c_L_read ?k_L_read ?n_L_same ?l_L_same ?c_L_same ?k_L_same ?n_L_word ?l_L_word ?c_L_word ?k_L_word ?n_L_right ?l_L_right ?c_L_right ?k_L_right ?n_L_bent_text ?l_L_bent_text ?c_L_bent_text ?k_L_bent_text ?n_law ?l_law ?c_law ?k_law ?n_MOST_ROWS ?n_MOST_SIGNS ?n_FIGURES ?n_ROWS ?z_range ?z_len ?z_abs ?z_str ?z_int ?z_min ?z_max ?z_all ?z_isinstance ?z_tuple ?z_list ?z_bool ?z_ValueError ?fa_x_NoText ?fa_k_NoText ?fa_b_NoText ?fa_t_NoText ?fa_h_NoText ?fa_k_MillError ?fa_b_MillError ?fa_t_MillError ?fa_h_MillError ?fa_hg_NoText ?fa_hk_NoText ?fa_ha_NoText ?fa_hm_NoText ?fa_s_NoText_MillError ?fa_hn_ ?fa_ht_ ?fa_i_NoMachine ?fa_se_NoMachine ?fa_t_NoMachine ?fa_s_NoText_NoMachine ?fa_sn_NoMachine ?fa_i_NoText ?fa_se_NoText ?fa_s_NoText_NoText ?fa_sn_NoText ?fa_i_NoName ?fa_se_NoName ?fa_t_NoName ?fa_s_NoText_NoName ?fa_sn_NoName ?fa_i_Twice ?fa_se_Twice ?fa_t_Twice ?fa_s_NoText_Twice ?fa_sn_Twice ?fa_i_Full ?fa_se_Full ?fa_t_Full ?fa_s_NoText_Full ?fa_sn_Full ?fa_i_NoSuch ?fa_se_NoSuch ?fa_t_NoSuch ?fa_s_NoText_NoSuch ?fa_sn_NoSuch ?fa_i_NoPaper ?fa_se_NoPaper ?fa_t_NoPaper ?fa_s_NoText_NoPaper ?fa_sn_NoPaper ?fa_i_NoDeed ?fa_se_NoDeed ?fa_t_NoDeed ?fa_s_NoText_NoDeed ?fa_sn_NoDeed ?fa_i_NoSize ?fa_se_NoSize ?fa_t_NoSize ?fa_s_NoText_NoSize ?fa_sn_NoSize ?fa_i_MillError ?fa_se_MillError ?fa_sn_MillError ?fa_s_NoText_ValueError
    (case n_NoText => k_is); (case n_MillError => k_is); (case n_NoMachine => k_is); (case n_NoName => k_is); (case n_Twice => k_is); (case n_Full => k_is); (case n_NoSuch => k_is); (case n_NoPaper => k_is)
    (case n_NoDeed => k_is); (case n_NoSize => k_is); (case n_L_mixed => k_is); (case l_L_mixed => k_is); (case c_L_mixed => k_is); (case k_L_mixed => k_is); (case n_L_purse => k_is); (case l_L_purse => k_is)
    (case c_L_purse => k_is); (case k_L_purse => k_is); (case n_L_draw => k_is); (case l_L_draw => k_is); (case c_L_draw => k_is); (case k_L_draw => k_is); (case n_L_machine => k_is); (case l_L_machine => k_is)
    (case c_L_machine => k_is); (case k_L_machine => k_is); (case n_L_entry_text => k_is); (case l_L_entry_text => k_is); (case c_L_entry_text => k_is); (case k_L_entry_text => k_is); (case n_L_text => k_is); (case l_L_text => k_is)
    (case c_L_text => k_is); (case k_L_text => k_is); (case n_L_is_entry => k_is); (case l_L_is_entry => k_is); (case c_L_is_entry => k_is); (case k_L_is_entry => k_is); (case n_L_is_machine => k_is); (case l_L_is_machine => k_is)
    (case c_L_is_machine => k_is); (case k_L_is_machine => k_is); (case n_L_entry_of => k_is); (case l_L_entry_of => k_is); (case c_L_entry_of => k_is); (case k_L_entry_of => k_is); (case n_L_machine_of => k_is); (case l_L_machine_of => k_is)
    (case c_L_machine_of => k_is); (case k_L_machine_of => k_is); (case n_must => k_is); (case l_must => k_is); (case c_must => k_is); (case k_must => k_is); (case n_is_entry => k_is); (case l_is_entry => k_is)
    (case c_is_entry => k_is); (case k_is_entry => k_is); (case n_is_machine => k_is); (case l_is_machine => k_is); (case c_is_machine => k_is); (case k_is_machine => k_is); (case n_read_entry => k_is); (case l_read_entry => k_is)
    (case c_read_entry => k_is); (case k_read_entry => k_is); (case n_read_machine => k_is); (case l_read_machine => k_is); (case c_read_machine => k_is); (case k_read_machine => k_is); (case n_L_read => k_is); (case l_L_read => k_is)
    (case c_L_read => k_is); (case k_L_read => k_is); (case n_L_same => k_is); (case l_L_same => k_is); (case c_L_same => k_is); (case k_L_same => k_is); (case n_L_word => k_is); (case l_L_word => k_is)
    (case c_L_word => k_is); (case k_L_word => k_is); (case n_L_right => k_is); (case l_L_right => k_is); (case c_L_right => k_is); (case k_L_right => k_is); (case n_L_bent_text => k_is); (case l_L_bent_text => k_is)
    (case c_L_bent_text => k_is); (case k_L_bent_text => k_is); (case n_law => k_is); (case l_law => k_is); (case c_law => k_is); (case k_law => k_is); (case n_MOST_ROWS => k_is); (case n_MOST_SIGNS => k_is)
    (case n_FIGURES => k_is); (case n_ROWS => k_is); (case z_range => k_is); (case z_len => k_is); (case z_abs => k_is); (case z_str => k_is); (case z_int => k_is); (case z_min => k_is)
    (case z_max => k_is); (case z_all => k_is); (case z_isinstance => k_is); (case z_tuple => k_is); (case z_list => k_is); (case z_bool => k_is); (case z_ValueError => k_is); (case fa_x_NoText => k_exc)
    (case fa_k_NoText => k_is); (case fa_b_NoText => k_is); (case fa_t_NoText => k_is); (case fa_h_NoText => k_is); (case fa_k_MillError => k_is); (case fa_b_MillError => k_is); (case fa_t_MillError => k_is); (case fa_h_MillError => k_is)
    (case fa_hg_NoText => k_is); (case fa_hk_NoText => k_is); (case fa_ha_NoText => k_is); (case fa_hm_NoText => k_is); (case fa_s_NoText_MillError => first | rfl | k_is); (case fa_hn_ => k_is); (case fa_ht_ => k_is); (case fa_i_NoMachine => k_is)
    (case fa_se_NoMachine => first | rfl | k_is); (case fa_t_NoMachine => k_is); (case fa_s_NoText_NoMachine => first | rfl | k_is); (case fa_sn_NoMachine => k_is); (case fa_i_NoText => k_is); (case fa_se_NoText => first | rfl | k_is); (case fa_s_NoText_NoText => first | rfl | k_is); (case fa_sn_NoText => k_is)
    (case fa_i_NoName => k_is); (case fa_se_NoName => first | rfl | k_is); (case fa_t_NoName => k_is); (case fa_s_NoText_NoName => first | rfl | k_is); (case fa_sn_NoName => k_is); (case fa_i_Twice => k_is); (case fa_se_Twice => first | rfl | k_is); (case fa_t_Twice => k_is)
    (case fa_s_NoText_Twice => first | rfl | k_is); (case fa_sn_Twice => k_is); (case fa_i_Full => k_is); (case fa_se_Full => first | rfl | k_is); (case fa_t_Full => k_is); (case fa_s_NoText_Full => first | rfl | k_is); (case fa_sn_Full => k_is); (case fa_i_NoSuch => k_is)
    (case fa_se_NoSuch => first | rfl | k_is); (case fa_t_NoSuch => k_is); (case fa_s_NoText_NoSuch => first | rfl | k_is); (case fa_sn_NoSuch => k_is); (case fa_i_NoPaper => k_is); (case fa_se_NoPaper => first | rfl | k_is); (case fa_t_NoPaper => k_is); (case fa_s_NoText_NoPaper => first | rfl | k_is)
    (case fa_sn_NoPaper => k_is); (case fa_i_NoDeed => k_is); (case fa_se_NoDeed => first | rfl | k_is); (case fa_t_NoDeed => k_is); (case fa_s_NoText_NoDeed => first | rfl | k_is); (case fa_sn_NoDeed => k_is); (case fa_i_NoSize => k_is); (case fa_se_NoSize => first | rfl | k_is)
    (case fa_t_NoSize => k_is); (case fa_s_NoText_NoSize => first | rfl | k_is); (case fa_sn_NoSize => k_is); (case fa_i_MillError => k_is); (case fa_se_MillError => first | rfl | k_is); (case fa_sn_MillError => k_is); (case fa_s_NoText_ValueError => k_is)
#print axioms PySem.Challenge.cw_endnever_k12_machines_read_holds
