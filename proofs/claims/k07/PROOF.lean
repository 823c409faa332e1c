import PyProof.Rows.All
import Wide.All
import OpenK.AllK
import Wide.FinOn
import HandS.ForMost
import HandS.SortRule
import HandS.IsInst
import HandS.TupAny
import HandS.TupMul
import HandS.Walk
import HandS.More
import HandS.ListItems
import HandS.Wide
import KE.KTupSum
import HandS.Style
import HandS.Exc
import HandS.ExcOwn
import HandS.ExcIs
import HandS.WordsExc
import HandS.TryOnly
import KE.KIsAll
import HandS.ExcValue
import PySem.Challenge.RW_endnever_k07_refusals_made
set_option Elab.async false
set_option maxRecDepth 100000
set_option maxHeartbeats 4000000
namespace E
open PySem L2
/-! ### small words of our own -/
theorem inr_int {x : V} {ns : List Int} {i : Nat} (h : (ns.map V.int)[i]? = some x) : ∃ z, x = V.int z ∧ ns[i]? = some z := by
  rw [List.getElem?_map] at h
  cases e : ns[i]? with
  | none => rw [e] at h; cases h
  | some z => rw [e] at h; exact ⟨z, (Option.some.inj h).symm, rfl⟩
/-- F stands in H, whatever comes to it -/
theorem sm_new {F H : Hp} {p : Addr} {o : HO} (s : Same F H) (n : H p = Option.none) : Same F (upd H p o) := fun b u e => by
  rw [upd_ne (ne_of_none (s b u e) n)]
  exact s b u e
theorem sm_set {F H : Hp} {p : Addr} {o : HO} (s : Same F H) (n : F p = Option.none) : Same F (upd H p o) := fun b u e => by
  rw [upd_ne (ne_of_none e n)]
  exact s b u e
theorem sm_up {H : Hp} {p : Addr} {o : HO} (n : H p = none) : Same H (upd H p o) := sm_new (Same.refl H) n
theorem cut_63 {ns : List Int} (h : ns.length ≤ 63) : cutV (ns.map V.int) none (some 63) = ns.map V.int := by
  unfold cutV
  have e1 : HT.sIx (ns.map V.int).length 0 none = 0 := rfl
  have e2 : HT.sIx (ns.map V.int).length (ns.map V.int).length (some 63) = (ns.map V.int).length := by
    simp only [HT.sIx, List.length_map]
    rw [if_neg (by decide), show (63 : Int).toNat = 63 from rfl]
    omega
  rw [e1, e2, List.drop_zero, Nat.sub_zero, List.take_length]
theorem ifT {c : Bool} {A B : Prop} (h : c = true) (a : A) : if c = true then A else B := by
  rw [if_pos h]; exact a
theorem ifF {c : Bool} {A B : Prop} (h : c = false) (b : B) : if c = true then A else B := by
  rw [h, if_neg Bool.false_ne_true]; exact b
theorem one_le : 1 ≤ sizeLine := by decide
theorem two_le : 2 ≤ sizeLine := by decide
theorem three_le : 3 ≤ sizeLine := by decide
theorem five_le : 5 ≤ sizeLine := by decide
theorem nil_le : 0 ≤ sizeLine := by decide
theorem lt_size {n : Nat} (h : n ≤ 1000000) : n < sizeLine := Nat.lt_of_le_of_lt h (by decide)
theorem le_size {n : Nat} (h : n ≤ 1000000) : n ≤ sizeLine := Nat.le_of_lt (lt_size h)
theorem pi_listK {X : Cx} {K : PySem.W.Frag} {tg l : Expr} {tl : TE} (e : X.K = K) (h : PE X l tl) : PI X tg l (iList K tl) := by
  subst e; exact pi_list h
theorem pi_tupK {X : Cx} {K : PySem.W.Frag} {tg l : Expr} {tl : TE} (e : X.K = K) (h : PE X l tl) : PI X tg l (iTup K tl) := by
  subst e; exact pi_tup h
theorem crK {X : Cx} {K : PySem.W.Frag} {f : Value} {r : PySem.W.Frag → List V → Hp → VK → Prop} (e : X.K = K) (h : CallR X f (r X.K)) : CallR X f (r K) := by
  subst e; exact h
theorem orK {X : Cx} {K : PySem.W.Frag} {f : Value → Value → Sem Value} {r : PySem.W.Frag → R2} (e : X.K = K) (h : OpR X f (r X.K)) : OpR X f (r K) := by
  subst e; exact h
theorem ixK {X : Cx} {K : PySem.W.Frag} {r : PySem.W.Frag → R2} (e : X.K = K) (h : IxR X (r X.K)) : IxR X (r K) := by
  subst e; exact h
theorem slK {X : Cx} {K : PySem.W.Frag} {r : PySem.W.Frag → V → Option Int → Option Int → Hp → VK → Prop} (e : X.K = K) (h : SlR X (r X.K)) : SlR X (r K) := by
  subst e; exact h
def rLenQ (K : PySem.W.Frag) : List V → Hp → VK → Prop := fun xs H Q => ∃ p ys, xs = [.ref p] ∧ (SqL K H p ys ∨ SqT K H p ys) ∧ Q (.int ys.length) H
def rListQ (K : PySem.W.Frag) : List V → Hp → VK → Prop := fun xs H Q => ∃ p ys, xs = [.ref p] ∧ (SqL K H p ys ∨ SqT K H p ys) ∧ ∀ l, H l = none → Q (.ref l) (upd H l (.lst ys))
def rTupQ (K : PySem.W.Frag) : List V → Hp → VK → Prop := fun xs H Q => ∃ p ys, xs = [.ref p] ∧ ((SqL K H p ys ∧ ∀ l, H l = none → Q (.ref l) (upd H l (.tup ys))) ∨ (SqT K H p ys ∧ Q (.ref p) H))
theorem ne_of_none' {F H : Hp} {q : Addr} (s : Same F H) (n : H q = none) : F q = none := s.free n
/-- a comprehension without a test: its item comes in -/
theorem yes {σ : St} {H : Hp} {A : Hp → Prop} {B : Hp → Prop} (a : A H) : tYes σ H (fun b H3 => if b = true then A H3 else B H3) := by
  show if true = true then A H else B H
  rw [if_pos rfl]; exact a
theorem call_lenQ {X : Cx} : CallR X (.builtin "len") (rLenQ X.K) := call_len_seq
theorem call_listQ {X : Cx} : CallR X (.type "list") (rListQ X.K) := call_list_of
theorem call_tupQ {X : Cx} : CallR X (.type "tuple") (rTupQ X.K) := call_tuple_of
@[irreducible] def rDictP (K : PySem.W.Frag) : List V → Hp → VK → Prop := fun xs H Q => ∃ (a : Addr) (ps : List Addr) (kvs : List (Key × V)), xs = [.ref a] ∧ SqL K H a (ps.map V.ref) ∧ Paired (fun p kv => SqT K H p [kV kv.1, kv.2]) ps kvs ∧ ∀ p, H p = none → Q (.ref p) (upd H p (.dK (mergeK [] kvs)))
theorem call_dictQ {X : Cx} (hc : X.calm = true) : CallR X (.type "dict") (rDictP X.K) := by
  unfold rDictP
  exact call_dictP hc
@[irreducible] def rSortQ (K : PySem.W.Frag) : List V → Hp → VK → Prop := rSortedPO K
theorem call_sortQ {X : Cx} : CallR X (.builtin "sorted") (rSortQ X.K) := by
  unfold rSortQ
  exact cr_sortedPO
theorem pg_tupK {X : Cx} {K : PySem.W.Frag} {es : List Expr} {k n : Nat} {t : TGs} {pos : Pos} (e : X.K = K) (hc : X.calm = true) (h : PGs X es t) (hn : (assignEach es X.env).length = n := by rfl) (hst : (assignEach es X.env).findIdx? (·.1) = none := by rfl) : PG X (.Tuple es k pos) (gTup K n t) := by
  subst e; exact pg_tup hc h hn hst
theorem pe_fldK {X : Cx} {K : PySem.W.Frag} {e : Expr} {f : Str} {pos : Pos} {ta : TE} (ek : X.K = K) (he : PE X e ta) (hb : attributeBase e f X.env (eval e X.env) = eval e X.env) : PE X (.Attribute e f pos) (tFld K ta f) := by
  subst ek; exact pe_fld he hb
/-! ### what stands, what is new: F the frozen part (nobody changes it), H the heap; from F, H to F', H' with changes at mu alone -/
structure Gr (mu : Addr → Prop) (F H F' H' : Hp) : Prop where
  ff : Same F F'
  fh : Same F' H'
  nw : ∀ c o, F' c = some o → F c = some o ∨ H c = none
  fr : ∀ c o, H c = some o → ¬ mu c → H' c = some o
  th : ∀ c, H' c = none → H c = none
/-- nothing but new things -/
abbrev mu0 : Addr → Prop := fun _ => False
/-- the purse alone -/
abbrev muP (p : Addr) : Addr → Prop := fun c => c = p
section
variable {mu : Addr → Prop} {F H F1 H1 F2 H2 : Hp} {q : Addr} {o u : HO}
theorem Gr.refl (s : Same F H) : Gr mu F H F H := ⟨fun _ _ h => h, s, fun _ _ h => .inl h, fun _ _ h _ => h, fun _ h => h⟩
theorem Gr.trans (a : Gr mu F H F1 H1) (b : Gr mu F1 H1 F2 H2) : Gr mu F H F2 H2 where
  ff := fun c o h => b.ff c o (a.ff c o h)
  fh := b.fh
  nw := fun c o h => by
    rcases b.nw c o h with h | h
    · exact a.nw c o h
    · exact .inr (a.th c h)
  fr := fun c o h m => b.fr c o (a.fr c o h m) m
  th := fun c h => a.th c (b.th c h)
/-- a part that changes what is ours, or what mu has -/
theorem Gr.thn {mu' : Addr → Prop} (a : Gr mu F H F1 H1) (b : Gr mu' F1 H1 F2 H2) (k : ∀ c, mu' c → mu c ∨ H c = none) : Gr mu F H F2 H2 where
  ff := fun c o h => b.ff c o (a.ff c o h)
  fh := b.fh
  nw := fun c o h => by
    rcases b.nw c o h with h | h
    · exact a.nw c o h
    · exact .inr (a.th c h)
  fr := fun c o h m => b.fr c o (a.fr c o h m) fun z => (k c z).elim m fun n => by rw [n] at h; cases h
  th := fun c h => a.th c (b.th c h)
theorem Gr.weak {mu' : Addr → Prop} (a : Gr mu F H F1 H1) (m : ∀ c, mu c → mu' c) : Gr mu' F H F1 H1 :=
  ⟨a.ff, a.fh, a.nw, fun c o h n => a.fr c o h fun z => n (m c z), a.th⟩
theorem Gr.of0 (a : Gr mu0 F H F1 H1) : Gr mu F H F1 H1 := a.weak fun _ z => z.elim
/-- a new thing that nobody will change -/
theorem Gr.new (a : Gr mu F H F1 H1) (n : H1 q = none) : Gr mu F H (upd F1 q o) (upd H1 q o) where
  ff := fun c o h => by
    rw [upd_ne (ne_of_none (a.fh c o (a.ff c o h)) n)]
    exact a.ff c o h
  fh := fun c u h => by
    by_cases e : c = q
    · subst e; rw [upd_same] at h ⊢; exact h
    · rw [upd_ne e] at h ⊢; exact a.fh c u h
  nw := fun c u h => by
    by_cases e : c = q
    · subst e; exact .inr (a.th _ n)
    · rw [upd_ne e] at h; exact a.nw c u h
  fr := fun c u h m => by
    rw [upd_ne (ne_of_none (a.fr c u h m) n)]
    exact a.fr c u h m
  th := fun c h => by
    by_cases e : c = q
    · subst e; rw [upd_same] at h; cases h
    · rw [upd_ne e] at h; exact a.th c h
/-- a new thing that may be changed yet -/
theorem Gr.own (a : Gr mu F H F1 H1) (n : H1 q = none) : Gr mu F H F1 (upd H1 q o) where
  ff := a.ff
  fh := fun c u h => by
    rw [upd_ne (ne_of_none (a.fh c u h) n)]
    exact a.fh c u h
  nw := a.nw
  fr := fun c u h m => by
    rw [upd_ne (ne_of_none (a.fr c u h m) n)]
    exact a.fr c u h m
  th := fun c h => by
    by_cases e : c = q
    · subst e; rw [upd_same] at h; cases h
    · rw [upd_ne e] at h; exact a.th c h
/-- a change of what is ours, and not frozen -/
theorem Gr.set (a : Gr mu F H F1 H1) (f : F1 q = none) (m : H q = none ∨ mu q) : Gr mu F H F1 (upd H1 q o) where
  ff := a.ff
  fh := fun c u h => by
    rw [upd_ne (ne_of_none h f)]
    exact a.fh c u h
  nw := a.nw
  fr := fun c u h k => by
    have e : c ≠ q := by
      rintro rfl
      rcases m with m | m
      · rw [m] at h; cases h
      · exact k m
    rw [upd_ne e]
    exact a.fr c u h k
  th := fun c h => by
    by_cases e : c = q
    · subst e; rw [upd_same] at h; cases h
    · rw [upd_ne e] at h; exact a.th c h
/-- what was ours is changed no more -/
theorem Gr.frz (a : Gr mu F H F1 H1) (h : H1 q = some o) (n : H q = none) (f : F1 q = none) : Gr mu F H (upd F1 q o) H1 where
  ff := fun c u e => by
    rw [upd_ne (ne_of_none (a.ff c u e) f)]
    exact a.ff c u e
  fh := fun c u e => by
    by_cases k : c = q
    · subst k; rw [upd_same] at e; cases e; exact h
    · rw [upd_ne k] at e; exact a.fh c u e
  nw := fun c u e => by
    by_cases k : c = q
    · subst k; exact .inr n
    · rw [upd_ne k] at e; exact a.nw c u e
  fr := a.fr
  th := a.th
theorem Gr.free (a : Gr mu F H F1 H1) (n : H1 q = none) : F1 q = none := a.fh.free n
end
/-- an owned thing: new since H, not frozen, it is o now -/
structure Ow (H F H1 : Hp) (q : Addr) (o : HO) : Prop where
  n : H q = none
  f : F q = none
  h : H1 q = some o
section
variable {mu mu' : Addr → Prop} {H0 F H F1 H1 : Hp} {q r : Addr} {o u : HO}
theorem Ow.call (w : Ow H0 F H q o) (a : Gr mu F H F1 H1) (m : ¬ mu q) : Ow H0 F1 H1 q o :=
  ⟨w.n, (by
    cases e : F1 q with
    | none => rfl
    | some z =>
      rcases a.nw q z e with k | k
      · rw [w.f] at k; cases k
      · rw [w.h] at k; cases k), a.fr q o w.h m⟩
theorem Ow.ne (w : Ow H0 F H q o) (n : H r = none) : q ≠ r := ne_of_none w.h n
theorem Ow.new (w : Ow H0 F H q o) (n : H r = none) : Ow H0 (upd F r u) (upd H r u) q o :=
  ⟨w.n, by rw [upd_ne (w.ne n)]; exact w.f, by rw [upd_ne (w.ne n)]; exact w.h⟩
theorem Ow.own (w : Ow H0 F H q o) (n : H r = none) : Ow H0 F (upd H r u) q o :=
  ⟨w.n, w.f, by rw [upd_ne (w.ne n)]; exact w.h⟩
theorem Ow.mk1 (a : Gr mu H0' H0 F H) (n : H q = none) : Ow H0 F (upd H q o) q o := ⟨a.th q n, a.free n, upd_same⟩
theorem Ow.set (w : Ow H0 F H q o) : Ow H0 F (upd H q u) q u := ⟨w.n, w.f, upd_same⟩
theorem Ow.other (w : Ow H0 F H q o) (e : q ≠ r) : Ow H0 F (upd H r u) q o := ⟨w.n, w.f, by rw [upd_ne e]; exact w.h⟩
end
/-! ### what stands for a datum -/
def All2 {α β : Type} (r : α → β → Prop) (xs : List α) (ys : List β) : Prop := xs.length = ys.length ∧ ∀ (i : Nat) (x : α) (y : β), xs[i]? = some x → ys[i]? = some y → r x y
section
variable {α β : Type} {r s : α → β → Prop} {xs xs' : List α} {ys ys' : List β}
theorem All2.nil : All2 r [] [] := ⟨rfl, fun i x y h => by simp at h⟩
theorem All2.get (a : All2 r xs ys) {i : Nat} {y : β} (h : ys[i]? = some y) : ∃ x, xs[i]? = some x ∧ r x y := by
  have l := (List.getElem?_eq_some_iff.mp h).1
  have l' : i < xs.length := by rw [a.1]; exact l
  exact ⟨xs[i], List.getElem?_eq_getElem l', a.2 i _ y (List.getElem?_eq_getElem l') h⟩
theorem All2.get' (a : All2 r xs ys) {i : Nat} {x : α} (h : xs[i]? = some x) : ∃ y, ys[i]? = some y ∧ r x y := by
  have l := (List.getElem?_eq_some_iff.mp h).1
  have l' : i < ys.length := by rw [← a.1]; exact l
  exact ⟨ys[i], List.getElem?_eq_getElem l', a.2 i x _ h (List.getElem?_eq_getElem l')⟩
theorem All2.imp (a : All2 r xs ys) (f : ∀ x y, r x y → s x y) : All2 s xs ys := ⟨a.1, fun i x y h k => f x y (a.2 i x y h k)⟩
theorem All2.app (a : All2 r xs ys) (b : All2 r xs' ys') : All2 r (xs ++ xs') (ys ++ ys') := by
  refine ⟨by rw [List.length_append, List.length_append, a.1, b.1], fun i x y h k => ?_⟩
  by_cases l : i < xs.length
  · rw [List.getElem?_append_left l] at h
    rw [List.getElem?_append_left (by rw [← a.1]; exact l)] at k
    exact a.2 i x y h k
  · rw [List.getElem?_append_right (by omega)] at h
    rw [List.getElem?_append_right (by rw [← a.1]; omega), ← a.1] at k
    exact b.2 _ x y h k
theorem All2.one {x : α} {y : β} (h : r x y) : All2 r [x] [y] := ⟨rfl, fun i a b p q => by
  cases i with
  | zero => simp at p q; subst p; subst q; exact h
  | succ n => simp at p⟩
theorem All2.cons {x : α} {y : β} (h : r x y) (a : All2 r xs ys) : All2 r (x :: xs) (y :: ys) := (All2.one h).app a
theorem All2.set (a : All2 r xs ys) {x : α} {y : β} (h : r x y) (j : Nat) : All2 r (xs.set j x) (ys.set j y) := by
  refine ⟨by rw [List.length_set, List.length_set]; exact a.1, fun i u v p q => ?_⟩
  by_cases e : j = i
  · subst e
    rw [List.getElem?_set_self'] at p q
    cases e1 : xs[j]? with
    | none => rw [e1] at p; cases p
    | some z =>
      cases e2 : ys[j]? with
      | none => rw [e2] at q; cases q
      | some z2 =>
        rw [e1] at p; rw [e2] at q
        cases p; cases q
        exact h
  · rw [List.getElem?_set_ne e] at p q
    exact a.2 i u v p q
theorem All2.take (a : All2 r xs ys) (n : Nat) : All2 r (xs.take n) (ys.take n) := by
  refine ⟨by rw [List.length_take, List.length_take, a.1], fun i u v p q => ?_⟩
  rw [List.getElem?_take] at p q
  split at p
  · rw [if_pos (by assumption)] at q; exact a.2 i u v p q
  · cases p
theorem All2.drop (a : All2 r xs ys) (n : Nat) : All2 r (xs.drop n) (ys.drop n) := by
  refine ⟨by rw [List.length_drop, List.length_drop, a.1], fun i u v p q => ?_⟩
  rw [List.getElem?_drop] at p q
  exact a.2 _ u v p q
end
class Dat (α : Type) where
  rep : Hp → V → α → Prop
  mono : ∀ {H H' : Hp} {v : V} {d : α}, Same H H' → rep H v d → rep H' v d
  py : α → PyData
  dp : ∀ {K : PySem.W.Frag} {H : Hp} {v : V} {d : α}, rep H v d → Dp K H v (py d)
  can : ∀ d, (py d).canLay0 = true
  dep : Nat
  depth : ∀ d, (py d).depth ≤ dep
  eqv : ∀ a b, PyData.eqv (py a) (py b) = true ↔ a = b
section
variable {α β γ : Type}
/-- v stands for d in H -/
abbrev Is [Dat α] (H : Hp) (v : V) (d : α) : Prop := Dat.rep H v d
theorem Is.up [Dat α] {H H' : Hp} {v : V} {d : α} (h : Is H v d) (s : Same H H') : Is H' v d := Dat.mono s h
abbrev IsAll [Dat α] (H : Hp) (xs : List V) (ds : List α) : Prop := All2 (fun v d => Is H v d) xs ds
theorem IsAll.up [Dat α] {H H' : Hp} {xs : List V} {ds : List α} (h : IsAll H xs ds) (s : Same H H') : IsAll H' xs ds := h.imp fun _ _ z => Is.up z s
theorem dp_all [Dat α] {K : PySem.W.Frag} {H : Hp} : ∀ {xs : List V} {ds : List α}, IsAll H xs ds → DpAll K H xs (ds.map Dat.py)
  | [], [], _ => .nil
  | [], d :: ds, h => by have := h.1; simp at this
  | x :: xs, [], h => by have := h.1; simp at this
  | x :: xs, d :: ds, h => .cons (Dat.dp (h.2 0 x d rfl rfl)) (dp_all ⟨by have := h.1; simpa using this, fun i a b p q => h.2 (i + 1) a b (by simpa using p) (by simpa using q)⟩)
theorem can_all [Dat α] : ∀ ds : List α, PyData.canLayAll0 (ds.map Dat.py) = true
  | [] => rfl
  | d :: ds => by
    show (PyData.canLay0 (Dat.py d) && PyData.canLayAll0 (ds.map Dat.py)) = true
    rw [Dat.can, can_all ds]; rfl
theorem depth_all [Dat α] : ∀ ds : List α, PyData.depthAll (ds.map Dat.py) ≤ Dat.dep α
  | [] => Nat.zero_le _
  | d :: ds => by
    show max (PyData.depth (Dat.py d)) (PyData.depthAll (ds.map Dat.py)) ≤ _
    exact Nat.max_le.mpr ⟨Dat.depth d, depth_all ds⟩
theorem eqv_all [Dat α] : ∀ a b : List α, PyData.eqvAll (a.map Dat.py) (b.map Dat.py) = true ↔ a = b
  | [], [] => by simp [PyData.eqvAll]
  | [], _ :: _ => by simp [PyData.eqvAll]
  | _ :: _, [] => by simp [PyData.eqvAll]
  | x :: xs, y :: ys => by
    rw [List.map_cons, List.map_cons, PyData.eqvAll, Bool.and_eq_true, Dat.eqv, eqv_all xs ys, List.cons.injEq]
instance : Dat Int where
  rep := fun _ v i => v = .int i
  mono := fun _ h => h
  py := .int
  dp := fun h => h ▸ .int _
  can := fun _ => rfl
  dep := 0
  depth := fun _ => Nat.le_refl _
  eqv := fun a b => by simp [PyData.eqv]
instance : Dat Bool where
  rep := fun _ v i => v = .bl i
  mono := fun _ h => h
  py := .bool
  dp := fun h => h ▸ .bl _
  can := fun _ => rfl
  dep := 0
  depth := fun _ => Nat.le_refl _
  eqv := fun a b => by simp [PyData.eqv]
/-- a list of data -/
instance [Dat α] : Dat (List α) where
  rep := fun H v l => ∃ a xs, v = .ref a ∧ H a = some (.lst xs) ∧ IsAll H xs l
  mono := fun s h => by
    obtain ⟨a, xs, e, h, i⟩ := h
    exact ⟨a, xs, e, s _ _ h, IsAll.up i s⟩
  py := fun l => .list (l.map Dat.py)
  dp := fun h => by
    obtain ⟨a, xs, rfl, h, i⟩ := h
    exact .lst (SqL.of h) (dp_all i)
  can := fun d => can_all d
  dep := Dat.dep α + 1
  depth := fun d => Nat.succ_le_succ (depth_all d)
  eqv := fun a b => by rw [PyData.eqv]; exact eqv_all a b
/-- a tuple of data of one kind -/
structure Tup (α : Type) where
  l : List α
  deriving DecidableEq
instance [Dat α] : Dat (Tup α) where
  rep := fun H v l => ∃ a xs, v = .ref a ∧ H a = some (.tup xs) ∧ IsAll H xs l.l
  mono := fun s h => by
    obtain ⟨a, xs, e, h, i⟩ := h
    exact ⟨a, xs, e, s _ _ h, IsAll.up i s⟩
  py := fun l => .tuple (l.l.map Dat.py)
  dp := fun h => by
    obtain ⟨a, xs, rfl, h, i⟩ := h
    exact .tup (SqT.of h) (dp_all i)
  can := fun d => can_all d.l
  dep := Dat.dep α + 1
  depth := fun d => Nat.succ_le_succ (depth_all d.l)
  eqv := fun a b => by
    rw [PyData.eqv, eqv_all]
    obtain ⟨a⟩ := a; obtain ⟨b⟩ := b
    simp
/-- a pair; a triple -/
structure T2 (α β : Type) where
  a : α
  b : β
  deriving DecidableEq
structure T3 (α β γ : Type) where
  a : α
  b : β
  c : γ
  deriving DecidableEq
instance [Dat α] [Dat β] : Dat (T2 α β) where
  rep := fun H v d => ∃ p x y, v = .ref p ∧ H p = some (.tup [x, y]) ∧ Is H x d.a ∧ Is H y d.b
  mono := fun s h => by
    obtain ⟨p, x, y, e, h, i, j⟩ := h
    exact ⟨p, x, y, e, s _ _ h, Is.up i s, Is.up j s⟩
  py := fun d => .tuple [Dat.py d.a, Dat.py d.b]
  dp := fun h => by
    obtain ⟨p, x, y, rfl, h, i, j⟩ := h
    exact .tup (SqT.of h) (.cons (Dat.dp i) (.cons (Dat.dp j) .nil))
  can := fun d => by
    show (PyData.canLay0 (Dat.py d.a) && (PyData.canLay0 (Dat.py d.b) && true)) = true
    rw [Dat.can, Dat.can]; rfl
  dep := max (Dat.dep α) (Dat.dep β) + 1
  depth := fun d => by
    have h1 := Dat.depth d.a
    have h2 := Dat.depth d.b
    show max (PyData.depth (Dat.py d.a)) (max (PyData.depth (Dat.py d.b)) 0) + 1 ≤ _
    omega
  eqv := fun a b => by
    obtain ⟨a, a'⟩ := a; obtain ⟨b, b'⟩ := b
    simp [PyData.eqv, PyData.eqvAll, Dat.eqv]
instance [Dat α] [Dat β] [Dat γ] : Dat (T3 α β γ) where
  rep := fun H v d => ∃ p x y z, v = .ref p ∧ H p = some (.tup [x, y, z]) ∧ Is H x d.a ∧ Is H y d.b ∧ Is H z d.c
  mono := fun s h => by
    obtain ⟨p, x, y, z, e, h, i, j, k⟩ := h
    exact ⟨p, x, y, z, e, s _ _ h, Is.up i s, Is.up j s, Is.up k s⟩
  py := fun d => .tuple [Dat.py d.a, Dat.py d.b, Dat.py d.c]
  dp := fun h => by
    obtain ⟨p, x, y, z, rfl, h, i, j, k⟩ := h
    exact .tup (SqT.of h) (.cons (Dat.dp i) (.cons (Dat.dp j) (.cons (Dat.dp k) .nil)))
  can := fun d => by
    show (PyData.canLay0 (Dat.py d.a) && (PyData.canLay0 (Dat.py d.b) && (PyData.canLay0 (Dat.py d.c) && true))) = true
    rw [Dat.can, Dat.can, Dat.can]; rfl
  dep := max (Dat.dep α) (max (Dat.dep β) (Dat.dep γ)) + 1
  depth := fun d => by
    have h1 := Dat.depth d.a
    have h2 := Dat.depth d.b
    have h3 := Dat.depth d.c
    show max (PyData.depth (Dat.py d.a)) (max (PyData.depth (Dat.py d.b)) (max (PyData.depth (Dat.py d.c)) 0)) + 1 ≤ _
    omega
  eqv := fun a b => by
    obtain ⟨a, a', a''⟩ := a; obtain ⟨b, b', b''⟩ := b
    simp [PyData.eqv, PyData.eqvAll, Dat.eqv]
/-- None, or a datum that is a tuple or a list -/
class Big (α : Type) [Dat α] : Prop where
  big : ∀ d : α, (∃ l, Dat.py d = .tuple l) ∨ ∃ l, Dat.py d = .list l
instance [Dat α] : Big (List α) := ⟨fun d => .inr ⟨_, rfl⟩⟩
instance [Dat α] : Big (Tup α) := ⟨fun d => .inl ⟨_, rfl⟩⟩
instance [Dat α] [Dat β] : Big (T2 α β) := ⟨fun d => .inl ⟨_, rfl⟩⟩
instance [Dat α] [Dat β] [Dat γ] : Big (T3 α β γ) := ⟨fun d => .inl ⟨_, rfl⟩⟩
instance [Dat α] [Big α] : Dat (Option α) where
  rep := fun H v d => match d with
    | none => v = .non
    | some d => Is H v d
  mono := fun {H H' v d} s h => by
    cases d with
    | none => exact h
    | some d => exact Is.up (show Is H v d from h) s
  py := fun d => match d with
    | none => .none
    | some d => Dat.py d
  dp := fun {K H v d} h => by
    cases d with
    | none => cases h; exact .non
    | some d => exact Dat.dp (show Is H v d from h)
  can := fun d => by
    cases d with
    | none => rfl
    | some d => exact Dat.can d
  dep := Dat.dep α
  depth := fun d => by
    cases d with
    | none => exact Nat.zero_le _
    | some d => exact Dat.depth d
  eqv := fun a b => by
    cases a with
    | none =>
      cases b with
      | none => exact ⟨fun _ => rfl, fun _ => rfl⟩
      | some b =>
        refine ⟨fun h => ?_, fun h => nomatch h⟩
        have h : PyData.eqv .none (Dat.py b) = true := h
        rcases Big.big b with ⟨l, e⟩ | ⟨l, e⟩ <;> (rw [e] at h; simp only [PyData.eqv] at h; cases h)
    | some a =>
      cases b with
      | none =>
        refine ⟨fun h => ?_, fun h => nomatch h⟩
        have h : PyData.eqv (Dat.py a) .none = true := h
        rcases Big.big a with ⟨l, e⟩ | ⟨l, e⟩ <;> (rw [e] at h; simp only [PyData.eqv] at h; cases h)
      | some b =>
        show PyData.eqv (Dat.py a) (Dat.py b) = true ↔ _
        rw [Dat.eqv, Option.some.injEq]
end
/-- == and != of data -/
theorem eq_dat0 {α : Type} [Dat α] [DecidableEq α] {a b : α} (hd : Dat.dep α ≤ 64) : SeqAt.shaped (Dat.py a) = true ∧ SeqAt.shaped (Dat.py b) = true ∧ PyData.eqv (Dat.py a) (Dat.py b) = decide (a = b) := by
  refine ⟨?_, ?_, ?_⟩
  · show (PyData.canLay0 _ && decide _) = true
    rw [Dat.can, decide_eq_true (Nat.le_trans (Dat.depth a) hd)]; rfl
  · show (PyData.canLay0 _ && decide _) = true
    rw [Dat.can, decide_eq_true (Nat.le_trans (Dat.depth b) hd)]; rfl
  · rw [Bool.eq_iff_iff, Dat.eqv, decide_eq_true_iff]
theorem eq_dat {α : Type} [Dat α] [DecidableEq α] {K : PySem.W.Frag} {H : Hp} {x y : V} {a b : α} {Q : VK} (ha : Is H x a) (hb : Is H y b) (q : Q (.bl (decide (a = b))) H) (hd : Dat.dep α ≤ 64 := by decide) : rEqD K x y H Q := by
  obtain ⟨h1, h2, h3⟩ := eq_dat0 (a := a) (b := b) hd
  exact ⟨Dat.py a, Dat.py b, Dat.dp ha, Dat.dp hb, h1, h2, by rw [h3]; exact q⟩
theorem ne_dat {α : Type} [Dat α] [DecidableEq α] {K : PySem.W.Frag} {H : Hp} {x y : V} {a b : α} {Q : VK} (ha : Is H x a) (hb : Is H y b) (q : Q (.bl (!decide (a = b))) H) (hd : Dat.dep α ≤ 64 := by decide) : rNeD K x y H Q := by
  obtain ⟨h1, h2, h3⟩ := eq_dat0 (a := a) (b := b) hd
  exact ⟨Dat.py a, Dat.py b, Dat.dp ha, Dat.dp hb, h1, h2, by rw [h3]; exact q⟩
/-! ### machines -/
/-- an entry -/
inductive Ent where
  | emp
  | go (put way row : Int)
  deriving DecidableEq
def entO : Ent → HO
  | .emp => .tup []
  | .go p w r => .tup [.int p, .int w, .int r]
def entP : Ent → PyData
  | .emp => .tuple []
  | .go p w r => .tuple [.int p, .int w, .int r]
instance : Dat Ent where
  rep := fun H v e => ∃ a, v = .ref a ∧ H a = some (entO e)
  mono := fun s h => by obtain ⟨a, e, h⟩ := h; exact ⟨a, e, s _ _ h⟩
  py := entP
  dp := fun {K H v d} h => by
    obtain ⟨a, rfl, h⟩ := h
    cases d with
    | emp => exact .tup (SqT.of h) .nil
    | go p w r => exact .tup (SqT.of h) (.cons (.int _) (.cons (.int _) (.cons (.int _) .nil)))
  can := fun d => by cases d <;> rfl
  dep := 1
  depth := fun d => by cases d <;> simp [entP, PyData.depth, PyData.depthAll]
  eqv := fun a b => by cases a <;> cases b <;> simp [entP, PyData.eqv, PyData.eqvAll]
instance : Big Ent := ⟨fun d => by cases d <;> exact .inl ⟨_, rfl⟩⟩
abbrev Mach := List (List Ent)
/-! ### pairs of ints: a dict's items, sorted ones -/
abbrev PI := T2 Int Int
def dI (l : List PI) : List (Key × V) := l.map fun p => (Sum.inl p.a, V.int p.b)
def look (l : List PI) (x : Int) : Option Int := (l.find? fun p => decide (p.a = x)).map (·.b)
def put (l : List PI) (x v : Int) : List PI := if (l.any fun p => decide (p.a = x)) = true then l.map (fun p => if p.a = x then ⟨p.a, v⟩ else p) else l ++ [⟨x, v⟩]
def merge (l m : List PI) : List PI := m.foldl (fun acc p => put acc p.a p.b) l
theorem key_inl (a b : Int) : ((Sum.inl a : Key) = Sum.inl b) = (a = b) := propext ⟨Sum.inl.inj, fun h => by rw [h]⟩
theorem dI_val (x : Int) : ∀ l : List PI, valV (dI l) (Sum.inl x) = (look l x).map V.int
  | [] => rfl
  | p :: l => by
    have ih := dI_val x l
    show valV ((Sum.inl p.a, V.int p.b) :: dI l) (Sum.inl x) = _
    by_cases e : p.a = x
    · rw [valV_pos (by rw [key_inl]; exact e)]
      simp [look, e]
    · rw [valV_neg (by rw [key_inl]; exact e), ih]
      simp [look, e]
theorem dI_put (l : List PI) (x v : Int) : putK (dI l) (Sum.inl x) (.int v) = dI (put l x v) := by
  have e : ((dI l).any fun kv => decide (kv.1 = Sum.inl x)) = (l.any fun p => decide (p.a = x)) := by
    unfold dI
    rw [List.any_map]
    congr 1
    funext p
    simp only [Function.comp, key_inl]
  unfold putK put
  rw [e]
  by_cases a : (l.any fun p => decide (p.a = x)) = true
  · rw [if_pos a, if_pos a]
    unfold dI
    rw [List.map_map, List.map_map]
    congr 1
    funext p
    simp only [Function.comp, key_inl]
    by_cases h : p.a = x
    · rw [if_pos h, if_pos h]
    · rw [if_neg h, if_neg h]
  · rw [if_neg a, if_neg a]
    unfold dI
    rw [List.map_append]
    rfl
theorem dI_merge (m : List PI) : ∀ l : List PI, mergeK (dI l) (dI m) = dI (merge l m) := by
  induction m with
  | nil => intro l; rfl
  | cons p m ih =>
    intro l
    show mergeK (putK (dI l) (Sum.inl p.a) (.int p.b)) (dI m) = dI (merge (put l p.a p.b) m)
    rw [dI_put]
    exact ih _
theorem look_nil (x : Int) : look [] x = none := rfl
theorem look_cons (p : PI) (l : List PI) (x : Int) : look (p :: l) x = if p.a = x then some p.b else look l x := by
  unfold look
  rw [List.find?_cons]
  by_cases e : p.a = x
  · simp [e]
  · simp [e]
theorem look_any (x : Int) : ∀ l : List PI, (l.any fun p => decide (p.a = x)) = (look l x).isSome
  | [] => rfl
  | p :: l => by
    rw [List.any_cons, look_any x l, look_cons]
    by_cases e : p.a = x
    · simp [e]
    · simp [e]
theorem look_map (x y v : Int) : ∀ l : List PI, look (l.map fun p => if p.a = x then ⟨p.a, v⟩ else p) y = (look l y).map fun z => if y = x then v else z
  | [] => rfl
  | p :: l => by
    rw [List.map_cons, look_cons, look_cons, look_map x y v l]
    by_cases e : p.a = x
    · rw [if_pos e]
      by_cases f : p.a = y
      · rw [if_pos f, if_pos f]
        rw [← f, Option.map_some, if_pos e]
      · rw [if_neg f, if_neg f]
    · rw [if_neg e]
      by_cases f : p.a = y
      · rw [if_pos f, if_pos f, Option.map_some, if_neg (by rw [← f]; exact e)]
      · rw [if_neg f, if_neg f]
theorem look_app (l m : List PI) (x : Int) : look (l ++ m) x = (look l x).or (look m x) := by
  induction l with
  | nil => rfl
  | cons p l ih =>
    rw [List.cons_append, look_cons, look_cons, ih]
    by_cases e : p.a = x
    · rw [if_pos e, if_pos e]; rfl
    · rw [if_neg e, if_neg e]
theorem look_put (l : List PI) (x v y : Int) : look (put l x v) y = if y = x then some v else look l y := by
  unfold put
  by_cases a : (l.any fun p => decide (p.a = x)) = true
  · rw [if_pos a, look_map]
    by_cases e : y = x
    · rw [if_pos e, e]
      rw [look_any] at a
      obtain ⟨z, hz⟩ := Option.isSome_iff_exists.mp a
      rw [hz, Option.map_some, if_pos rfl]
    · rw [if_neg e]
      cases look l y with
      | none => rfl
      | some z => rw [Option.map_some, if_neg e]
  · rw [if_neg a, look_app]
    rw [look_any] at a
    by_cases e : y = x
    · rw [if_pos e, e]
      cases h : look l x with
      | none => rw [look_cons, if_pos rfl]; rfl
      | some z => rw [h] at a; exact absurd rfl a
    · rw [if_neg e, look_cons, if_neg (fun z => e z.symm), look_nil]
      cases look l y <;> rfl
/-- no place twice -/
def Nd (l : List PI) : Prop := (l.map (·.a)).Nodup
theorem look_none {l : List PI} {x : Int} : look l x = none ↔ x ∉ l.map (·.a) := by
  induction l with
  | nil => simp [look_nil]
  | cons p l ih =>
    rw [look_cons, List.map_cons, List.mem_cons]
    by_cases e : p.a = x
    · rw [if_pos e]; simp [e]
    · rw [if_neg e, ih]
      constructor
      · intro h z
        rcases z with z | z
        · exact e z.symm
        · exact h z
      · intro h z
        exact h (.inr z)
theorem look_mem {l : List PI} (h : Nd l) {p : PI} (m : p ∈ l) : look l p.a = some p.b := by
  induction l with
  | nil => cases m
  | cons q l ih =>
    have h' := List.nodup_cons.mp h
    rw [look_cons]
    rcases List.mem_cons.mp m with rfl | m
    · rw [if_pos rfl]
    · rw [if_neg (fun e => h'.1 (by show q.a ∈ _; rw [e]; exact List.mem_map.mpr ⟨p, m, rfl⟩))]
      exact ih h'.2 m
theorem mem_look {l : List PI} {x v : Int} (h : look l x = some v) : (⟨x, v⟩ : PI) ∈ l := by
  induction l with
  | nil => cases h
  | cons q l ih =>
    rw [look_cons] at h
    by_cases e : q.a = x
    · rw [if_pos e] at h
      cases h
      subst e
      exact List.mem_cons_self
    · rw [if_neg e] at h
      exact List.mem_cons_of_mem _ (ih h)
theorem nd_put {l : List PI} (h : Nd l) (x v : Int) : Nd (put l x v) := by
  unfold put
  by_cases a : (l.any fun p => decide (p.a = x)) = true
  · rw [if_pos a]
    unfold Nd
    rw [List.map_map]
    have e : ((fun p : PI => p.a) ∘ fun p : PI => if p.a = x then (⟨p.a, v⟩ : PI) else p) = fun p : PI => p.a := by
      funext p
      simp only [Function.comp]
      split <;> rfl
    rw [e]; exact h
  · rw [if_neg a]
    unfold Nd
    rw [List.map_append]
    refine nd_snoc h ?_
    rw [look_any] at a
    refine look_none.mp ?_
    cases q : look l x with
    | none => rfl
    | some z => rw [q] at a; exact absurd rfl a
theorem put_new {l : List PI} {x : Int} (v : Int) (h : look l x = none) : put l x v = l ++ [⟨x, v⟩] := by
  unfold put
  rw [look_any, h]
  rfl
theorem merge_nd {m : List PI} : ∀ {l : List PI}, Nd (l ++ m) → merge l m = l ++ m := by
  induction m with
  | nil => intro l _; simp [merge]
  | cons p m ih =>
    intro l h
    have e : l ++ p :: m = (l ++ [p]) ++ m := by simp
    have hn : look l p.a = none := by
      refine look_none.mpr fun z => ?_
      unfold Nd at h
      rw [List.map_append] at h
      exact (List.nodup_append.mp h).2.2 _ z _ (by rw [List.map_cons]; exact List.mem_cons_self) rfl
    show merge (put l p.a p.b) m = _
    rw [put_new _ hn, e]
    exact ih (by rw [← e]; exact h)
theorem nd_nil : Nd [] := List.nodup_nil
theorem put_len (l : List PI) (x v : Int) : (put l x v).length ≤ l.length + 1 := by
  unfold put
  split
  · rw [List.length_map]; omega
  · rw [List.length_append]; exact Nat.le_refl _
/-- Python's order of pairs -/
def leP (p q : PI) : Bool := decide (p.a < q.a) || (decide (p.a = q.a) && decide (p.b ≤ q.b))
theorem leP_iff {p q : PI} : leP p q = true ↔ p.a < q.a ∨ (p.a = q.a ∧ p.b ≤ q.b) := by simp [leP]
def ins (p : PI) : List PI → List PI
  | [] => [p]
  | q :: l => if leP p q = true then p :: q :: l else q :: ins p l
def srt (l : List PI) : List PI := l.foldr ins []
theorem ins_perm (p : PI) : ∀ l : List PI, (ins p l).Perm (p :: l)
  | [] => List.Perm.refl _
  | q :: l => by
    unfold ins
    split
    · exact List.Perm.refl _
    · exact (List.Perm.cons q (ins_perm p l)).trans (List.Perm.swap p q l)
theorem srt_perm : ∀ l : List PI, (srt l).Perm l
  | [] => List.Perm.refl _
  | p :: l => (ins_perm p (srt l)).trans ((srt_perm l).cons p)
abbrev LeP (p q : PI) : Prop := leP p q = true
theorem leP_trans {p q r : PI} (h1 : LeP p q) (h2 : LeP q r) : LeP p r := by
  have a := leP_iff.mp h1
  have b := leP_iff.mp h2
  exact leP_iff.mpr (by omega)
theorem leP_total (p q : PI) : LeP p q ∨ LeP q p := by
  show leP p q = true ∨ leP q p = true
  rw [leP_iff, leP_iff]
  omega
theorem ins_srt (p : PI) : ∀ {l : List PI}, l.Pairwise LeP → (ins p l).Pairwise LeP
  | [], _ => List.pairwise_singleton _ _
  | q :: l, h => by
    have h' := List.pairwise_cons.mp h
    unfold ins
    split
    · rename_i e
      refine List.pairwise_cons.mpr ⟨fun x m => ?_, h⟩
      rcases List.mem_cons.mp m with rfl | m
      · exact e
      · exact leP_trans e (h'.1 x m)
    · rename_i e
      refine List.pairwise_cons.mpr ⟨fun x m => ?_, ins_srt p h'.2⟩
      rcases List.mem_cons.mp ((ins_perm p l).mem_iff.mp m) with rfl | m
      · rcases leP_total q x with z | z
        · exact z
        · exact absurd z e
      · exact h'.1 x m
theorem srt_srt : ∀ l : List PI, (srt l).Pairwise LeP
  | [] => List.Pairwise.nil
  | p :: l => ins_srt p (srt_srt l)
theorem leP_anti {p q : PI} (h1 : LeP p q) (h2 : LeP q p) : p = q := by
  have a := leP_iff.mp h1
  have b := leP_iff.mp h2
  obtain ⟨x, y⟩ := p
  obtain ⟨x', y'⟩ := q
  have e1 : x = x' := by show x = x'; simp only at a b; omega
  have e2 : y = y' := by simp only at a b; omega
  rw [e1, e2]
/-- there is one sorted list of them -/
theorem srt_uniq : ∀ {l m : List PI}, l.Pairwise LeP → m.Pairwise LeP → l.Perm m → l = m
  | [], m, _, _, h => (List.Perm.eq_nil h.symm).symm
  | x :: l, [], _, _, h => absurd h.length_eq (by simp)
  | x :: l, y :: m, hl, hm, h => by
    have l' := List.pairwise_cons.mp hl
    have m' := List.pairwise_cons.mp hm
    have h1 : LeP y x := by
      rcases List.mem_cons.mp (h.mem_iff.mp (List.mem_cons_self (a := x) (l := l))) with e | z
      · rw [e]; rcases leP_total y y with z | z <;> exact z
      · exact m'.1 x z
    have h2 : LeP x y := by
      rcases List.mem_cons.mp (h.mem_iff.mpr (List.mem_cons_self (a := y) (l := m))) with e | z
      · rw [e]; rcases leP_total x x with z | z <;> exact z
      · exact l'.1 y z
    have e := leP_anti h2 h1
    subst e
    rw [srt_uniq l'.2 m'.2 h.cons_inv]
theorem srt_of {l m : List PI} (h : m.Pairwise LeP) (p : m.Perm l) : m = srt l := srt_uniq h (srt_srt l) (p.trans (srt_perm l).symm)
/-- what a value says as a pair, read off the heap -/
def pOf (H : Hp) : V → Int × Int
  | .ref t => match H t with
    | some (.tup [.int i, .int j]) => (i, j)
    | _ => (0, 0)
  | _ => (0, 0)
theorem pOf_is {H : Hp} {v : V} {d : PI} (h : Is H v d) : ∃ t, v = .ref t ∧ H t = some (.tup [.int (pOf H v).1, .int (pOf H v).2]) ∧ d = ⟨(pOf H v).1, (pOf H v).2⟩ := by
  obtain ⟨t, x, y, rfl, h1, h2, h3⟩ := h
  have h2 : x = .int d.a := h2
  have h3 : y = .int d.b := h3
  subst h2
  subst h3
  have e : pOf H (.ref t) = (d.a, d.b) := by simp only [pOf, h1]
  exact ⟨t, rfl, by rw [e]; exact h1, by rw [e]⟩
theorem all_of {H : Hp} : ∀ {xs : List V} {l : List PI}, IsAll H xs l → l = xs.map fun v => (⟨(pOf H v).1, (pOf H v).2⟩ : PI) := fun {xs l} h => by
  refine List.ext_getElem? fun i => ?_
  rw [List.getElem?_map]
  cases e : xs[i]? with
  | none =>
    have := List.getElem?_eq_none_iff.mp e
    exact List.getElem?_eq_none_iff.mpr (by rw [← h.1]; exact this)
  | some x =>
    obtain ⟨d, hd, hx⟩ := h.get' e
    obtain ⟨t, _, _, q⟩ := pOf_is hx
    rw [hd, q]
    rfl
/-- sorted of a list of pairs -/
theorem sort_pairs {K : PySem.W.Frag} {F H : Hp} {a : Addr} {xs : List V} {l : List PI} {Q : VK} (sF : Same F H) (hx : IsAll F xs l) (ha : SqL K H a xs) (q : ∀ ys p, H p = none → IsAll F ys (srt l) → Q (.ref p) (upd H p (.lst ys))) : rSortQ K [.ref a] H Q := by
  unfold rSortQ
  refine ⟨a, xs, pOf F, rfl, ha, fun x m => ?_, fun ys p hs hb np => q ys p np ?_⟩
  · obtain ⟨i, hi⟩ := List.getElem?_of_mem m
    obtain ⟨d, _, hd⟩ := hx.get' hi
    obtain ⟨t, e, h, _⟩ := pOf_is hd
    exact ⟨t, e, sF _ _ h⟩
  · have el := all_of hx
    have hys : IsAll F ys (ys.map fun v => (⟨(pOf F v).1, (pOf F v).2⟩ : PI)) := by
      refine ⟨by rw [List.length_map], fun i x y h1 h2 => ?_⟩
      rw [List.getElem?_map, h1] at h2
      cases h2
      have m : x ∈ xs := hb.perm.mem_iff.mp (List.mem_of_getElem? h1)
      obtain ⟨j, hj⟩ := List.getElem?_of_mem m
      obtain ⟨d, _, hd⟩ := hx.get' hj
      obtain ⟨t, e, h, e2⟩ := pOf_is hd
      exact ⟨t, _, _, e, h, rfl, rfl⟩
    have es : (ys.map fun v => (⟨(pOf F v).1, (pOf F v).2⟩ : PI)) = srt l := by
      refine srt_of ?_ ?_
      · refine List.pairwise_map.mpr (List.Pairwise.imp (fun {x y} h => ?_) hs)
        have h := SrtO.lexB_no.mp h
        exact leP_iff.mpr (by simp only; omega)
      · rw [el]
        exact hb.perm.map _
    rw [es] at hys
    exact hys
theorem pairs_of {K : PySem.W.Frag} {H : Hp} : ∀ {xs : List V} {l : List PI}, IsAll H xs l → ∃ ps : List Addr, xs = ps.map V.ref ∧ Paired (fun p kv => SqT K H p [kV kv.1, kv.2]) ps (dI l)
  | [], [], _ => ⟨[], rfl, .nil⟩
  | [], d :: l, h => by have := h.1; simp at this
  | x :: xs, [], h => by have := h.1; simp at this
  | x :: xs, d :: l, h => by
    obtain ⟨t, x1, x2, e, h1, h2, h3⟩ := h.2 0 x d rfl rfl
    have h2 : x1 = .int d.a := h2
    have h3 : x2 = .int d.b := h3
    subst h2
    subst h3
    obtain ⟨ps, e2, p⟩ := pairs_of (K := K) (xs := xs) (l := l) ⟨by have := h.1; simpa using this, fun i a b p q => h.2 (i + 1) a b (by simpa using p) (by simpa using q)⟩
    exact ⟨t :: ps, by rw [e, e2]; rfl, .cons (SqT.of h1) p⟩
/-- dict(pairs) -/
theorem dict_pairs {K : PySem.W.Frag} {H : Hp} {a : Addr} {xs : List V} {l : List PI} {Q : VK} (hx : IsAll H xs l) (ha : SqL K H a xs) (q : ∀ p, H p = none → Q (.ref p) (upd H p (.dK (dI (merge [] l))))) : rDictP K [.ref a] H Q := by
  unfold rDictP
  obtain ⟨ps, e, p⟩ := pairs_of (K := K) hx
  refine ⟨a, ps, dI l, rfl, by rw [← e]; exact ha, p, fun d nd => ?_⟩
  have e2 : mergeK [] (dI l) = dI (merge [] l) := dI_merge l []
  rw [e2]
  exact q d nd
/-! ### a dict under its lock -/
theorem lock_in {F H : Hp} {d : Addr} {o : HO} (s : Same F H) : Same (fun c => if c = d then none else F c) (upd H d o) := fun c u h => by
  by_cases e : c = d
  · simp only [e, if_true] at h; cases h
  · simp only [e, if_false] at h
    rw [upd_ne e]; exact s c u h
theorem lock_out {F H F2 H2 : Hp} {d : Addr} {o u : HO} (s : Same F H) (h : H d = some u) (g : Gr mu0 (fun c => if c = d then none else F c) (upd H d o) F2 H2) :
    H2 d = some o ∧ Same F2 (fun c => if c = d then F d else F2 c) ∧ Gr mu0 F H (fun c => if c = d then F d else F2 c) (upd H2 d u) := by
  have n2 : F2 d = none := by
    cases e : F2 d with
    | none => rfl
    | some z =>
      rcases g.nw d z e with k | k
      · simp only [if_true] at k; cases k
      · rw [upd_same] at k; cases k
  refine ⟨g.fr d o upd_same (fun z => z), fun c z e => ?_, ⟨fun c z e => ?_, fun c z e => ?_, fun c z e => ?_, fun c z e m => ?_, fun c e => ?_⟩⟩
  · by_cases k : c = d
    · rw [k, n2] at e; cases e
    · simp only [k, if_false]; exact e
  · by_cases k : c = d
    · simp only [k, if_true]; rw [← k]; exact e
    · simp only [k, if_false]
      exact g.ff c z (by simp only [k, if_false]; exact e)
  · by_cases k : c = d
    · simp only [k, if_true] at e
      rw [k, upd_same, ← h]
      exact s d z e
    · simp only [k, if_false] at e
      rw [upd_ne k]; exact g.fh c z e
  · by_cases k : c = d
    · simp only [k, if_true] at e
      exact .inl (by rw [k]; exact e)
    · simp only [k, if_false] at e
      rcases g.nw c z e with q | q
      · simp only [k, if_false] at q; exact .inl q
      · rw [upd_ne k] at q; exact .inr q
  · by_cases k : c = d
    · rw [k, upd_same]; rw [k, h] at e; exact e
    · rw [upd_ne k]
      exact g.fr c z (by rw [upd_ne k]; exact e) (fun z => z)
  · by_cases k : c = d
    · rw [k, upd_same] at e; cases e
    · rw [upd_ne k] at e
      have q := g.th c e
      rw [upd_ne k] at q; exact q
/-- the signs that aren't 0, in order -/
def nz (p : PI) : Bool := decide (p.b ≠ 0)
def told (l : List PI) : List PI := srt (l.filter nz)
theorem dI_get {l : List PI} {i : Nat} (h : i < l.length) : (dI l)[i]? = some (Sum.inl l[i].a, V.int l[i].b) := by
  unfold dI
  rw [List.getElem?_map, List.getElem?_eq_getElem h]
  rfl
theorem filter_take_succ {l : List PI} {f : PI → Bool} {i : Nat} (h : i < l.length) : (l.take (i + 1)).filter f = (l.take i).filter f ++ (if f l[i] = true then [l[i]] else []) := by
  rw [List.take_add_one, List.getElem?_eq_getElem h, List.filter_append]
  show _ ++ List.filter f [l[i]] = _
  rw [List.filter_cons]
  split <;> rfl
theorem nd_srt {l : List PI} (h : Nd l) : Nd (srt l) := ((srt_perm l).map (fun p : PI => p.a)).nodup_iff.mpr h
theorem mem_srt {l : List PI} {q : PI} : q ∈ srt l ↔ q ∈ l := (srt_perm l).mem_iff
theorem mem_put {l : List PI} {x v : Int} {q : PI} (m : q ∈ put l x v) : q ∈ l ∨ q = ⟨x, v⟩ := by
  unfold put at m
  split at m
  · obtain ⟨z, hz, e⟩ := List.mem_map.mp m
    split at e
    · rename_i h1 h2
      exact .inr (by rw [← e, h2])
    · exact .inl (by rw [← e]; exact hz)
  · rcases List.mem_append.mp m with m | m
    · exact .inl m
    · exact .inr (List.mem_singleton.mp m)
/-! ### sorted(d.items()), d a dict of ints to ints -/
section
open PySem.Spec PyProof.Rows
variable {X : Cx}
/-- many new things are tracked at once -/
theorem inv_many {pins : List (Addr × Obj)} {σ : L2.St} {H H' : Hp} {s : Shared} {h' : Heap} {tk : Nat} {as : List Addr} (I : Inv X pins σ H s) (k : ∀ b o, s.heap.get? b = some o → h'.get? b = some o) (hp : ∀ a ∈ as, s.heap.objs.size ≤ a)
    (p1 : ∀ b, b ∉ as → H' b = H b) (p2 : ∀ b ∈ as, ∀ o, H' b = some o → ObjOk X.prog X.w H' h' b o) : Inv X pins σ H' { s with heap := h', toks := tk } := by
  have old : ∀ b o, s.heap.get? b = some o → b ∉ as := fun b o e z => Nat.lt_irrefl _ (Nat.lt_of_lt_of_le (Heap.lt_size e) (hp b z))
  have trc : ∀ b o, H b = some o → b ∉ as := fun b o e z => by
    have := I.hok.lt e
    exact Nat.lt_irrefl _ (Nat.lt_of_lt_of_le this (hp b z))
  have kp : ∀ b o, H b = some o → H' b = some o := fun b o e => by rw [p1 b (trc b o e)]; exact e
  refine I.un ⟨fun b o q _ _ _ => k b o q, fun b o q _ _ _ => ⟨o.slots, k b o q⟩, fun b o q n _ => by rw [p1 b (old b o q)]; exact n, fun b o q _ => ⟨o, k b o q⟩, fun b xs e => kp b _ e, fun b o u e => kp b _ e, fun b ps e => ⟨#[], by rw [kp b _ e]; simp⟩⟩ fun b o e => ?_
  by_cases m : b ∈ as
  · exact p2 b m o e
  · rw [p1 b m] at e
    exact (I.hok b o e).stay (fun c u _ q => k c u q) (fun c q => kp c _ q) fun c xs q => kp c _ q
/-- the pair that stands at a -/
def pzAt (zs : List (Addr × PI)) (a : Addr) : Option PI := (zs.find? fun z => decide (z.1 = a)).map (·.2)
theorem pzAt_ix : ∀ {zs : List (Addr × PI)}, (zs.map (·.1)).Nodup → ∀ {j : Nat} {z : Addr × PI}, zs[j]? = some z → pzAt zs z.1 = some z.2
  | [], _, j, z, h => by cases h
  | y :: ys, nd, 0, z, h => by
    have e := Option.some.inj h
    subst e
    simp [pzAt]
  | y :: ys, nd, j + 1, z, h => by
    have nd' := List.nodup_cons.mp nd
    have m : z.1 ∈ ys.map (·.1) := List.mem_map.mpr ⟨z, List.mem_of_getElem? (show ys[j]? = some z from h), rfl⟩
    have ih := pzAt_ix nd'.2 (show ys[j]? = some z from h)
    have ne : ¬ y.1 = z.1 := fun e => nd'.1 (by show y.1 ∈ _; rw [e]; exact m)
    unfold pzAt at ih ⊢
    rw [List.find?_cons, decide_eq_false ne]
    exact ih
theorem pzAt_no {zs : List (Addr × PI)} {a : Addr} (h : a ∉ zs.map (·.1)) : pzAt zs a = none := by
  unfold pzAt
  rw [List.find?_eq_none.mpr fun z m e => h (List.mem_map.mpr ⟨z, m, of_decide_eq_true e⟩)]
  rfl
def trk (H : Hp) (B : Addr) (L : HO) (zs : List (Addr × PI)) : Hp := fun b => if b = B then some L else match pzAt zs b with
  | some q => some (.tup [.int q.a, .int q.b])
  | none => H b
def adOf : Value → Addr
  | .ref a => a
  | _ => 0
@[irreducible] def rSortIt : V → Hp → VK → Prop := fun x H Q => ∃ (d : Addr) (l : List PI), x = .ref d ∧ H d = some (.dK (dI l)) ∧
  ∀ (H' : Hp) (p : Addr) (ys : List Addr), Same H H' → H p = none → (∀ t ∈ ys, H t = none) → p ∉ ys → (∀ b, b ≠ p → b ∉ ys → H' b = H b) → H' p = some (.lst (ys.map V.ref)) → All2 (fun t (q : PI) => H' t = some (.tup [.int q.a, .int q.b])) ys (srt l) → Q (.ref p) H'
def tSortIt (te : TE) : TE := fun σ H Q => te σ H fun x H1 => rSortIt x H1 Q
theorem pe_sortedItems {e : Expr} {te : TE} {p apos cpos pos : Pos} (hc : X.calm = true) (he : PE X e te) (hg : Gl X "sorted") (hm : X.mg "sorted" = none) (hv : bootBuiltins "sorted" = some (.builtin "sorted")) (hbase : attributeBase e "items" X.env (eval e X.env) = eval e X.env := by rfl) (hline : (apos.endLine == cpos.line) = true := by rfl)
    (hs : starEach [.Call (.Attribute e "items" apos) [] [] cpos] X.env = (false, eval (.Call (.Attribute e "items" apos) [] [] cpos) X.env) :: starEach [] X.env := by rfl) :
    PE X (.Call (.Name "sorted" p) [.Call (.Attribute e "items" apos) [] [] cpos] [] pos) (tSortIt te) := by
  refine ⟨fun pins s σ H Q I hq => ?_⟩
  refine wpAny_Call_Name_kw (ld_blt I hg hm hv ?_)
  refine PyProof.Rows.callWith_builtin1 ?_ hs rfl
  rw [hs]
  show wpAny _ _ (spliced ((false, eval (.Call (.Attribute e "items" apos) [] [] cpos) X.env) :: backTo pos (starEach [] X.env))) _ _ s
  refine Calls.spliced_cons ?_
  refine wpAny_Call_method (T := "dict") (id := "dict.items") hbase rfl hline F.plainAttrs_dict F.slot_dict_items F.type_dict_items (thn (he.run pins s σ H _ I hq) fun u s1 ⟨x, H1, I1, rx, q⟩ => ?_)
  unfold rSortIt at q
  obtain ⟨d, l, rfl, hd, q⟩ := q
  obtain rfl : u = Value.ref d := rx
  obtain ⟨hz, hs0, vs, kv, hdo⟩ := I1.hok d _ hd
  obtain ⟨ep, hat⟩ := hdo.dictAt
  have lk : (dI l).length = vs.length := Paired.length kv
  have ll : (dI l).length = l.length := by unfold dI; rw [List.length_map]
  refine ⟨hdo.typeIs, hdo.mapOf.noDict, ?_⟩
  show wpAny _ _ (callWith cpos (.builtin "dict.items") [.ref d] [] []) _ X.xe s1
  refine method_meetsIn F.slot_dict_items F.entry_dict_items rfl (PySem.evalArgs_none ⟨rfl, hdo.typeIs, F.args_dict_items_1 _, _, meets_dict_items (mixKind X.prog X.w) d hs0, ⟨vs, hdo⟩, ?_⟩)
  refine Calls.spliced_nil ?_
  have I2 : Inv X pins σ H1 { s1 with heap := s1.heap.push { cls := .type "dict_items", data := .fields #[.ref d] } } := I1.kept (t' := s1.toks) fun b ob q => Heap.get?_push_of_some _ q
  have hB : ((H1 d).isSome) = true := by rw [hd]; rfl
  refine Calls.call_function_entry kind_sorted plain_sorted entry_sorted (args_sorted1 _) (by
    unfold Builtin.«sorted»
    refine wpAny_bind (m := checkCount "sorted" 1 1 _) (wpAny_pure (wpAny_bind (PySem.W.kdx_collect (knd := mixKind X.prog X.w) (kvs := vs) (ep := ep) (I1.ok.hd hc) ⟨_, Heap.get?_push_size _ rfl, rfl, rfl⟩ (hat.push _) (by omega) fun h1 tk as hk hl hG => ?_)))
    refine wpAny_bind (wpAny_newList ?_ (by rw [List.length_map, hl]; omega))
    -- the pairs' tuples: at as
    have nd : as.Nodup := hG.rise.imp fun {a b} h => Nat.ne_of_lt h
    have lz : (as.zip l).map (·.1) = as := List.map_fst_zip (by omega)
    have zx : ∀ (j : Nat) (a : Addr), as[j]? = some a → ∃ (q : PI) (t u : Tok), l[j]? = some q ∧ pzAt (as.zip l) a = some q ∧ h1.get? a = some { cls := .type "tuple", data := .seq #[.int q.a t, .int q.b u] } := fun j a h => by
      obtain ⟨key, k, x, e1, e2, e3⟩ := hG.pairs j a h
      have jl : j < l.length := by have := (List.getElem?_eq_some_iff.mp h).1; omega
      have lj : l[j]? = some l[j] := List.getElem?_eq_getElem jl
      obtain ⟨y, e4, e5, e6⟩ := LiI.paired_get kv (dI_get jl)
      rw [e1] at e4
      have e4 := Option.some.inj e4
      subst e4
      obtain ⟨i, tk1, e7, rfl⟩ | ⟨z, tk1, e7, _⟩ := keyIs_shape (show keyIs k key = true from e2)
      · have e5 : Sum.inl l[j].a = k := e5
        rw [e7] at e5
        have e5 := Sum.inl.inj e5
        subst e5
        obtain ⟨tk2, e6⟩ := (show RelV (.int l[j].b) x from e6)
        subst e6
        exact ⟨l[j], tk1, tk2, lj, pzAt_ix (zs := as.zip l) (by rw [lz]; exact nd) (j := j) (z := (a, l[j])) (List.getElem?_zip_eq_some.mpr ⟨h, lj⟩), e3⟩
      · have e5 : Sum.inl l[j].a = k := e5
        rw [e7] at e5
        cases e5
    have zm : ∀ a ∈ as, ∃ (q : PI) (t u : Tok), pzAt (as.zip l) a = some q ∧ h1.get? a = some { cls := .type "tuple", data := .seq #[.int q.a t, .int q.b u] } := fun a m => by
      obtain ⟨j, hj⟩ := List.getElem?_of_mem m
      obtain ⟨q, t, u, _, h2, h3⟩ := zx j a hj
      exact ⟨q, t, u, h2, h3⟩
    have lm : as.map (fun a => (pzAt (as.zip l) a).getD ⟨0, 0⟩) = l := by
      refine List.ext_getElem? fun j => ?_
      rw [List.getElem?_map]
      cases hj : as[j]? with
      | none =>
        have := List.getElem?_eq_none_iff.mp hj
        exact (List.getElem?_eq_none_iff.mpr (by omega)).symm
      | some a =>
        obtain ⟨q, t, u, h1, h2, _⟩ := zx j a hj
        rw [h1, Option.map_some, h2]; rfl
    generalize ezs : as.zip l = zs at zx zm lm lz
    have s12 : (s1.heap.push { cls := .type "dict_items", data := .fields #[.ref d] }).objs.size ≤ h1.objs.size := by
      have := Heap.lt_size (hk _ _ (Heap.get?_push_size s1.heap rfl))
      rw [Heap.size_push]; exact this
    have Bn : h1.objs.size ∉ as := fun z => Nat.lt_irrefl _ (hG.there z)
    let kk : Value → Int × Int := fun v => (((pzAt zs (adOf v)).getD ⟨0, 0⟩).a, ((pzAt zs (adOf v)).getD ⟨0, 0⟩).b)
    have ho : (h1.push { cls := .type "list", data := .seq (as.map Value.ref).toArray }).get? h1.objs.size = some (seqObj "list" (as.map Value.ref).toArray 0) := Heap.get?_push_size _ rfl
    refine wpAny_bind (wpAny_holding (wpAny_call_entry slot_list_sort ⟨_, ho, rfl⟩ entry_list_sort (SrtO.list_sort_ord (ltv := fun v u => SrtO.lexB (kk v) (kk u)) (SrtO.swo_lex kk) ho (by rw [List.length_map, hl]; omega) (fun h2 => ?_) fun out hso hbo => ⟨_, rfl, wpAny_pure ⟨_, rfl, ?_⟩⟩) (args_list_sort _)))
    · refine SrtO.pairs_sortableO (k := kk) (by omega) (fun v m => ?_) fun o e => ?_
      · obtain ⟨a, ma, rfl⟩ := List.mem_map.mp m
        obtain ⟨q, t, u, h1', h2'⟩ := zm a ma
        refine ⟨a, _, t, u, 0, rfl, Heap.get?_push_of_some _ h2', rfl, ?_⟩
        show _ = Data.seq #[.int ((pzAt zs a).getD ⟨0, 0⟩).a t, .int ((pzAt zs a).getD ⟨0, 0⟩).b u] 0
        rw [h1']
        rfl
      · rw [ho] at e
        cases e
        intro c
        exact absurd (Value.type.inj c) (by decide)
    · have outp : out.Perm (as.map Value.ref) := hbo.perm
      have oe : out = (out.map adOf).map Value.ref := by
        rw [List.map_map]
        refine (List.map_id out).symm.trans (List.map_congr_left fun v m => ?_)
        obtain ⟨a, _, rfl⟩ := List.mem_map.mp (outp.mem_iff.mp m)
        rfl
      have yp : (out.map adOf).Perm as := by
        have := outp.map adOf
        rw [List.map_map] at this
        have e : as.map (adOf ∘ Value.ref) = as := (List.map_congr_left fun a _ => rfl).trans (List.map_id as)
        rw [e] at this; exact this
      generalize out.map adOf = ys at oe yp
      have lo : out.length ≤ sizeLine := by rw [oe, List.length_map, yp.length_eq, hl]; omega
      obtain ⟨ep3, h3B⟩ := sortedHeap_at (vs := as.map Value.ref) (out := out.toArray) ho
      have h3o : ∀ b o, h1.get? b = some o → (sortedHeap (h1.push { cls := .type "list", data := .seq (as.map Value.ref).toArray }) h1.objs.size (as.map Value.ref) out.toArray).get? b = some o := fun b o e => by
        have bl := Heap.lt_size e
        rw [sortedHeap_old (Nat.ne_of_lt bl) (by rw [Heap.size_push]; exact Nat.lt_succ_of_lt bl)]
        exact Heap.get?_push_of_some _ e
      have tB : trk H1 h1.objs.size (.lst (ys.map V.ref)) zs h1.objs.size = some (.lst (ys.map V.ref)) := by unfold trk; rw [if_pos rfl]
      have tT : ∀ a ∈ as, ∀ q, pzAt zs a = some q → trk H1 h1.objs.size (.lst (ys.map V.ref)) zs a = some (.tup [.int q.a, .int q.b]) := fun a m q e => by
        unfold trk
        rw [if_neg (fun z => Bn (by rw [← z]; exact m)), e]
      have tO : ∀ b, b ≠ h1.objs.size → b ∉ as → trk H1 h1.objs.size (.lst (ys.map V.ref)) zs b = H1 b := fun b n m => by
        unfold trk
        rw [if_neg n, pzAt_no (by rw [lz]; exact m)]
      have big : ∀ a ∈ h1.objs.size :: as, (s1.heap.push { cls := .type "dict_items", data := .fields #[.ref d] }).objs.size ≤ a := fun a m => by
        rcases List.mem_cons.mp m with rfl | m
        · exact s12
        · exact Nat.le_of_lt (hG.above a m)
      have J := inv_many (tk := tk) (H' := trk H1 h1.objs.size (.lst (ys.map V.ref)) zs) (h' := sortedHeap (h1.push { cls := .type "list", data := .seq (as.map Value.ref).toArray }) h1.objs.size (as.map Value.ref) out.toArray) (as := h1.objs.size :: as) I2 (fun b o e => h3o b o (hk b o e)) big
          (fun b m => tO b (fun z => m (by rw [z]; exact List.mem_cons_self)) (fun z => m (List.mem_cons_of_mem _ z))) (fun b m o e => by
        by_cases hb : b = h1.objs.size
        · subst hb
          rw [tB] at e
          cases e
          refine ⟨by rw [List.length_map, yp.length_eq, hl]; omega, out, ep3, ?_, h3B⟩
          rw [oe]
          exact LiI.vals_refs ys
        · have m := (List.mem_cons.mp m).resolve_left hb
          obtain ⟨q, t, u, e1, e2⟩ := zm b m
          rw [tT b m q e1] at e
          cases e
          exact ⟨two_le, [.int q.a t, .int q.b u], .cons ⟨_, rfl⟩ (.cons ⟨_, rfl⟩ .nil), ⟨_, h3o b _ e2, rfl, _, rfl⟩⟩)
      have fr1 : ∀ a ∈ h1.objs.size :: as, H1 a = none := fun a m => I2.hok.fresh (big a m)
      have ym : ∀ a, a ∈ ys ↔ a ∈ as := fun a => yp.mem_iff
      refine ⟨.ref h1.objs.size, _, J, rfl, q _ _ ys (fun b o e => ?_) (fr1 _ List.mem_cons_self) (fun t m => fr1 t (List.mem_cons_of_mem _ ((ym t).mp m))) (fun z => Bn ((ym _).mp z)) (fun b n m => tO b n fun z => m ((ym b).mpr z)) tB ?_⟩
      · rw [tO b (fun z => by rw [z, fr1 _ List.mem_cons_self] at e; cases e) (fun z => by rw [fr1 b (List.mem_cons_of_mem _ z)] at e; cases e)]
        exact e
      · have es : ys.map (fun a => (pzAt zs a).getD ⟨0, 0⟩) = srt l := by
          refine srt_of ?_ (by rw [← lm]; exact yp.map _)
          rw [oe] at hso
          have hso := List.pairwise_map.mp hso
          refine List.pairwise_map.mpr (hso.imp fun {x y} h => ?_)
          have h := SrtO.lexB_no.mp h
          exact leP_iff.mpr (by simp only [kk, adOf] at h; omega)
        rw [← es]
        refine ⟨by rw [List.length_map], fun i x y h1 h2 => ?_⟩
        rw [List.getElem?_map, h1] at h2
        cases h2
        have m := (ym x).mp (List.mem_of_getElem? h1)
        obtain ⟨q, t, u, e1, e2⟩ := zm x m
        rw [tT x m q e1]
        show _ = some (HO.tup [V.int ((pzAt zs x).getD ⟨0, 0⟩).a, V.int ((pzAt zs x).getD ⟨0, 0⟩).b])
        rw [e1]
        rfl)
theorem sitems {F H : Hp} {d : Addr} {l : List PI} {Q : VK} (sF : Same F H) (hd : H d = some (.dK (dI l))) (q : ∀ (F' H' : Hp) (p : Addr) (xs : List V), Gr mu0 F H F' H' → Ow H F' H' p (.lst xs) → IsAll F' xs (srt l) → Q (.ref p) H') : rSortIt (.ref d) H Q := by
  unfold rSortIt
  refine ⟨d, l, rfl, hd, fun H' p ys s n nt pn off hp al => ?_⟩
  have fy : ∀ b ∈ ys, F b = none := fun b m => sF.free (nt b m)
  have s' : Same F (fun b => if b ∈ ys then H' b else F b) := fun b o e => by
    by_cases m : b ∈ ys
    · rw [fy b m] at e; cases e
    · simp only [m, if_false]; exact e
  have e2 : ∀ b, b ∈ ys → (if b ∈ ys then H' b else F b) = H' b := fun b m => if_pos m
  refine q (fun b => if b ∈ ys then H' b else F b) H' p (ys.map V.ref) ⟨s', fun b o e => ?_, fun b o e => ?_, fun b o e _ => s b o e, fun b e => s.free e⟩ ⟨n, ?_, hp⟩ ⟨by rw [List.length_map]; exact al.1, fun i x y h1 h2 => ?_⟩
  · by_cases m : b ∈ ys
    · simp only [m, if_true] at e; exact e
    · simp only [m, if_false] at e; exact s b o (sF b o e)
  · by_cases m : b ∈ ys
    · exact .inr (nt b m)
    · simp only [m, if_false] at e; exact .inl e
  · show (if p ∈ ys then H' p else F p) = none
    rw [if_neg pn]; exact sF.free n
  · rw [List.getElem?_map] at h1
    cases e : ys[i]? with
    | none => rw [e] at h1; cases h1
    | some t =>
      rw [e] at h1
      cases h1
      refine ⟨t, _, _, rfl, ?_, rfl, rfl⟩
      show (if t ∈ ys then H' t else F t) = _
      rw [if_pos (List.mem_of_getElem? e)]
      exact al.2 i t y e h2
end
/-! ### sum of a tuple; a tuple not at all or once -/
section
open PySem.Spec PyProof.Rows
variable {X : Cx}
def rSumT (K : PySem.W.Frag) : List V → Hp → VK → Prop := fun vs H Q => ∃ (a : Addr) (ns : List Int), vs = [V.ref a] ∧ SqT K H a (ns.map V.int) ∧ Q (.int ns.sum) H
theorem cr_sumT (hc : X.calm = true) : CallR X (.builtin "sum") (rSumT X.K) := by
  intro pins s σ H vs us Q I r h
  obtain ⟨a, ns, rfl, ht, q⟩ := h
  obtain ⟨its, rv, ⟨o, ho, hcl, n, hd⟩, _⟩ := I.tuple ht
  have hi := rv.ints
  obtain ⟨xs, e⟩ := hi.allInts.items
  have hn : numsOf (intItems xs).toList = ns := by rw [← e]; exact hi.numsOf
  rw [nums_intItems] at hn
  rw [e] at hd
  rw [Vals.ref1 r]
  refine PySem.W.ktm_sumG (I.ok.hd hc) ⟨o, ho, hcl, n, hd⟩ fun h' tk t' hk => ?_
  rw [preSum_eq, List.take_of_length_le (by simp), hn]
  exact ⟨.int _, H, I.kept hk, ⟨_, rfl⟩, q⟩
theorem tup_mul1 (l : Addr) (items : Array Value) (n : Nat) (dd : Option Addr) (sl : Array (Option Value)) (u : Tok) (hne : items.isEmpty = false) :
    Meets (Builtin.«tuple.__mul__» ⟨[.ref l, .int 1 u], []⟩) (fun _ R s => s.heap.get? l = some { cls := .type "tuple", dict := dd, data := .seq items n, slots := sl } ∧ R (.ok (.ret (Value.ref l))) s) :=
  .of_wp fun prog w A R s h => by
    obtain ⟨hp, g, d, tk, os⟩ := s
    obtain ⟨hl, h⟩ := h
    have f1 := AutoSeq1.idx_int
    wp_walk using wpAny_loadPart' hl
    exact ⟨_, rfl, h⟩
theorem tup_mul0 (l : Addr) (items : Array Value) (n : Nat) (dd : Option Addr) (sl : Array (Option Value)) (u : Tok) (hne : items.isEmpty = false) :
    Meets (Builtin.«tuple.__mul__» ⟨[.ref l, .int 0 u], []⟩) (fun _ R s => s.heap.get? l = some { cls := .type "tuple", dict := dd, data := .seq items n, slots := sl } ∧
      R (.ok (.ret (Value.ref s.heap.objs.size))) { s with heap := s.heap.push { cls := Value.type "tuple", data := Data.seq #[] }, toks := s.toks }) :=
  .of_wp fun prog w A R s h => by
    obtain ⟨hp, g, d, tk, os⟩ := s
    obtain ⟨hl, h⟩ := h
    have f1 := AutoSeq1.idx_int
    wp_walk using wpAny_loadPart' hl
    exact ⟨_, rfl, h⟩
def rRep01 (K : PySem.W.Frag) : R2 := fun x y H Q => ∃ l k xs, x = .ref l ∧ y = .int k ∧ SqT K H l xs ∧ xs ≠ [] ∧ ((k = 1 ∧ Q (.ref l) H) ∨ (k = 0 ∧ ∀ p, H p = none → Q (.ref p) (upd H p (.tup []))))
theorem op_rep01 : OpR X (binaryOp .Mult) (rRep01 X.K) := by
  intro pins s σ H x y v u Q I rx ry h
  obtain ⟨l, k, xs, rfl, rfl, hT, hne, h⟩ := h
  cases rx
  obtain ⟨tk, rfl⟩ := ry
  obtain ⟨its, r, ⟨⟨cls, dd, data, sl⟩, ho, hc, n, hd⟩, hs⟩ := I.tuple hT
  simp only at hc hd
  subst hc hd
  have hi : its.toArray.isEmpty = false := by
    cases its with
    | nil => have := r.length; exact absurd (List.eq_nil_of_length_eq_zero this) hne
    | cons a b => rfl
  rcases h with ⟨rfl, q⟩ | ⟨rfl, q⟩
  · refine wpAny_binaryOp_repeat_ref (T := "tuple") (U := "int") (by decide) ⟨_, ho, rfl⟩ (fun s' => typeIs_int s' 1 tk) noFill_tuple_mul F.fills_int_mul F.slot_int_rmul repeat_tuple F.slot_int_index.lookup
      (call_meets F.slot_int_rmul (typeIs_int s 1 tk) F.entry_int_rmul (F.args_int_rmul_2 _ _) (int_rmul_tuple 1 tk l its.toArray n dd sl)
        ⟨ho, rfl, ⟨_, ho, rfl⟩, call_meets F.slot_tuple_mul ⟨_, ho, rfl⟩ F.entry_tuple_mul (F.args_tuple_mul_2 _ _) (tup_mul1 l its.toArray n dd sl tk hi) ⟨ho, ?_⟩⟩)
    exact ⟨.ref l, H, I, rfl, q⟩
  · refine wpAny_binaryOp_repeat_ref (T := "tuple") (U := "int") (by decide) ⟨_, ho, rfl⟩ (fun s' => typeIs_int s' 0 tk) noFill_tuple_mul F.fills_int_mul F.slot_int_rmul repeat_tuple F.slot_int_index.lookup
      (call_meets F.slot_int_rmul (typeIs_int s 0 tk) F.entry_int_rmul (F.args_int_rmul_2 _ _) (int_rmul_tuple 0 tk l its.toArray n dd sl)
        ⟨ho, rfl, ⟨_, ho, rfl⟩, call_meets F.slot_tuple_mul ⟨_, ho, rfl⟩ F.entry_tuple_mul (F.args_tuple_mul_2 _ _) (tup_mul0 l its.toArray n dd sl tk hi) ⟨ho, ?_⟩⟩)
    refine ⟨.ref s.heap.objs.size, _, I.laid (t' := s.toks) (o := .tup []) (fun b ob q => Heap.get?_push_of_some _ q) (Nat.le_refl _) ?_, rfl, q _ (I.hok.fresh (Nat.le_refl _))⟩
    exact ⟨nil_le, _, .nil, IsTup.new _ _⟩
end
/-! slices of tuples, +: the ways -/
@[irreducible] def rSlQ (K : PySem.W.Frag) : V → Option Int → Option Int → Hp → VK → Prop := rSlA K
theorem sl_tupQ {X : Cx} : SlR X (rSlQ X.K) := by
  unfold rSlQ
  exact sl_tupA
@[irreducible] def rCatQ (K : PySem.W.Frag) : R2 := rCatA K
theorem op_catQ {X : Cx} : OpR X (binaryOp .Add) (rCatQ X.K) := by
  unfold rCatQ
  exact op_catA
theorem slA_all {K : PySem.W.Frag} {H : Hp} {a : Addr} {xs : List V} {lo hi : Option Int} {Q : VK} (h : SqT K H a xs) (w : HT.sIx xs.length 0 lo = 0 ∧ HT.sIx xs.length xs.length hi = xs.length) (q : Q (.ref a) H) : rSlQ K (.ref a) lo hi H Q := by
  unfold rSlQ
  exact ⟨a, xs, rfl, h, fun _ => q, fun n => absurd w n⟩
theorem slA_cut {K : PySem.W.Frag} {H : Hp} {a : Addr} {xs : List V} {lo hi : Option Int} {Q : VK} (h : SqT K H a xs) (w : ¬ (HT.sIx xs.length 0 lo = 0 ∧ HT.sIx xs.length xs.length hi = xs.length)) (q : ∀ p, H p = none → Q (.ref p) (upd H p (.tup (cutV xs lo hi)))) : rSlQ K (.ref a) lo hi H Q := by
  unfold rSlQ
  exact ⟨a, xs, rfl, h, fun n => absurd n w, fun _ => q⟩
theorem catA_nil {K : PySem.W.Frag} {H : Hp} {a b : Addr} {ys : List V} {Q : VK} (h : SqT K H a []) (h2 : SqT K H b ys) (l : ys.length ≤ sizeLine) (q : Q (.ref b) H) : rCatQ K (.ref a) (.ref b) H Q := by
  unfold rCatQ
  exact ⟨a, b, [], ys, rfl, rfl, h, h2, by simpa using l, fun _ => q, fun n => absurd rfl n, fun n => absurd rfl n⟩
theorem catA_new {K : PySem.W.Frag} {H : Hp} {a b : Addr} {xs ys : List V} {Q : VK} (h : SqT K H a xs) (h2 : SqT K H b ys) (l : xs.length + ys.length ≤ sizeLine) (n1 : xs ≠ []) (n2 : ys ≠ []) (q : ∀ p, H p = none → Q (.ref p) (upd H p (.tup (xs ++ ys)))) : rCatQ K (.ref a) (.ref b) H Q := by
  unfold rCatQ
  exact ⟨a, b, xs, ys, rfl, rfl, h, h2, l, fun e => absurd e n1, fun _ e => absurd e n2, fun _ _ => q⟩
/-! ### exceptions kept in a name beyond their suite -/
section
open PySem.Spec PyProof.Rows
/-- an exception that was caught: its class, its dict -/
def Kp (a : Addr) (cls : Value) (d : Option Addr) : HO := .ext fun h => ∃ oe : Obj, h.get? a = some oe ∧ Zc cls d oe ∧ ∃ vs, oe.data = .fields vs
section
variable {X : Cx} {pins : List (Addr × Obj)} {σ : L2.St} {H : Hp} {s sI : Shared} {a : Addr} {oe : Obj} {cls : Value} {d : Option Addr} {B : Heap}
/-- what is in hand may be tracked -/
theorem kp_track (I : Inv X pins σ H s) (he : s.heap.get? a = some oe) (hz : Zc cls d oe) (hf : ∃ vs, oe.data = .fields vs) (na : H a = none) (nL : a ≠ X.env.locals) (n0 : X.s_0.heap.get? a = none ∨ a ∈ X.ex) (np : ∀ p ∈ X.pn ++ pins, p.1 ≠ a) :
    Inv X pins σ (upd H a (Kp a cls d)) s where
  ok := I.ok
  os := I.os
  bare := I.bare
  base :=
    { keep := I.base.keep
      slot := I.base.slot
      free := fun b o e n x => by
        have nb : b ≠ a := by
          rintro rfl
          rcases n0 with z | z
          · rw [z] at e; cases e
          · exact x z
        rw [upd_ne nb]; exact I.base.free b o e n x
      there := I.base.there
      tups := fun b xs q => by have z := I.base.tups b xs q; rw [upd_ne (ne_of_none z na)]; exact z
      frzs := fun b o u q => by have z := I.base.frzs b o u q; rw [upd_ne (ne_of_none z na)]; exact z
      tbls := fun b ps q => by
        obtain ⟨m, z⟩ := I.base.tbls b ps q
        exact ⟨m, by rw [upd_ne (ne_of_none z na)]; exact z⟩ }
  loc := I.loc
  cell := I.cell
  free := by rw [upd_ne (Ne.symm nL)]; exact I.free
  freeC := fun x c q => by
    have nc : c ≠ a := by
      rintro rfl
      obtain ⟨v, o, ho, hd⟩ := I.cell x _ q
      obtain ⟨vs, hv⟩ := hf
      rw [he] at ho; cases ho
      rw [hv] at hd; cases hd
    rw [upd_ne nc]; exact I.freeC x c q
  pin := fun p hp => by
    obtain ⟨z1, z2, z3⟩ := I.pin p hp
    exact ⟨z1, by rw [upd_ne (np p hp)]; exact z2, z3⟩
  hok := fun b u q => by
    by_cases hb : b = a
    · subst hb
      rw [upd_same] at q; cases q
      exact ⟨⟨oe, he, hz, hf⟩, ⟨oe, he⟩, fun _ _ ⟨o, z, r⟩ k => ⟨o, k o z, r⟩⟩
    · rw [upd_ne hb] at q
      exact (I.hok b u q).stay (fun _ _ _ z => z) (fun c z => by rw [upd_ne (ne_of_none z na)]; exact z) fun c xs z => by rw [upd_ne (ne_of_none z na)]; exact z
  len := I.len
/-- what came into being on the way stands apart from all that was there -/
theorem kp_new (J : Inv X pins σ H sI) (nb : ∀ b o, sI.heap.get? b = some o → b ∉ frs X.stack → B.get? b = some o) (hB : B.get? a = none) (nf : a ∉ frs X.stack) :
    (X.s_0.heap.get? a = none ∨ a ∈ X.ex) ∧ ∀ p ∈ X.pn ++ pins, p.1 ≠ a := by
  have gone : ∀ o, ¬ sI.heap.get? a = some o := fun o e => by
    have z := nb a o e nf
    rw [hB] at z; cases z
  refine ⟨?_, fun p hp z => ?_⟩
  · by_cases hx : a ∈ X.ex
    · exact .inr hx
    · cases e : X.s_0.heap.get? a with
      | none => exact .inl rfl
      | some o =>
        obtain ⟨o', e'⟩ := J.base.there a o e hx
        exact absurd e' (gone o')
  · have e := (J.pin p hp).1
    rw [z] at e
    exact gone _ e
end
/-- what 'except x as n' wishes of an exception that it always catches: behind the suite it is tracked -/
def wKp (K : PySem.W.Frag) (c : Value) (i : Nat) (ts : Addr → Value → Option Addr → TS) (D : Ends) : WX := fun cls d σ H =>
  PySem.W.exmOne K cls c = some true ∧ ∀ a, H a = none → ts a cls d { nx := fun σ' H' => D.nx (σ'.set i none) (upd H' a (Kp a cls d)), rt := D.rt, bk := fun σ' H' => D.bk (σ'.set i none) H', ct := fun σ' H' => D.ct (σ'.set i none) H' } (σ.set i (some (.ref a))) H
section
variable {X : Cx} {x n : Str} {c : Value} {i : Nat} {body suite : List Stmt} {b0 : Stmt} {np pos pos' : Pos} {tb : WX → TS} {ts : Addr → Value → Option Addr → TS}
theorem ps_try_kp (hst : X.stack = X.env :: X.outer) (hfr : X.env.frame = some X.env.locals) (hN : X.N.Nodup) (hi : X.N[i]? = some n) (hl : X.env.kindOf n = some .local) (hc : Names X x c)
    (hb : ∀ (W : WX) (pn : List (Addr × Obj)) (xe : Value → Shared → Prop), Takes (X.tr pn xe) W → PassesOwn (model X.prog X.w) X.A X.env xe → PSs (X.tr pn xe) body (tb W))
    (hsu : ∀ (a : Addr) (oe : Obj) (cls : Value) (d : Option Addr) (pn : List (Addr × Obj)), Zc cls d oe → (∃ vs, oe.data = .fields vs) → PSs (X.suite a ((a, oe) :: pn)) (b0 :: suite) (ts a cls d)) :
    PS X (.Try body [.ExceptHandler (some (.Name x np)) (some n) (b0 :: suite) pos'] [] [] pos) (fun D σ H => tb (wKp X.K c i ts D) D σ H) := by
  refine ⟨fun pins s σ H D I h => ?_⟩
  have ok := I.ok
  have hA : X.A.frames = some (X.env :: X.outer) := ok.frames.trans (congrArg some hst)
  refine wpAny_Try_except (wpAny_mono
    ((hb (wKp X.K c i ts D) (X.pn ++ pins) _ (fun u s' q => ?_) PassesOwn.looking).run [] s σ H D (I.toTry _) h)
    (fun f s1 hsp => ?_) (fun _ _ q => q))
  · obtain ⟨a, B, sI, pi, σ1, H1, cls, d, rfl, J0, nb, up, sky, na, os, ag, hb1, hyes⟩ := q
    have J := J0.ofTry ok
    rw [show (X.tr (X.pn ++ pins) _).stack = X.env :: X.outer from hst] at sky
    show wpAny (model X.prog X.w) X.A (noteFrame (.ref a) X.env) _ _ _
    refine Sky.land Zc.steady hA hfr sky fun hp fl up1 => ?_
    have J1 : Inv X pins σ1 H1 { s' with heap := hp } := J.landed nb fl.1 (up.trans up1) os ag
    obtain ⟨o1, vs1, e1, z1, d1⟩ := fl.there
    have off : a ∉ frs (X.env :: X.outer) := fun hm => by
      obtain ⟨_, o', e', nof⟩ := fl.2.2.1.mem hm
      rw [e1] at e'; cases e'
      exact nof _ d1
    have nL : a ≠ X.env.locals := by
      rintro rfl
      exact off (List.mem_filterMap.mpr ⟨X.env, List.mem_cons_self, hfr⟩)
    have nF : a ∉ X.fs := fun hm => by
      obtain ⟨v, hv, q⟩ := List.mem_filterMap.mp hm
      exact off (List.mem_filterMap.mpr ⟨v, List.mem_cons_of_mem _ hv, q⟩)
    obtain ⟨n0, np0⟩ := kp_new J nb fl.2.1 (by rw [hst]; exact off)
    have K1 := J1.suite e1 d1 na nL nF
    refine wpAny_handleBy_cons (codeAny_handlers_test ?_) (fun z => nomatch z)
    have lt : PySem.W.Looks (model X.prog X.w) hp (typeOf (.ref a)) cls := fun A Q E s k q => wpAny_typeOf_ref (k _ _ e1) (by rw [z1.1]; exact q)
    have lm := PySem.W.exm_one (M := model X.prog X.w) J1.kIn lt hb1
    have nm : ∀ {Q : Value → Shared → Prop} {E : Value → Shared → Prop}, Q c { s' with heap := hp } → wpAny (model X.prog X.w) (X.A.mark (some (.ref a))) (eval (.Name x np) X.env) Q E { s' with heap := hp } := fun q => by
      obtain ⟨g1, g2, g3 | ⟨g3, g4, g5⟩⟩ := hc
      · exact ld_glob (X := X.suite a ((a, o1) :: (X.pn ++ pins))) K1 g1 g3 q g2
      · exact ld_blt (X := X.suite a ((a, o1) :: (X.pn ++ pins))) K1 g1 g3 g4 q g5 g2
    refine nm (lm.here (codeAny_handlers_suite_as (HandSPX.lands_againZ fl fun hq fm up2 => ?_)))
    have J2 : Inv X pins σ1 H1 { s' with heap := hq } := J.landed nb fm.1 ((up.trans up1).trans up2) os ag
    obtain ⟨o2, vs2, e2, z2, d2⟩ := fm.there
    have K2 := J2.suite e2 d2 na nL nF
    refine store_ok (X := X.suite a ((a, o2) :: (X.pn ++ pins))) (v := .ref a) K2 hN hi (.inl hl) rfl (fun s5 K5 => ?_) (.inr hl)
    refine wpAny_mono ((hsu a o2 cls d (X.pn ++ pins) z2 ⟨_, d2⟩).run [] s5 _ H1 _ K5 (hyes a na)) (fun f s6 hsp => ?_) (fun _ _ z => False.elim z)
    cases f with
    | next =>
      obtain ⟨σ6, H6, K6, q6⟩ := hsp
      obtain ⟨e6, n6, _⟩ := K6.pin (a, o2) (List.mem_append_left _ List.mem_cons_self)
      exact gone_ok (kp_track (K6.unsuite ok) e6 z2 ⟨_, d2⟩ n6 nL n0 np0) hN hi hl fun s7 J7 => ⟨_, _, J7, q6⟩
    | brk =>
      obtain ⟨σ6, H6, K6, q6⟩ := hsp
      exact gone_ok (K6.unsuite ok) hN hi hl fun s7 J7 => ⟨_, _, J7, q6⟩
    | cont =>
      obtain ⟨σ6, H6, K6, q6⟩ := hsp
      exact gone_ok (K6.unsuite ok) hN hi hl fun s7 J7 => ⟨_, _, J7, q6⟩
    | ret u =>
      obtain ⟨v6, σ6, H6, K6, r6, q6⟩ := hsp
      exact gone_ok (K6.unsuite ok) hN hi hl fun s7 J7 => ⟨_, _, _, J7, r6, q6⟩
  · cases f with
    | next =>
      obtain ⟨σ6, H6, K6, q6⟩ := hsp
      exact wpAny_execs_nil ⟨σ6, H6, K6.ofTry ok, q6⟩
    | brk =>
      obtain ⟨σ6, H6, K6, q6⟩ := hsp
      exact ⟨σ6, H6, K6.ofTry ok, q6⟩
    | cont =>
      obtain ⟨σ6, H6, K6, q6⟩ := hsp
      exact ⟨σ6, H6, K6.ofTry ok, q6⟩
    | ret u =>
      obtain ⟨v6, σ6, H6, K6, r6, q6⟩ := hsp
      exact ⟨v6, σ6, H6, K6.ofTry ok, r6, q6⟩
end
/-- isinstance(e, c), e a kept exception of the class at D without a dict of its own -/
@[irreducible] def rIsK (K : PySem.W.Frag) : List V → Hp → VK → Prop := fun xs H Q => ∃ (a D : Addr) (c : V) (cv : Value) (b : Bool), xs = [.ref a, c] ∧ H a = some (Kp a (.ref D) none) ∧ ExcC K D ∧ (∀ u, RelV c u → u = cv) ∧ PySem.W.kitOne K (.ref D) cv = some b ∧ Q (.bl b) H
theorem rIsK.mk {K : PySem.W.Frag} {H : Hp} {Q : VK} {a D : Addr} {c : V} {cv : Value} {b : Bool} (h : H a = some (Kp a (.ref D) none)) (hC : ExcC K D) (hc : ∀ u, RelV c u → u = cv) (e : PySem.W.kitOne K (.ref D) cv = some b) (q : Q (.bl b) H) : rIsK K [.ref a, c] H Q := by
  unfold rIsK; exact ⟨a, D, c, cv, b, rfl, h, hC, hc, e, q⟩
theorem kp_inst {X : Cx} {pins : List (Addr × Obj)} {σ : L2.St} {H : Hp} {s : Shared} {a D : Addr} (I : Inv X pins σ H s) (h : H a = some (Kp a (.ref D) none)) : ∃ oe, PySem.W.InstAt s.heap a oe D none := by
  obtain ⟨⟨oe, he, ⟨z1, z2⟩, vs, hv⟩, _⟩ := I.hok a _ h
  obtain ⟨oc, od, oda, osl⟩ := oe
  dsimp only at z1 z2 hv
  subst z1 z2 hv
  exact ⟨_, he, rfl, rfl, trivial⟩
theorem call_isK {X : Cx} : CallR X (.builtin "isinstance") (rIsK X.K) := by
  intro pins s σ H xs us Q I r h
  unfold rIsK at h
  obtain ⟨a, D, c, cv, b, rfl, hH, C, hcv, e, q⟩ := h
  cases r with
  | cons rx rr =>
    cases rr with
    | cons rt rr =>
      cases rr
      cases rx
      obtain rfl := hcv _ rt
      obtain ⟨oe, J⟩ := kp_inst I hH
      exact PySem.W.kia_one (PySem.W.handS_kitx_exc C.hg C.hk C.hs C.hd C.ha C.hn C.ht C.hm) I.kIn J e (fun z => nomatch z) fun tk => ⟨.bl b, H, I.kept (t' := tk) fun _ _ z => z, rfl, q⟩
/-- isinstance(None, ..) and of other things: the list layer's rule, or a kept exception -/
@[irreducible] def rIsB (K : PySem.W.Frag) : List V → Hp → VK → Prop := fun xs H Q => rIsK K xs H Q ∨ rIsi K xs H Q
theorem call_isB {X : Cx} : CallR X (.builtin "isinstance") (rIsB X.K) := by
  intro pins s σ H xs us Q I r h
  unfold rIsB at h
  rcases h with h | h
  · exact call_isK pins s σ H xs us Q I r h
  · exact call_isi pins s σ H xs us Q I r h
theorem rIsB.k {K : PySem.W.Frag} {H : Hp} {Q : VK} {xs : List V} (h : rIsK K xs H Q) : rIsB K xs H Q := by unfold rIsB; exact .inl h
theorem rIsB.i {K : PySem.W.Frag} {H : Hp} {Q : VK} {xs : List V} (h : rIsi K xs H Q) : rIsB K xs H Q := by unfold rIsB; exact .inr h
/-- whether an instance of t is one of C; of a built-in class -/
theorem kit_own {K : PySem.W.Frag} {t : Value} {C : Addr} {b : Bool} (i : PySem.W.isClsIn K C = true) (ty : PySem.W.typeIn K (.ref C) = some (.type "type")) (s : PySem.W.subIn K t (.ref C) = some b) (se : PySem.W.subIn K (.ref C) (.ref C) = some true) : PySem.W.kitOne K t (.ref C) = some b := by
  unfold PySem.W.kitOne
  by_cases e : (t == Value.ref C) = true
  · rw [if_pos e]
    have e' : t = .ref C := eq_of_beq e
    rw [e', se] at s
    exact s
  · rw [if_neg e]
    have i' : (PySem.W.clsIn K C).isSome = true := i
    show (if ((PySem.W.clsIn K C).isSome && PySem.W.typeIn K (.ref C) == some (.type "type")) = true then PySem.W.subIn K t (.ref C) else none) = some b
    rw [if_pos (by rw [i', ty]; rfl)]
    exact s
theorem kit_blt {K : PySem.W.Frag} {D : Addr} {T : String} {b : Bool} (s : PySem.W.subIn K (.ref D) (.type T) = some b) (m : PySem.W.kitMeta T = true := by decide +kernel) : PySem.W.kitOne K (.ref D) (.type T) = some b := by
  unfold PySem.W.kitOne
  rw [if_neg (by
    intro e
    have e' : Value.ref D = .type T := eq_of_beq e
    cases e')]
  show (if PySem.W.kitMeta T = true then PySem.W.subIn K (.ref D) (.type T) else none) = some b
  rw [if_pos m]
  exact s
/-- isinstance(e, (C1, C2, ..)) -/
@[irreducible] def rIsKT (K : PySem.W.Frag) : List V → Hp → VK → Prop := fun xs H Q => ∃ (a D tp : Addr) (cs : List V) (us : List Value) (b : Bool), xs = [.ref a, .ref tp] ∧ H a = some (Kp a (.ref D) none) ∧ ExcC K D ∧ H tp = some (.tup cs) ∧ Paired ClsV cs us ∧ PySem.W.kitAny K (.ref D) us = some b ∧ Q (.bl b) H
theorem rIsKT.mk {K : PySem.W.Frag} {H : Hp} {Q : VK} {a D tp : Addr} {cs : List V} {us : List Value} {b : Bool} (h : H a = some (Kp a (.ref D) none)) (hC : ExcC K D) (ht : H tp = some (.tup cs)) (hc : Paired ClsV cs us) (e : PySem.W.kitAny K (.ref D) us = some b) (q : Q (.bl b) H) : rIsKT K [.ref a, .ref tp] H Q := by
  unfold rIsKT; exact ⟨a, D, tp, cs, us, b, rfl, h, hC, ht, hc, e, q⟩
theorem call_isKT {X : Cx} : CallR X (.builtin "isinstance") (rIsKT X.K) := by
  intro pins s σ H xs us0 Q I r h
  unfold rIsKT at h
  obtain ⟨a, D, tp, cs, us, b, rfl, hH, C, hT, k, e, q⟩ := h
  obtain ⟨u1, u2, rfl, r1, r2⟩ := vals2 r
  cases r1
  cases r2
  obtain ⟨oe, J⟩ := kp_inst I hH
  obtain ⟨_, its, rv, o, h1, h2, n, h3⟩ := (show ObjOk X.prog X.w H s.heap tp (.tup cs) from I.hok tp _ hT)
  have e3 := ClsV.all k rv
  subst e3
  obtain ⟨oc, od, dt, sl⟩ := o
  simp only at h2 h3
  subst h2 h3
  exact PySem.W.kia_tup (PySem.W.handS_kitx_exc C.hg C.hk C.hs C.hd C.ha C.hn C.ht C.hm) I.kIn J h1 e (fun z => nomatch z) fun tk => ⟨.bl b, H, I.tok tk, rfl, q⟩
@[irreducible] def rIsBT (K : PySem.W.Frag) : List V → Hp → VK → Prop := fun xs H Q => rIsKT K xs H Q ∨ rIsiT K xs H Q
theorem call_isBT {X : Cx} : CallR X (.builtin "isinstance") (rIsBT X.K) := by
  intro pins s σ H xs us Q I r h
  unfold rIsBT at h
  rcases h with h | h
  · exact call_isKT pins s σ H xs us Q I r h
  · exact call_isiT pins s σ H xs us Q I r h
theorem rIsBT.k {K : PySem.W.Frag} {H : Hp} {Q : VK} {xs : List V} (h : rIsKT K xs H Q) : rIsBT K xs H Q := by unfold rIsBT; exact .inl h
theorem rIsBT.i {K : PySem.W.Frag} {H : Hp} {Q : VK} {xs : List V} (h : rIsiT K xs H Q) : rIsBT K xs H Q := by unfold rIsBT; exact .inr h
/-- a def that lets nothing out serves where something may be let out; two promises of one def -/
theorem FnOk.lift {P : Program} {w : World} {K : PySem.W.Frag} {mg : Str → Option Value} {base : Heap} {k : Nat} {f : Addr} {fd : FuncData} {ps : List Str} {sp : Sp} (F : FnOk P w K mg base CX0 k f fd ps sp) : FnOk P w K mg base (L2.CX P w) k f fd ps sp :=
  ⟨F.len, fun A outer s H args us vs Q E hr he hb hv hs => codeAny_mono (F.run A outer s H args us vs Q E hr he hb hv hs) fun r s' hq => by
    cases r with
    | error e => exact False.elim hq
    | ok fl =>
      cases fl with
      | ret u => exact hq
      | _ => exact False.elim hq⟩
theorem FnOk.or {P : Program} {w : World} {K : PySem.W.Frag} {mg : Str → Option Value} {base : Heap} {CX : CXT} {k : Nat} {f : Addr} {fd : FuncData} {ps : List Str} {sp sp' : Sp} (F : FnOk P w K mg base CX k f fd ps sp) (G : FnOk P w K mg base CX k f fd ps sp') :
    FnOk P w K mg base CX k f fd ps fun vs H Q E => sp vs H Q E ∨ sp' vs H Q E :=
  ⟨fun vs H Q E h => h.elim (F.len vs H Q E) (G.len vs H Q E), fun A outer s H args us vs Q E hr he hb hv hs => hs.elim (F.run A outer s H args us vs Q E hr he hb hv) (G.run A outer s H args us vs Q E hr he hb hv)⟩
end
/-! ### exceptions made, and held as values -/
section
open PySem.Spec PyProof.Rows
variable {X : Cx} {C : Addr} {bmB : List Value} {B newId initId : String} {x : Str} {e : PySem.Expr} {ta : TE} {p pos : Pos}
theorem kp_made {pins : List (Addr × Obj)} {σ : L2.St} {H : Hp} {Q : VK} {s : Shared} {h' : Heap} {a : Addr} {us : List Value} (I : Inv X pins σ H s) (hx : Heap.MadeExcOf s.heap h' a (.ref C) us) (q : ∀ a, H a = none → Q (.ref a) (upd H a (Kp a (.ref C) none))) : EP X pins σ Q (.ref a) { s with heap := h' } := by
  have hn : H a = none := I.hok.gone hx.new
  obtain ⟨t, ht, _, _⟩ := hx.there
  exact ⟨.ref a, upd H a (Kp a (.ref C) none), I.laidN hx.keeps hx.new hn ⟨⟨_, ht, ⟨rfl, rfl⟩, _, rfl⟩, ⟨_, ht⟩, fun _ _ ⟨o, z, r⟩ k => ⟨o, k o z, r⟩⟩, rfl, q a hn⟩
/-- X() -/
def tExc0 (C : Addr) : TE := fun _ H Q => ∀ a, H a = none → Q (.ref a) (upd H a (Kp a (.ref C) none))
theorem pe_exc0 (F : ExcBaseFacts B newId initId bmB) (q : PySem.W.excIn X.K C bmB newId = true) (gC : X.mg x = some (.ref C)) (kC : PySem.W.keepIn X.K (.ref C) = true) (hg : Gl X x) (hdb : (x == ("__debug__" : Str)) = false := by decide) :
    PE X (.Call (.Name x p) [] [] pos) (tExc0 C) := by
  refine ⟨fun pins s σ H Q I h => wpAny_Call_Name_kw (ld_glob I hg gC (PySem.W.callWith_K0 I.kIn kC ?_) hdb)⟩
  show wpAny _ _ (call (.ref C) []) _ _ _
  obtain ⟨bm, N, nm, qn, bs, hdct, sn, sub, ab, col, dd, k0, k1, k2, k3, k5, mN, hC, hN, hni, T⟩ := exc_obj I.kIn q
  exact wpAny_call_exc_subT F T hC hN hni (fun h' a hm => kp_made I hm h) (Nat.zero_le _)
/-- X(e) -/
def tExcK (C : Addr) (ta : TE) : TE := fun σ H Q => ta σ H fun _ H1 => ∀ a, H1 a = none → Q (.ref a) (upd H1 a (Kp a (.ref C) none))
theorem pe_excK (F : ExcBaseFacts B newId initId bmB) (q : PySem.W.excIn X.K C bmB newId = true) (gC : X.mg x = some (.ref C)) (kC : PySem.W.keepIn X.K (.ref C) = true) (hg : Gl X x) (he : PE X e ta)
    (hs : starEach [e] X.env = (false, eval e X.env) :: starEach [] X.env := by rfl) (hdb : (x == ("__debug__" : Str)) = false := by decide) : PE X (.Call (.Name x p) [e] [] pos) (tExcK C ta) := by
  refine ⟨fun pins s σ H Q I h => wpAny_Call_Name_kw (ld_glob I hg gC (PySem.W.callWith_K (h₀ := X.base) I.ok.mod.kin kC ?_ hs (by rfl)) hdb)⟩
  rw [hs]
  refine Calls.spliced_cons (thn (he.run pins s σ H _ I h) fun u s1 ⟨v, H1, I1, r1, q1⟩ => Calls.spliced_nil ⟨I1.kIn, ?_⟩)
  show wpAny _ _ (call (.ref C) [u]) _ _ _
  obtain ⟨bm, N, nm, qn, bs, hdct, sn, sub, ab, col, dd, k0, k1, k2, k3, k5, mN, hC, hN, hni, T⟩ := exc_obj I1.kIn q
  exact wpAny_call_exc_subT F T hC hN hni (fun h' a hm => kp_made I1 hm q1) (le_size (show 1 ≤ 1000000 by decide))
end
def top (i : Nat) : Stmt := PySem.Challenge.pw_endnever_k07_refusals_made.main.body.getD i (.Pass ⟨0, 0, 0, 0⟩)
abbrev s_L_mixed : Stmt := top 25
abbrev N_L_mixed : List Str := ["_law_cell", "_law_k", "_law_rest", "_law_number"]
theorem sc_L_mixed : FnScope ["_law_cell", "_law_k", "_law_rest", "_law_number"] ["_law_cell", "_law_k"] (defScope s_L_mixed) := ⟨rfl, rfl, rfl, by decide +kernel, rfl, by decide +kernel, by decide +kernel⟩
abbrev s_L_purse : Stmt := top 26
abbrev N_L_purse : List Str := ["_law_script", "_law_cells", "_law_number", "_law_k"]
theorem sc_L_purse : FnScope ["_law_script", "_law_cells", "_law_number", "_law_k"] ["_law_script"] (defScope s_L_purse) := ⟨rfl, rfl, rfl, by decide +kernel, rfl, by decide +kernel, by decide +kernel⟩
abbrev s_is_entry : Stmt := top 16
abbrev N_is_entry : List Str := ["entry", "rows", "signs"]
theorem sc_is_entry : FnScope ["entry", "rows", "signs"] ["entry", "rows", "signs"] (defScope s_is_entry) := ⟨rfl, rfl, rfl, by decide +kernel, rfl, by decide +kernel, by decide +kernel⟩
abbrev s_is_machine : Stmt := top 17
abbrev N_is_machine : List Str := ["machine", "rows", "signs", "row", "entry"]
theorem sc_is_machine : FnScope ["machine", "rows", "signs", "row", "entry"] ["machine"] (defScope s_is_machine) := ⟨rfl, rfl, rfl, by decide +kernel, rfl, by decide +kernel, by decide +kernel⟩
abbrev s_must_machine : Stmt := top 18
abbrev N_must_machine : List Str := ["machine"]
theorem sc_must_machine : FnScope ["machine"] ["machine"] (defScope s_must_machine) := ⟨rfl, rfl, rfl, by decide +kernel, rfl, by decide +kernel, by decide +kernel⟩
abbrev s_run : Stmt := top 23
abbrev N_run : List Str := ["machine", "most", "walk", "ended"]
theorem sc_run : FnScope ["machine", "most", "walk", "ended"] ["machine", "most"] (defScope s_run) := ⟨rfl, rfl, rfl, by decide +kernel, rfl, by decide +kernel, by decide +kernel⟩
abbrev s_L_kinds : Stmt := top 28
abbrev N_L_kinds : List Str := ["_law_one", "_law_found"]
theorem sc_L_kinds : FnScope ["_law_one", "_law_found"] ["_law_one"] (defScope s_L_kinds) := ⟨rfl, rfl, rfl, by decide +kernel, rfl, by decide +kernel, by decide +kernel⟩
abbrev s_L_draw : Stmt := top 27
abbrev N_L_draw : List Str := ["_law_purse_here", "_law_out_of", "_law_drawn"]
theorem sc_L_draw : FnScope ["_law_purse_here", "_law_out_of", "_law_drawn"] ["_law_purse_here", "_law_out_of"] (defScope s_L_draw) := ⟨rfl, rfl, rfl, by decide +kernel, rfl, by decide +kernel, by decide +kernel⟩
abbrev s_law : Stmt := top 29
abbrev N_law : List Str := ["_law_script", "_law_purse_here", "_law_signs", "_law_text", "_law_k", "_law_bare", "_law_told", "_law_some", "_law_one", "_law_due", "_law_j", "_law_caught", "e"]
theorem sc_law : FnScope ["_law_script", "_law_purse_here", "_law_signs", "_law_text", "_law_k", "_law_bare", "_law_told", "_law_some", "_law_one", "_law_due", "_law_j", "_law_caught", "e"] ["_law_script"] (defScope s_law) := ⟨rfl, rfl, rfl, by decide +kernel, rfl, by decide +kernel, by decide +kernel⟩
/-- what the top has written: where each def stands, what the names hold -/
structure Tx (K : PySem.W.Frag) (mg : Str → Option Value) where
  a_L_mixed : Addr
  fd_L_mixed : FuncData
  F_L_mixed : Fun K "_law_mixed" "_law_mixed" s_L_mixed a_L_mixed fd_L_mixed
  b_L_mixed : Binds K fd_L_mixed ["_law_cell", "_law_k"] []
  m_L_mixed : mg "_law_mixed" = some (.ref a_L_mixed)
  a_L_purse : Addr
  fd_L_purse : FuncData
  F_L_purse : Fun K "_law_purse" "_law_purse" s_L_purse a_L_purse fd_L_purse
  b_L_purse : Binds K fd_L_purse ["_law_script"] []
  m_L_purse : mg "_law_purse" = some (.ref a_L_purse)
  a_is_entry : Addr
  fd_is_entry : FuncData
  F_is_entry : Fun K "is_entry" "is_entry" s_is_entry a_is_entry fd_is_entry
  b_is_entry : Binds K fd_is_entry ["entry", "rows", "signs"] []
  m_is_entry : mg "is_entry" = some (.ref a_is_entry)
  a_is_machine : Addr
  fd_is_machine : FuncData
  F_is_machine : Fun K "is_machine" "is_machine" s_is_machine a_is_machine fd_is_machine
  b_is_machine : Binds K fd_is_machine ["machine"] []
  m_is_machine : mg "is_machine" = some (.ref a_is_machine)
  a_must_machine : Addr
  fd_must_machine : FuncData
  F_must_machine : Fun K "must_machine" "must_machine" s_must_machine a_must_machine fd_must_machine
  b_must_machine : Binds K fd_must_machine ["machine"] []
  m_must_machine : mg "must_machine" = some (.ref a_must_machine)
  a_run : Addr
  fd_run : FuncData
  F_run : Fun K "run" "run" s_run a_run fd_run
  b_run : Binds K fd_run ["machine", "most"] []
  m_run : mg "run" = some (.ref a_run)
  a_L_kinds : Addr
  fd_L_kinds : FuncData
  F_L_kinds : Fun K "_law_kinds" "_law_kinds" s_L_kinds a_L_kinds fd_L_kinds
  b_L_kinds : Binds K fd_L_kinds ["_law_one"] []
  m_L_kinds : mg "_law_kinds" = some (.ref a_L_kinds)
  a_L_draw : Addr
  fd_L_draw : FuncData
  F_L_draw : Fun K "_law_draw" "_law_draw" s_L_draw a_L_draw fd_L_draw
  b_L_draw : Binds K fd_L_draw ["_law_purse_here", "_law_out_of"] []
  m_L_draw : mg "_law_draw" = some (.ref a_L_draw)
  a_law : Addr
  fd_law : FuncData
  F_law : Fun K "law" "law" s_law a_law fd_law
  b_law : Binds K fd_law ["_law_script"] []
  m_law : mg "law" = some (.ref a_law)
  C_NoMachine : Addr
  m_NoMachine : mg "NoMachine" = some (.ref C_NoMachine)
  C_Full : Addr
  m_Full : mg "Full" = some (.ref C_Full)
  C_NoDeed : Addr
  m_NoDeed : mg "NoDeed" = some (.ref C_NoDeed)
  C_NoLine : Addr
  m_NoLine : mg "NoLine" = some (.ref C_NoLine)
  C_NoName : Addr
  m_NoName : mg "NoName" = some (.ref C_NoName)
  C_NoPaper : Addr
  m_NoPaper : mg "NoPaper" = some (.ref C_NoPaper)
  C_NoSize : Addr
  m_NoSize : mg "NoSize" = some (.ref C_NoSize)
  C_NoSuch : Addr
  m_NoSuch : mg "NoSuch" = some (.ref C_NoSuch)
  C_NoText : Addr
  m_NoText : mg "NoText" = some (.ref C_NoText)
  C_NoWidth : Addr
  m_NoWidth : mg "NoWidth" = some (.ref C_NoWidth)
  C_Twice : Addr
  m_Twice : mg "Twice" = some (.ref C_Twice)
  C_MillError : Addr
  m_MillError : mg "MillError" = some (.ref C_MillError)
  tk_MOST_ROWS : Tok
  m_MOST_ROWS : mg "MOST_ROWS" = some (.int 4 tk_MOST_ROWS)
  tk_MOST_SIGNS : Tok
  m_MOST_SIGNS : mg "MOST_SIGNS" = some (.int 4 tk_MOST_SIGNS)
  n_range : mg "range" = none
  n_len : mg "len" = none
  n_abs : mg "abs" = none
  n_all : mg "all" = none
  n_isinstance : mg "isinstance" = none
  n_enumerate : mg "enumerate" = none
  n_ValueError : mg "ValueError" = none
  x_Full : PySem.W.excIn K C_Full [.type "ValueError", .type "Exception", .type "BaseException", .type "object"] "ValueError.__new__" = true
  x_NoDeed : PySem.W.excIn K C_NoDeed [.type "ValueError", .type "Exception", .type "BaseException", .type "object"] "ValueError.__new__" = true
  x_NoLine : PySem.W.excIn K C_NoLine [.type "ValueError", .type "Exception", .type "BaseException", .type "object"] "ValueError.__new__" = true
  x_NoMachine : PySem.W.excIn K C_NoMachine [.type "ValueError", .type "Exception", .type "BaseException", .type "object"] "ValueError.__new__" = true
  x_NoName : PySem.W.excIn K C_NoName [.type "ValueError", .type "Exception", .type "BaseException", .type "object"] "ValueError.__new__" = true
  x_NoPaper : PySem.W.excIn K C_NoPaper [.type "ValueError", .type "Exception", .type "BaseException", .type "object"] "ValueError.__new__" = true
  x_NoSize : PySem.W.excIn K C_NoSize [.type "ValueError", .type "Exception", .type "BaseException", .type "object"] "ValueError.__new__" = true
  x_NoSuch : PySem.W.excIn K C_NoSuch [.type "ValueError", .type "Exception", .type "BaseException", .type "object"] "ValueError.__new__" = true
  x_NoText : PySem.W.excIn K C_NoText [.type "ValueError", .type "Exception", .type "BaseException", .type "object"] "ValueError.__new__" = true
  x_NoWidth : PySem.W.excIn K C_NoWidth [.type "ValueError", .type "Exception", .type "BaseException", .type "object"] "ValueError.__new__" = true
  x_Twice : PySem.W.excIn K C_Twice [.type "ValueError", .type "Exception", .type "BaseException", .type "object"] "ValueError.__new__" = true
  x_MillError : PySem.W.excIn K C_MillError [.type "ValueError", .type "Exception", .type "BaseException", .type "object"] "ValueError.__new__" = true
  k_Full : PySem.W.keepIn K (.ref C_Full) = true
  b_Full : PySem.W.subIn K (.ref C_Full) (.type "BaseException") = some true
  t_Full : PySem.W.typeIn K (.ref C_Full) = some (.type "type")
  h_Full : PySem.W.hasDictIn K C_Full = true
  k_NoDeed : PySem.W.keepIn K (.ref C_NoDeed) = true
  b_NoDeed : PySem.W.subIn K (.ref C_NoDeed) (.type "BaseException") = some true
  t_NoDeed : PySem.W.typeIn K (.ref C_NoDeed) = some (.type "type")
  h_NoDeed : PySem.W.hasDictIn K C_NoDeed = true
  k_NoLine : PySem.W.keepIn K (.ref C_NoLine) = true
  b_NoLine : PySem.W.subIn K (.ref C_NoLine) (.type "BaseException") = some true
  t_NoLine : PySem.W.typeIn K (.ref C_NoLine) = some (.type "type")
  h_NoLine : PySem.W.hasDictIn K C_NoLine = true
  k_NoMachine : PySem.W.keepIn K (.ref C_NoMachine) = true
  b_NoMachine : PySem.W.subIn K (.ref C_NoMachine) (.type "BaseException") = some true
  t_NoMachine : PySem.W.typeIn K (.ref C_NoMachine) = some (.type "type")
  h_NoMachine : PySem.W.hasDictIn K C_NoMachine = true
  k_NoName : PySem.W.keepIn K (.ref C_NoName) = true
  b_NoName : PySem.W.subIn K (.ref C_NoName) (.type "BaseException") = some true
  t_NoName : PySem.W.typeIn K (.ref C_NoName) = some (.type "type")
  h_NoName : PySem.W.hasDictIn K C_NoName = true
  k_NoPaper : PySem.W.keepIn K (.ref C_NoPaper) = true
  b_NoPaper : PySem.W.subIn K (.ref C_NoPaper) (.type "BaseException") = some true
  t_NoPaper : PySem.W.typeIn K (.ref C_NoPaper) = some (.type "type")
  h_NoPaper : PySem.W.hasDictIn K C_NoPaper = true
  k_NoSize : PySem.W.keepIn K (.ref C_NoSize) = true
  b_NoSize : PySem.W.subIn K (.ref C_NoSize) (.type "BaseException") = some true
  t_NoSize : PySem.W.typeIn K (.ref C_NoSize) = some (.type "type")
  h_NoSize : PySem.W.hasDictIn K C_NoSize = true
  k_NoSuch : PySem.W.keepIn K (.ref C_NoSuch) = true
  b_NoSuch : PySem.W.subIn K (.ref C_NoSuch) (.type "BaseException") = some true
  t_NoSuch : PySem.W.typeIn K (.ref C_NoSuch) = some (.type "type")
  h_NoSuch : PySem.W.hasDictIn K C_NoSuch = true
  k_NoText : PySem.W.keepIn K (.ref C_NoText) = true
  b_NoText : PySem.W.subIn K (.ref C_NoText) (.type "BaseException") = some true
  t_NoText : PySem.W.typeIn K (.ref C_NoText) = some (.type "type")
  h_NoText : PySem.W.hasDictIn K C_NoText = true
  k_NoWidth : PySem.W.keepIn K (.ref C_NoWidth) = true
  b_NoWidth : PySem.W.subIn K (.ref C_NoWidth) (.type "BaseException") = some true
  t_NoWidth : PySem.W.typeIn K (.ref C_NoWidth) = some (.type "type")
  h_NoWidth : PySem.W.hasDictIn K C_NoWidth = true
  k_Twice : PySem.W.keepIn K (.ref C_Twice) = true
  b_Twice : PySem.W.subIn K (.ref C_Twice) (.type "BaseException") = some true
  t_Twice : PySem.W.typeIn K (.ref C_Twice) = some (.type "type")
  h_Twice : PySem.W.hasDictIn K C_Twice = true
  k_MillError : PySem.W.keepIn K (.ref C_MillError) = true
  b_MillError : PySem.W.subIn K (.ref C_MillError) (.type "BaseException") = some true
  t_MillError : PySem.W.typeIn K (.ref C_MillError) = some (.type "type")
  h_MillError : PySem.W.hasDictIn K C_MillError = true
  hg_Full : PySem.W.findIn K (.ref C_Full) "__getattribute__" = some (some (.builtin "BaseException.__getattribute__"))
  hk_Full : PySem.W.findIn K (.ref C_Full) "__getattr__" = some none
  ha_Full : PySem.W.findIn K (.ref C_Full) "__class__" = some (some (.builtin "object.__class__"))
  hm_Full : PySem.W.mroIn K C_Full (.type "object") = some true
  s_Full_MillError : PySem.W.subIn K (.ref C_Full) (.ref C_MillError) = some true
  hg_NoDeed : PySem.W.findIn K (.ref C_NoDeed) "__getattribute__" = some (some (.builtin "BaseException.__getattribute__"))
  hk_NoDeed : PySem.W.findIn K (.ref C_NoDeed) "__getattr__" = some none
  ha_NoDeed : PySem.W.findIn K (.ref C_NoDeed) "__class__" = some (some (.builtin "object.__class__"))
  hm_NoDeed : PySem.W.mroIn K C_NoDeed (.type "object") = some true
  s_NoDeed_MillError : PySem.W.subIn K (.ref C_NoDeed) (.ref C_MillError) = some true
  hg_NoLine : PySem.W.findIn K (.ref C_NoLine) "__getattribute__" = some (some (.builtin "BaseException.__getattribute__"))
  hk_NoLine : PySem.W.findIn K (.ref C_NoLine) "__getattr__" = some none
  ha_NoLine : PySem.W.findIn K (.ref C_NoLine) "__class__" = some (some (.builtin "object.__class__"))
  hm_NoLine : PySem.W.mroIn K C_NoLine (.type "object") = some true
  s_NoLine_MillError : PySem.W.subIn K (.ref C_NoLine) (.ref C_MillError) = some true
  hg_NoMachine : PySem.W.findIn K (.ref C_NoMachine) "__getattribute__" = some (some (.builtin "BaseException.__getattribute__"))
  hk_NoMachine : PySem.W.findIn K (.ref C_NoMachine) "__getattr__" = some none
  ha_NoMachine : PySem.W.findIn K (.ref C_NoMachine) "__class__" = some (some (.builtin "object.__class__"))
  hm_NoMachine : PySem.W.mroIn K C_NoMachine (.type "object") = some true
  s_NoMachine_MillError : PySem.W.subIn K (.ref C_NoMachine) (.ref C_MillError) = some true
  hg_NoName : PySem.W.findIn K (.ref C_NoName) "__getattribute__" = some (some (.builtin "BaseException.__getattribute__"))
  hk_NoName : PySem.W.findIn K (.ref C_NoName) "__getattr__" = some none
  ha_NoName : PySem.W.findIn K (.ref C_NoName) "__class__" = some (some (.builtin "object.__class__"))
  hm_NoName : PySem.W.mroIn K C_NoName (.type "object") = some true
  s_NoName_MillError : PySem.W.subIn K (.ref C_NoName) (.ref C_MillError) = some true
  hg_NoPaper : PySem.W.findIn K (.ref C_NoPaper) "__getattribute__" = some (some (.builtin "BaseException.__getattribute__"))
  hk_NoPaper : PySem.W.findIn K (.ref C_NoPaper) "__getattr__" = some none
  ha_NoPaper : PySem.W.findIn K (.ref C_NoPaper) "__class__" = some (some (.builtin "object.__class__"))
  hm_NoPaper : PySem.W.mroIn K C_NoPaper (.type "object") = some true
  s_NoPaper_MillError : PySem.W.subIn K (.ref C_NoPaper) (.ref C_MillError) = some true
  hg_NoSize : PySem.W.findIn K (.ref C_NoSize) "__getattribute__" = some (some (.builtin "BaseException.__getattribute__"))
  hk_NoSize : PySem.W.findIn K (.ref C_NoSize) "__getattr__" = some none
  ha_NoSize : PySem.W.findIn K (.ref C_NoSize) "__class__" = some (some (.builtin "object.__class__"))
  hm_NoSize : PySem.W.mroIn K C_NoSize (.type "object") = some true
  s_NoSize_MillError : PySem.W.subIn K (.ref C_NoSize) (.ref C_MillError) = some true
  hg_NoSuch : PySem.W.findIn K (.ref C_NoSuch) "__getattribute__" = some (some (.builtin "BaseException.__getattribute__"))
  hk_NoSuch : PySem.W.findIn K (.ref C_NoSuch) "__getattr__" = some none
  ha_NoSuch : PySem.W.findIn K (.ref C_NoSuch) "__class__" = some (some (.builtin "object.__class__"))
  hm_NoSuch : PySem.W.mroIn K C_NoSuch (.type "object") = some true
  s_NoSuch_MillError : PySem.W.subIn K (.ref C_NoSuch) (.ref C_MillError) = some true
  hg_NoText : PySem.W.findIn K (.ref C_NoText) "__getattribute__" = some (some (.builtin "BaseException.__getattribute__"))
  hk_NoText : PySem.W.findIn K (.ref C_NoText) "__getattr__" = some none
  ha_NoText : PySem.W.findIn K (.ref C_NoText) "__class__" = some (some (.builtin "object.__class__"))
  hm_NoText : PySem.W.mroIn K C_NoText (.type "object") = some true
  s_NoText_MillError : PySem.W.subIn K (.ref C_NoText) (.ref C_MillError) = some true
  hg_NoWidth : PySem.W.findIn K (.ref C_NoWidth) "__getattribute__" = some (some (.builtin "BaseException.__getattribute__"))
  hk_NoWidth : PySem.W.findIn K (.ref C_NoWidth) "__getattr__" = some none
  ha_NoWidth : PySem.W.findIn K (.ref C_NoWidth) "__class__" = some (some (.builtin "object.__class__"))
  hm_NoWidth : PySem.W.mroIn K C_NoWidth (.type "object") = some true
  s_NoWidth_MillError : PySem.W.subIn K (.ref C_NoWidth) (.ref C_MillError) = some true
  hg_Twice : PySem.W.findIn K (.ref C_Twice) "__getattribute__" = some (some (.builtin "BaseException.__getattribute__"))
  hk_Twice : PySem.W.findIn K (.ref C_Twice) "__getattr__" = some none
  ha_Twice : PySem.W.findIn K (.ref C_Twice) "__class__" = some (some (.builtin "object.__class__"))
  hm_Twice : PySem.W.mroIn K C_Twice (.type "object") = some true
  s_Twice_MillError : PySem.W.subIn K (.ref C_Twice) (.ref C_MillError) = some true
  hg_MillError : PySem.W.findIn K (.ref C_MillError) "__getattribute__" = some (some (.builtin "BaseException.__getattribute__"))
  hk_MillError : PySem.W.findIn K (.ref C_MillError) "__getattr__" = some none
  ha_MillError : PySem.W.findIn K (.ref C_MillError) "__class__" = some (some (.builtin "object.__class__"))
  hm_MillError : PySem.W.mroIn K C_MillError (.type "object") = some true
  s_MillError_MillError : PySem.W.subIn K (.ref C_MillError) (.ref C_MillError) = some true
  hn_ : PySem.W.specialIn K (.builtin "object.__class__") "__get__" = some (some (.builtin "getset_descriptor.__get__"))
  ht_ : PySem.W.takesIn K (.builtin "object.__class__") = some true
  i_Full : PySem.W.isClsIn K C_Full = true
  se_Full : PySem.W.subIn K (.ref C_Full) (.ref C_Full) = some true
  s_Full_Full : PySem.W.subIn K (.ref C_Full) (.ref C_Full) = some true
  s_NoDeed_Full : PySem.W.subIn K (.ref C_NoDeed) (.ref C_Full) = some false
  s_NoLine_Full : PySem.W.subIn K (.ref C_NoLine) (.ref C_Full) = some false
  s_NoMachine_Full : PySem.W.subIn K (.ref C_NoMachine) (.ref C_Full) = some false
  s_NoName_Full : PySem.W.subIn K (.ref C_NoName) (.ref C_Full) = some false
  s_NoPaper_Full : PySem.W.subIn K (.ref C_NoPaper) (.ref C_Full) = some false
  s_NoSize_Full : PySem.W.subIn K (.ref C_NoSize) (.ref C_Full) = some false
  s_NoSuch_Full : PySem.W.subIn K (.ref C_NoSuch) (.ref C_Full) = some false
  s_NoText_Full : PySem.W.subIn K (.ref C_NoText) (.ref C_Full) = some false
  s_NoWidth_Full : PySem.W.subIn K (.ref C_NoWidth) (.ref C_Full) = some false
  s_Twice_Full : PySem.W.subIn K (.ref C_Twice) (.ref C_Full) = some false
  s_MillError_Full : PySem.W.subIn K (.ref C_MillError) (.ref C_Full) = some false
  i_NoDeed : PySem.W.isClsIn K C_NoDeed = true
  se_NoDeed : PySem.W.subIn K (.ref C_NoDeed) (.ref C_NoDeed) = some true
  s_Full_NoDeed : PySem.W.subIn K (.ref C_Full) (.ref C_NoDeed) = some false
  s_NoDeed_NoDeed : PySem.W.subIn K (.ref C_NoDeed) (.ref C_NoDeed) = some true
  s_NoLine_NoDeed : PySem.W.subIn K (.ref C_NoLine) (.ref C_NoDeed) = some false
  s_NoMachine_NoDeed : PySem.W.subIn K (.ref C_NoMachine) (.ref C_NoDeed) = some false
  s_NoName_NoDeed : PySem.W.subIn K (.ref C_NoName) (.ref C_NoDeed) = some false
  s_NoPaper_NoDeed : PySem.W.subIn K (.ref C_NoPaper) (.ref C_NoDeed) = some false
  s_NoSize_NoDeed : PySem.W.subIn K (.ref C_NoSize) (.ref C_NoDeed) = some false
  s_NoSuch_NoDeed : PySem.W.subIn K (.ref C_NoSuch) (.ref C_NoDeed) = some false
  s_NoText_NoDeed : PySem.W.subIn K (.ref C_NoText) (.ref C_NoDeed) = some false
  s_NoWidth_NoDeed : PySem.W.subIn K (.ref C_NoWidth) (.ref C_NoDeed) = some false
  s_Twice_NoDeed : PySem.W.subIn K (.ref C_Twice) (.ref C_NoDeed) = some false
  s_MillError_NoDeed : PySem.W.subIn K (.ref C_MillError) (.ref C_NoDeed) = some false
  i_NoLine : PySem.W.isClsIn K C_NoLine = true
  se_NoLine : PySem.W.subIn K (.ref C_NoLine) (.ref C_NoLine) = some true
  s_Full_NoLine : PySem.W.subIn K (.ref C_Full) (.ref C_NoLine) = some false
  s_NoDeed_NoLine : PySem.W.subIn K (.ref C_NoDeed) (.ref C_NoLine) = some false
  s_NoLine_NoLine : PySem.W.subIn K (.ref C_NoLine) (.ref C_NoLine) = some true
  s_NoMachine_NoLine : PySem.W.subIn K (.ref C_NoMachine) (.ref C_NoLine) = some false
  s_NoName_NoLine : PySem.W.subIn K (.ref C_NoName) (.ref C_NoLine) = some false
  s_NoPaper_NoLine : PySem.W.subIn K (.ref C_NoPaper) (.ref C_NoLine) = some false
  s_NoSize_NoLine : PySem.W.subIn K (.ref C_NoSize) (.ref C_NoLine) = some false
  s_NoSuch_NoLine : PySem.W.subIn K (.ref C_NoSuch) (.ref C_NoLine) = some false
  s_NoText_NoLine : PySem.W.subIn K (.ref C_NoText) (.ref C_NoLine) = some false
  s_NoWidth_NoLine : PySem.W.subIn K (.ref C_NoWidth) (.ref C_NoLine) = some false
  s_Twice_NoLine : PySem.W.subIn K (.ref C_Twice) (.ref C_NoLine) = some false
  s_MillError_NoLine : PySem.W.subIn K (.ref C_MillError) (.ref C_NoLine) = some false
  i_NoMachine : PySem.W.isClsIn K C_NoMachine = true
  se_NoMachine : PySem.W.subIn K (.ref C_NoMachine) (.ref C_NoMachine) = some true
  s_Full_NoMachine : PySem.W.subIn K (.ref C_Full) (.ref C_NoMachine) = some false
  s_NoDeed_NoMachine : PySem.W.subIn K (.ref C_NoDeed) (.ref C_NoMachine) = some false
  s_NoLine_NoMachine : PySem.W.subIn K (.ref C_NoLine) (.ref C_NoMachine) = some false
  s_NoMachine_NoMachine : PySem.W.subIn K (.ref C_NoMachine) (.ref C_NoMachine) = some true
  s_NoName_NoMachine : PySem.W.subIn K (.ref C_NoName) (.ref C_NoMachine) = some false
  s_NoPaper_NoMachine : PySem.W.subIn K (.ref C_NoPaper) (.ref C_NoMachine) = some false
  s_NoSize_NoMachine : PySem.W.subIn K (.ref C_NoSize) (.ref C_NoMachine) = some false
  s_NoSuch_NoMachine : PySem.W.subIn K (.ref C_NoSuch) (.ref C_NoMachine) = some false
  s_NoText_NoMachine : PySem.W.subIn K (.ref C_NoText) (.ref C_NoMachine) = some false
  s_NoWidth_NoMachine : PySem.W.subIn K (.ref C_NoWidth) (.ref C_NoMachine) = some false
  s_Twice_NoMachine : PySem.W.subIn K (.ref C_Twice) (.ref C_NoMachine) = some false
  s_MillError_NoMachine : PySem.W.subIn K (.ref C_MillError) (.ref C_NoMachine) = some false
  i_NoName : PySem.W.isClsIn K C_NoName = true
  se_NoName : PySem.W.subIn K (.ref C_NoName) (.ref C_NoName) = some true
  s_Full_NoName : PySem.W.subIn K (.ref C_Full) (.ref C_NoName) = some false
  s_NoDeed_NoName : PySem.W.subIn K (.ref C_NoDeed) (.ref C_NoName) = some false
  s_NoLine_NoName : PySem.W.subIn K (.ref C_NoLine) (.ref C_NoName) = some false
  s_NoMachine_NoName : PySem.W.subIn K (.ref C_NoMachine) (.ref C_NoName) = some false
  s_NoName_NoName : PySem.W.subIn K (.ref C_NoName) (.ref C_NoName) = some true
  s_NoPaper_NoName : PySem.W.subIn K (.ref C_NoPaper) (.ref C_NoName) = some false
  s_NoSize_NoName : PySem.W.subIn K (.ref C_NoSize) (.ref C_NoName) = some false
  s_NoSuch_NoName : PySem.W.subIn K (.ref C_NoSuch) (.ref C_NoName) = some false
  s_NoText_NoName : PySem.W.subIn K (.ref C_NoText) (.ref C_NoName) = some false
  s_NoWidth_NoName : PySem.W.subIn K (.ref C_NoWidth) (.ref C_NoName) = some false
  s_Twice_NoName : PySem.W.subIn K (.ref C_Twice) (.ref C_NoName) = some false
  s_MillError_NoName : PySem.W.subIn K (.ref C_MillError) (.ref C_NoName) = some false
  i_NoPaper : PySem.W.isClsIn K C_NoPaper = true
  se_NoPaper : PySem.W.subIn K (.ref C_NoPaper) (.ref C_NoPaper) = some true
  s_Full_NoPaper : PySem.W.subIn K (.ref C_Full) (.ref C_NoPaper) = some false
  s_NoDeed_NoPaper : PySem.W.subIn K (.ref C_NoDeed) (.ref C_NoPaper) = some false
  s_NoLine_NoPaper : PySem.W.subIn K (.ref C_NoLine) (.ref C_NoPaper) = some false
  s_NoMachine_NoPaper : PySem.W.subIn K (.ref C_NoMachine) (.ref C_NoPaper) = some false
  s_NoName_NoPaper : PySem.W.subIn K (.ref C_NoName) (.ref C_NoPaper) = some false
  s_NoPaper_NoPaper : PySem.W.subIn K (.ref C_NoPaper) (.ref C_NoPaper) = some true
  s_NoSize_NoPaper : PySem.W.subIn K (.ref C_NoSize) (.ref C_NoPaper) = some false
  s_NoSuch_NoPaper : PySem.W.subIn K (.ref C_NoSuch) (.ref C_NoPaper) = some false
  s_NoText_NoPaper : PySem.W.subIn K (.ref C_NoText) (.ref C_NoPaper) = some false
  s_NoWidth_NoPaper : PySem.W.subIn K (.ref C_NoWidth) (.ref C_NoPaper) = some false
  s_Twice_NoPaper : PySem.W.subIn K (.ref C_Twice) (.ref C_NoPaper) = some false
  s_MillError_NoPaper : PySem.W.subIn K (.ref C_MillError) (.ref C_NoPaper) = some false
  i_NoSize : PySem.W.isClsIn K C_NoSize = true
  se_NoSize : PySem.W.subIn K (.ref C_NoSize) (.ref C_NoSize) = some true
  s_Full_NoSize : PySem.W.subIn K (.ref C_Full) (.ref C_NoSize) = some false
  s_NoDeed_NoSize : PySem.W.subIn K (.ref C_NoDeed) (.ref C_NoSize) = some false
  s_NoLine_NoSize : PySem.W.subIn K (.ref C_NoLine) (.ref C_NoSize) = some false
  s_NoMachine_NoSize : PySem.W.subIn K (.ref C_NoMachine) (.ref C_NoSize) = some false
  s_NoName_NoSize : PySem.W.subIn K (.ref C_NoName) (.ref C_NoSize) = some false
  s_NoPaper_NoSize : PySem.W.subIn K (.ref C_NoPaper) (.ref C_NoSize) = some false
  s_NoSize_NoSize : PySem.W.subIn K (.ref C_NoSize) (.ref C_NoSize) = some true
  s_NoSuch_NoSize : PySem.W.subIn K (.ref C_NoSuch) (.ref C_NoSize) = some false
  s_NoText_NoSize : PySem.W.subIn K (.ref C_NoText) (.ref C_NoSize) = some false
  s_NoWidth_NoSize : PySem.W.subIn K (.ref C_NoWidth) (.ref C_NoSize) = some false
  s_Twice_NoSize : PySem.W.subIn K (.ref C_Twice) (.ref C_NoSize) = some false
  s_MillError_NoSize : PySem.W.subIn K (.ref C_MillError) (.ref C_NoSize) = some false
  i_NoSuch : PySem.W.isClsIn K C_NoSuch = true
  se_NoSuch : PySem.W.subIn K (.ref C_NoSuch) (.ref C_NoSuch) = some true
  s_Full_NoSuch : PySem.W.subIn K (.ref C_Full) (.ref C_NoSuch) = some false
  s_NoDeed_NoSuch : PySem.W.subIn K (.ref C_NoDeed) (.ref C_NoSuch) = some false
  s_NoLine_NoSuch : PySem.W.subIn K (.ref C_NoLine) (.ref C_NoSuch) = some false
  s_NoMachine_NoSuch : PySem.W.subIn K (.ref C_NoMachine) (.ref C_NoSuch) = some false
  s_NoName_NoSuch : PySem.W.subIn K (.ref C_NoName) (.ref C_NoSuch) = some false
  s_NoPaper_NoSuch : PySem.W.subIn K (.ref C_NoPaper) (.ref C_NoSuch) = some false
  s_NoSize_NoSuch : PySem.W.subIn K (.ref C_NoSize) (.ref C_NoSuch) = some false
  s_NoSuch_NoSuch : PySem.W.subIn K (.ref C_NoSuch) (.ref C_NoSuch) = some true
  s_NoText_NoSuch : PySem.W.subIn K (.ref C_NoText) (.ref C_NoSuch) = some false
  s_NoWidth_NoSuch : PySem.W.subIn K (.ref C_NoWidth) (.ref C_NoSuch) = some false
  s_Twice_NoSuch : PySem.W.subIn K (.ref C_Twice) (.ref C_NoSuch) = some false
  s_MillError_NoSuch : PySem.W.subIn K (.ref C_MillError) (.ref C_NoSuch) = some false
  i_NoText : PySem.W.isClsIn K C_NoText = true
  se_NoText : PySem.W.subIn K (.ref C_NoText) (.ref C_NoText) = some true
  s_Full_NoText : PySem.W.subIn K (.ref C_Full) (.ref C_NoText) = some false
  s_NoDeed_NoText : PySem.W.subIn K (.ref C_NoDeed) (.ref C_NoText) = some false
  s_NoLine_NoText : PySem.W.subIn K (.ref C_NoLine) (.ref C_NoText) = some false
  s_NoMachine_NoText : PySem.W.subIn K (.ref C_NoMachine) (.ref C_NoText) = some false
  s_NoName_NoText : PySem.W.subIn K (.ref C_NoName) (.ref C_NoText) = some false
  s_NoPaper_NoText : PySem.W.subIn K (.ref C_NoPaper) (.ref C_NoText) = some false
  s_NoSize_NoText : PySem.W.subIn K (.ref C_NoSize) (.ref C_NoText) = some false
  s_NoSuch_NoText : PySem.W.subIn K (.ref C_NoSuch) (.ref C_NoText) = some false
  s_NoText_NoText : PySem.W.subIn K (.ref C_NoText) (.ref C_NoText) = some true
  s_NoWidth_NoText : PySem.W.subIn K (.ref C_NoWidth) (.ref C_NoText) = some false
  s_Twice_NoText : PySem.W.subIn K (.ref C_Twice) (.ref C_NoText) = some false
  s_MillError_NoText : PySem.W.subIn K (.ref C_MillError) (.ref C_NoText) = some false
  i_NoWidth : PySem.W.isClsIn K C_NoWidth = true
  se_NoWidth : PySem.W.subIn K (.ref C_NoWidth) (.ref C_NoWidth) = some true
  s_Full_NoWidth : PySem.W.subIn K (.ref C_Full) (.ref C_NoWidth) = some false
  s_NoDeed_NoWidth : PySem.W.subIn K (.ref C_NoDeed) (.ref C_NoWidth) = some false
  s_NoLine_NoWidth : PySem.W.subIn K (.ref C_NoLine) (.ref C_NoWidth) = some false
  s_NoMachine_NoWidth : PySem.W.subIn K (.ref C_NoMachine) (.ref C_NoWidth) = some false
  s_NoName_NoWidth : PySem.W.subIn K (.ref C_NoName) (.ref C_NoWidth) = some false
  s_NoPaper_NoWidth : PySem.W.subIn K (.ref C_NoPaper) (.ref C_NoWidth) = some false
  s_NoSize_NoWidth : PySem.W.subIn K (.ref C_NoSize) (.ref C_NoWidth) = some false
  s_NoSuch_NoWidth : PySem.W.subIn K (.ref C_NoSuch) (.ref C_NoWidth) = some false
  s_NoText_NoWidth : PySem.W.subIn K (.ref C_NoText) (.ref C_NoWidth) = some false
  s_NoWidth_NoWidth : PySem.W.subIn K (.ref C_NoWidth) (.ref C_NoWidth) = some true
  s_Twice_NoWidth : PySem.W.subIn K (.ref C_Twice) (.ref C_NoWidth) = some false
  s_MillError_NoWidth : PySem.W.subIn K (.ref C_MillError) (.ref C_NoWidth) = some false
  i_Twice : PySem.W.isClsIn K C_Twice = true
  se_Twice : PySem.W.subIn K (.ref C_Twice) (.ref C_Twice) = some true
  s_Full_Twice : PySem.W.subIn K (.ref C_Full) (.ref C_Twice) = some false
  s_NoDeed_Twice : PySem.W.subIn K (.ref C_NoDeed) (.ref C_Twice) = some false
  s_NoLine_Twice : PySem.W.subIn K (.ref C_NoLine) (.ref C_Twice) = some false
  s_NoMachine_Twice : PySem.W.subIn K (.ref C_NoMachine) (.ref C_Twice) = some false
  s_NoName_Twice : PySem.W.subIn K (.ref C_NoName) (.ref C_Twice) = some false
  s_NoPaper_Twice : PySem.W.subIn K (.ref C_NoPaper) (.ref C_Twice) = some false
  s_NoSize_Twice : PySem.W.subIn K (.ref C_NoSize) (.ref C_Twice) = some false
  s_NoSuch_Twice : PySem.W.subIn K (.ref C_NoSuch) (.ref C_Twice) = some false
  s_NoText_Twice : PySem.W.subIn K (.ref C_NoText) (.ref C_Twice) = some false
  s_NoWidth_Twice : PySem.W.subIn K (.ref C_NoWidth) (.ref C_Twice) = some false
  s_Twice_Twice : PySem.W.subIn K (.ref C_Twice) (.ref C_Twice) = some true
  s_MillError_Twice : PySem.W.subIn K (.ref C_MillError) (.ref C_Twice) = some false
  i_MillError : PySem.W.isClsIn K C_MillError = true
  se_MillError : PySem.W.subIn K (.ref C_MillError) (.ref C_MillError) = some true
  s_Full_ValueError : PySem.W.subIn K (.ref C_Full) (.type "ValueError") = some true
  s_NoDeed_ValueError : PySem.W.subIn K (.ref C_NoDeed) (.type "ValueError") = some true
  s_NoLine_ValueError : PySem.W.subIn K (.ref C_NoLine) (.type "ValueError") = some true
  s_NoMachine_ValueError : PySem.W.subIn K (.ref C_NoMachine) (.type "ValueError") = some true
  s_NoName_ValueError : PySem.W.subIn K (.ref C_NoName) (.type "ValueError") = some true
  s_NoPaper_ValueError : PySem.W.subIn K (.ref C_NoPaper) (.type "ValueError") = some true
  s_NoSize_ValueError : PySem.W.subIn K (.ref C_NoSize) (.type "ValueError") = some true
  s_NoSuch_ValueError : PySem.W.subIn K (.ref C_NoSuch) (.type "ValueError") = some true
  s_NoText_ValueError : PySem.W.subIn K (.ref C_NoText) (.type "ValueError") = some true
  s_NoWidth_ValueError : PySem.W.subIn K (.ref C_NoWidth) (.type "ValueError") = some true
  s_Twice_ValueError : PySem.W.subIn K (.ref C_Twice) (.type "ValueError") = some true
  s_MillError_ValueError : PySem.W.subIn K (.ref C_MillError) (.type "ValueError") = some true
theorem ec_Full {K : PySem.W.Frag} {mg : Str → Option Value} (t : Tx K mg) : ExcC K t.C_Full := ⟨t.hg_Full, t.hk_Full, t.b_Full, t.h_Full, t.ha_Full, t.hn_, t.ht_, t.hm_Full⟩
theorem ec_NoDeed {K : PySem.W.Frag} {mg : Str → Option Value} (t : Tx K mg) : ExcC K t.C_NoDeed := ⟨t.hg_NoDeed, t.hk_NoDeed, t.b_NoDeed, t.h_NoDeed, t.ha_NoDeed, t.hn_, t.ht_, t.hm_NoDeed⟩
theorem ec_NoLine {K : PySem.W.Frag} {mg : Str → Option Value} (t : Tx K mg) : ExcC K t.C_NoLine := ⟨t.hg_NoLine, t.hk_NoLine, t.b_NoLine, t.h_NoLine, t.ha_NoLine, t.hn_, t.ht_, t.hm_NoLine⟩
theorem ec_NoMachine {K : PySem.W.Frag} {mg : Str → Option Value} (t : Tx K mg) : ExcC K t.C_NoMachine := ⟨t.hg_NoMachine, t.hk_NoMachine, t.b_NoMachine, t.h_NoMachine, t.ha_NoMachine, t.hn_, t.ht_, t.hm_NoMachine⟩
theorem ec_NoName {K : PySem.W.Frag} {mg : Str → Option Value} (t : Tx K mg) : ExcC K t.C_NoName := ⟨t.hg_NoName, t.hk_NoName, t.b_NoName, t.h_NoName, t.ha_NoName, t.hn_, t.ht_, t.hm_NoName⟩
theorem ec_NoPaper {K : PySem.W.Frag} {mg : Str → Option Value} (t : Tx K mg) : ExcC K t.C_NoPaper := ⟨t.hg_NoPaper, t.hk_NoPaper, t.b_NoPaper, t.h_NoPaper, t.ha_NoPaper, t.hn_, t.ht_, t.hm_NoPaper⟩
theorem ec_NoSize {K : PySem.W.Frag} {mg : Str → Option Value} (t : Tx K mg) : ExcC K t.C_NoSize := ⟨t.hg_NoSize, t.hk_NoSize, t.b_NoSize, t.h_NoSize, t.ha_NoSize, t.hn_, t.ht_, t.hm_NoSize⟩
theorem ec_NoSuch {K : PySem.W.Frag} {mg : Str → Option Value} (t : Tx K mg) : ExcC K t.C_NoSuch := ⟨t.hg_NoSuch, t.hk_NoSuch, t.b_NoSuch, t.h_NoSuch, t.ha_NoSuch, t.hn_, t.ht_, t.hm_NoSuch⟩
theorem ec_NoText {K : PySem.W.Frag} {mg : Str → Option Value} (t : Tx K mg) : ExcC K t.C_NoText := ⟨t.hg_NoText, t.hk_NoText, t.b_NoText, t.h_NoText, t.ha_NoText, t.hn_, t.ht_, t.hm_NoText⟩
theorem ec_NoWidth {K : PySem.W.Frag} {mg : Str → Option Value} (t : Tx K mg) : ExcC K t.C_NoWidth := ⟨t.hg_NoWidth, t.hk_NoWidth, t.b_NoWidth, t.h_NoWidth, t.ha_NoWidth, t.hn_, t.ht_, t.hm_NoWidth⟩
theorem ec_Twice {K : PySem.W.Frag} {mg : Str → Option Value} (t : Tx K mg) : ExcC K t.C_Twice := ⟨t.hg_Twice, t.hk_Twice, t.b_Twice, t.h_Twice, t.ha_Twice, t.hn_, t.ht_, t.hm_Twice⟩
theorem ec_MillError {K : PySem.W.Frag} {mg : Str → Option Value} (t : Tx K mg) : ExcC K t.C_MillError := ⟨t.hg_MillError, t.hk_MillError, t.b_MillError, t.h_MillError, t.ha_MillError, t.hn_, t.ht_, t.hm_MillError⟩
theorem em_NoMachine_MillError {K : PySem.W.Frag} {mg : Str → Option Value} (t : Tx K mg) : PySem.W.exmOne K (.ref t.C_NoMachine) (.ref t.C_MillError) = some true := PySem.W.exm_ref t.b_MillError t.h_MillError t.t_MillError t.s_NoMachine_MillError
def cls {K : PySem.W.Frag} {mg : Str → Option Value} (t : Tx K mg) : Nat → Addr
  | 0 => t.C_Full
  | 1 => t.C_NoDeed
  | 2 => t.C_NoLine
  | 3 => t.C_NoMachine
  | 4 => t.C_NoName
  | 5 => t.C_NoPaper
  | 6 => t.C_NoSize
  | 7 => t.C_NoSuch
  | 8 => t.C_NoText
  | 9 => t.C_NoWidth
  | 10 => t.C_Twice
  | _ => t.C_MillError
theorem ecs {K : PySem.W.Frag} {mg : Str → Option Value} (t : Tx K mg) : ∀ k, ExcC K (cls t k)
  | 0 => ec_Full t
  | 1 => ec_NoDeed t
  | 2 => ec_NoLine t
  | 3 => ec_NoMachine t
  | 4 => ec_NoName t
  | 5 => ec_NoPaper t
  | 6 => ec_NoSize t
  | 7 => ec_NoSuch t
  | 8 => ec_NoText t
  | 9 => ec_NoWidth t
  | 10 => ec_Twice t
  | _ + 11 => ec_MillError t
theorem ki_Full {K : PySem.W.Frag} {mg : Str → Option Value} (t : Tx K mg) : ∀ k, PySem.W.kitOne K (.ref (cls t k)) (.ref t.C_Full) = some (decide (0 = k))
  | 0 => kit_own t.i_Full t.t_Full t.s_Full_Full t.se_Full
  | 1 => kit_own t.i_Full t.t_Full t.s_NoDeed_Full t.se_Full
  | 2 => kit_own t.i_Full t.t_Full t.s_NoLine_Full t.se_Full
  | 3 => kit_own t.i_Full t.t_Full t.s_NoMachine_Full t.se_Full
  | 4 => kit_own t.i_Full t.t_Full t.s_NoName_Full t.se_Full
  | 5 => kit_own t.i_Full t.t_Full t.s_NoPaper_Full t.se_Full
  | 6 => kit_own t.i_Full t.t_Full t.s_NoSize_Full t.se_Full
  | 7 => kit_own t.i_Full t.t_Full t.s_NoSuch_Full t.se_Full
  | 8 => kit_own t.i_Full t.t_Full t.s_NoText_Full t.se_Full
  | 9 => kit_own t.i_Full t.t_Full t.s_NoWidth_Full t.se_Full
  | 10 => kit_own t.i_Full t.t_Full t.s_Twice_Full t.se_Full
  | k + 11 => by
    rw [decide_eq_false (show ¬ 0 = k + 11 by omega)]
    exact kit_own t.i_Full t.t_Full t.s_MillError_Full t.se_Full
theorem ki_NoDeed {K : PySem.W.Frag} {mg : Str → Option Value} (t : Tx K mg) : ∀ k, PySem.W.kitOne K (.ref (cls t k)) (.ref t.C_NoDeed) = some (decide (1 = k))
  | 0 => kit_own t.i_NoDeed t.t_NoDeed t.s_Full_NoDeed t.se_NoDeed
  | 1 => kit_own t.i_NoDeed t.t_NoDeed t.s_NoDeed_NoDeed t.se_NoDeed
  | 2 => kit_own t.i_NoDeed t.t_NoDeed t.s_NoLine_NoDeed t.se_NoDeed
  | 3 => kit_own t.i_NoDeed t.t_NoDeed t.s_NoMachine_NoDeed t.se_NoDeed
  | 4 => kit_own t.i_NoDeed t.t_NoDeed t.s_NoName_NoDeed t.se_NoDeed
  | 5 => kit_own t.i_NoDeed t.t_NoDeed t.s_NoPaper_NoDeed t.se_NoDeed
  | 6 => kit_own t.i_NoDeed t.t_NoDeed t.s_NoSize_NoDeed t.se_NoDeed
  | 7 => kit_own t.i_NoDeed t.t_NoDeed t.s_NoSuch_NoDeed t.se_NoDeed
  | 8 => kit_own t.i_NoDeed t.t_NoDeed t.s_NoText_NoDeed t.se_NoDeed
  | 9 => kit_own t.i_NoDeed t.t_NoDeed t.s_NoWidth_NoDeed t.se_NoDeed
  | 10 => kit_own t.i_NoDeed t.t_NoDeed t.s_Twice_NoDeed t.se_NoDeed
  | k + 11 => by
    rw [decide_eq_false (show ¬ 1 = k + 11 by omega)]
    exact kit_own t.i_NoDeed t.t_NoDeed t.s_MillError_NoDeed t.se_NoDeed
theorem ki_NoLine {K : PySem.W.Frag} {mg : Str → Option Value} (t : Tx K mg) : ∀ k, PySem.W.kitOne K (.ref (cls t k)) (.ref t.C_NoLine) = some (decide (2 = k))
  | 0 => kit_own t.i_NoLine t.t_NoLine t.s_Full_NoLine t.se_NoLine
  | 1 => kit_own t.i_NoLine t.t_NoLine t.s_NoDeed_NoLine t.se_NoLine
  | 2 => kit_own t.i_NoLine t.t_NoLine t.s_NoLine_NoLine t.se_NoLine
  | 3 => kit_own t.i_NoLine t.t_NoLine t.s_NoMachine_NoLine t.se_NoLine
  | 4 => kit_own t.i_NoLine t.t_NoLine t.s_NoName_NoLine t.se_NoLine
  | 5 => kit_own t.i_NoLine t.t_NoLine t.s_NoPaper_NoLine t.se_NoLine
  | 6 => kit_own t.i_NoLine t.t_NoLine t.s_NoSize_NoLine t.se_NoLine
  | 7 => kit_own t.i_NoLine t.t_NoLine t.s_NoSuch_NoLine t.se_NoLine
  | 8 => kit_own t.i_NoLine t.t_NoLine t.s_NoText_NoLine t.se_NoLine
  | 9 => kit_own t.i_NoLine t.t_NoLine t.s_NoWidth_NoLine t.se_NoLine
  | 10 => kit_own t.i_NoLine t.t_NoLine t.s_Twice_NoLine t.se_NoLine
  | k + 11 => by
    rw [decide_eq_false (show ¬ 2 = k + 11 by omega)]
    exact kit_own t.i_NoLine t.t_NoLine t.s_MillError_NoLine t.se_NoLine
theorem ki_NoMachine {K : PySem.W.Frag} {mg : Str → Option Value} (t : Tx K mg) : ∀ k, PySem.W.kitOne K (.ref (cls t k)) (.ref t.C_NoMachine) = some (decide (3 = k))
  | 0 => kit_own t.i_NoMachine t.t_NoMachine t.s_Full_NoMachine t.se_NoMachine
  | 1 => kit_own t.i_NoMachine t.t_NoMachine t.s_NoDeed_NoMachine t.se_NoMachine
  | 2 => kit_own t.i_NoMachine t.t_NoMachine t.s_NoLine_NoMachine t.se_NoMachine
  | 3 => kit_own t.i_NoMachine t.t_NoMachine t.s_NoMachine_NoMachine t.se_NoMachine
  | 4 => kit_own t.i_NoMachine t.t_NoMachine t.s_NoName_NoMachine t.se_NoMachine
  | 5 => kit_own t.i_NoMachine t.t_NoMachine t.s_NoPaper_NoMachine t.se_NoMachine
  | 6 => kit_own t.i_NoMachine t.t_NoMachine t.s_NoSize_NoMachine t.se_NoMachine
  | 7 => kit_own t.i_NoMachine t.t_NoMachine t.s_NoSuch_NoMachine t.se_NoMachine
  | 8 => kit_own t.i_NoMachine t.t_NoMachine t.s_NoText_NoMachine t.se_NoMachine
  | 9 => kit_own t.i_NoMachine t.t_NoMachine t.s_NoWidth_NoMachine t.se_NoMachine
  | 10 => kit_own t.i_NoMachine t.t_NoMachine t.s_Twice_NoMachine t.se_NoMachine
  | k + 11 => by
    rw [decide_eq_false (show ¬ 3 = k + 11 by omega)]
    exact kit_own t.i_NoMachine t.t_NoMachine t.s_MillError_NoMachine t.se_NoMachine
theorem ki_NoName {K : PySem.W.Frag} {mg : Str → Option Value} (t : Tx K mg) : ∀ k, PySem.W.kitOne K (.ref (cls t k)) (.ref t.C_NoName) = some (decide (4 = k))
  | 0 => kit_own t.i_NoName t.t_NoName t.s_Full_NoName t.se_NoName
  | 1 => kit_own t.i_NoName t.t_NoName t.s_NoDeed_NoName t.se_NoName
  | 2 => kit_own t.i_NoName t.t_NoName t.s_NoLine_NoName t.se_NoName
  | 3 => kit_own t.i_NoName t.t_NoName t.s_NoMachine_NoName t.se_NoName
  | 4 => kit_own t.i_NoName t.t_NoName t.s_NoName_NoName t.se_NoName
  | 5 => kit_own t.i_NoName t.t_NoName t.s_NoPaper_NoName t.se_NoName
  | 6 => kit_own t.i_NoName t.t_NoName t.s_NoSize_NoName t.se_NoName
  | 7 => kit_own t.i_NoName t.t_NoName t.s_NoSuch_NoName t.se_NoName
  | 8 => kit_own t.i_NoName t.t_NoName t.s_NoText_NoName t.se_NoName
  | 9 => kit_own t.i_NoName t.t_NoName t.s_NoWidth_NoName t.se_NoName
  | 10 => kit_own t.i_NoName t.t_NoName t.s_Twice_NoName t.se_NoName
  | k + 11 => by
    rw [decide_eq_false (show ¬ 4 = k + 11 by omega)]
    exact kit_own t.i_NoName t.t_NoName t.s_MillError_NoName t.se_NoName
theorem ki_NoPaper {K : PySem.W.Frag} {mg : Str → Option Value} (t : Tx K mg) : ∀ k, PySem.W.kitOne K (.ref (cls t k)) (.ref t.C_NoPaper) = some (decide (5 = k))
  | 0 => kit_own t.i_NoPaper t.t_NoPaper t.s_Full_NoPaper t.se_NoPaper
  | 1 => kit_own t.i_NoPaper t.t_NoPaper t.s_NoDeed_NoPaper t.se_NoPaper
  | 2 => kit_own t.i_NoPaper t.t_NoPaper t.s_NoLine_NoPaper t.se_NoPaper
  | 3 => kit_own t.i_NoPaper t.t_NoPaper t.s_NoMachine_NoPaper t.se_NoPaper
  | 4 => kit_own t.i_NoPaper t.t_NoPaper t.s_NoName_NoPaper t.se_NoPaper
  | 5 => kit_own t.i_NoPaper t.t_NoPaper t.s_NoPaper_NoPaper t.se_NoPaper
  | 6 => kit_own t.i_NoPaper t.t_NoPaper t.s_NoSize_NoPaper t.se_NoPaper
  | 7 => kit_own t.i_NoPaper t.t_NoPaper t.s_NoSuch_NoPaper t.se_NoPaper
  | 8 => kit_own t.i_NoPaper t.t_NoPaper t.s_NoText_NoPaper t.se_NoPaper
  | 9 => kit_own t.i_NoPaper t.t_NoPaper t.s_NoWidth_NoPaper t.se_NoPaper
  | 10 => kit_own t.i_NoPaper t.t_NoPaper t.s_Twice_NoPaper t.se_NoPaper
  | k + 11 => by
    rw [decide_eq_false (show ¬ 5 = k + 11 by omega)]
    exact kit_own t.i_NoPaper t.t_NoPaper t.s_MillError_NoPaper t.se_NoPaper
theorem ki_NoSize {K : PySem.W.Frag} {mg : Str → Option Value} (t : Tx K mg) : ∀ k, PySem.W.kitOne K (.ref (cls t k)) (.ref t.C_NoSize) = some (decide (6 = k))
  | 0 => kit_own t.i_NoSize t.t_NoSize t.s_Full_NoSize t.se_NoSize
  | 1 => kit_own t.i_NoSize t.t_NoSize t.s_NoDeed_NoSize t.se_NoSize
  | 2 => kit_own t.i_NoSize t.t_NoSize t.s_NoLine_NoSize t.se_NoSize
  | 3 => kit_own t.i_NoSize t.t_NoSize t.s_NoMachine_NoSize t.se_NoSize
  | 4 => kit_own t.i_NoSize t.t_NoSize t.s_NoName_NoSize t.se_NoSize
  | 5 => kit_own t.i_NoSize t.t_NoSize t.s_NoPaper_NoSize t.se_NoSize
  | 6 => kit_own t.i_NoSize t.t_NoSize t.s_NoSize_NoSize t.se_NoSize
  | 7 => kit_own t.i_NoSize t.t_NoSize t.s_NoSuch_NoSize t.se_NoSize
  | 8 => kit_own t.i_NoSize t.t_NoSize t.s_NoText_NoSize t.se_NoSize
  | 9 => kit_own t.i_NoSize t.t_NoSize t.s_NoWidth_NoSize t.se_NoSize
  | 10 => kit_own t.i_NoSize t.t_NoSize t.s_Twice_NoSize t.se_NoSize
  | k + 11 => by
    rw [decide_eq_false (show ¬ 6 = k + 11 by omega)]
    exact kit_own t.i_NoSize t.t_NoSize t.s_MillError_NoSize t.se_NoSize
theorem ki_NoSuch {K : PySem.W.Frag} {mg : Str → Option Value} (t : Tx K mg) : ∀ k, PySem.W.kitOne K (.ref (cls t k)) (.ref t.C_NoSuch) = some (decide (7 = k))
  | 0 => kit_own t.i_NoSuch t.t_NoSuch t.s_Full_NoSuch t.se_NoSuch
  | 1 => kit_own t.i_NoSuch t.t_NoSuch t.s_NoDeed_NoSuch t.se_NoSuch
  | 2 => kit_own t.i_NoSuch t.t_NoSuch t.s_NoLine_NoSuch t.se_NoSuch
  | 3 => kit_own t.i_NoSuch t.t_NoSuch t.s_NoMachine_NoSuch t.se_NoSuch
  | 4 => kit_own t.i_NoSuch t.t_NoSuch t.s_NoName_NoSuch t.se_NoSuch
  | 5 => kit_own t.i_NoSuch t.t_NoSuch t.s_NoPaper_NoSuch t.se_NoSuch
  | 6 => kit_own t.i_NoSuch t.t_NoSuch t.s_NoSize_NoSuch t.se_NoSuch
  | 7 => kit_own t.i_NoSuch t.t_NoSuch t.s_NoSuch_NoSuch t.se_NoSuch
  | 8 => kit_own t.i_NoSuch t.t_NoSuch t.s_NoText_NoSuch t.se_NoSuch
  | 9 => kit_own t.i_NoSuch t.t_NoSuch t.s_NoWidth_NoSuch t.se_NoSuch
  | 10 => kit_own t.i_NoSuch t.t_NoSuch t.s_Twice_NoSuch t.se_NoSuch
  | k + 11 => by
    rw [decide_eq_false (show ¬ 7 = k + 11 by omega)]
    exact kit_own t.i_NoSuch t.t_NoSuch t.s_MillError_NoSuch t.se_NoSuch
theorem ki_NoText {K : PySem.W.Frag} {mg : Str → Option Value} (t : Tx K mg) : ∀ k, PySem.W.kitOne K (.ref (cls t k)) (.ref t.C_NoText) = some (decide (8 = k))
  | 0 => kit_own t.i_NoText t.t_NoText t.s_Full_NoText t.se_NoText
  | 1 => kit_own t.i_NoText t.t_NoText t.s_NoDeed_NoText t.se_NoText
  | 2 => kit_own t.i_NoText t.t_NoText t.s_NoLine_NoText t.se_NoText
  | 3 => kit_own t.i_NoText t.t_NoText t.s_NoMachine_NoText t.se_NoText
  | 4 => kit_own t.i_NoText t.t_NoText t.s_NoName_NoText t.se_NoText
  | 5 => kit_own t.i_NoText t.t_NoText t.s_NoPaper_NoText t.se_NoText
  | 6 => kit_own t.i_NoText t.t_NoText t.s_NoSize_NoText t.se_NoText
  | 7 => kit_own t.i_NoText t.t_NoText t.s_NoSuch_NoText t.se_NoText
  | 8 => kit_own t.i_NoText t.t_NoText t.s_NoText_NoText t.se_NoText
  | 9 => kit_own t.i_NoText t.t_NoText t.s_NoWidth_NoText t.se_NoText
  | 10 => kit_own t.i_NoText t.t_NoText t.s_Twice_NoText t.se_NoText
  | k + 11 => by
    rw [decide_eq_false (show ¬ 8 = k + 11 by omega)]
    exact kit_own t.i_NoText t.t_NoText t.s_MillError_NoText t.se_NoText
theorem ki_NoWidth {K : PySem.W.Frag} {mg : Str → Option Value} (t : Tx K mg) : ∀ k, PySem.W.kitOne K (.ref (cls t k)) (.ref t.C_NoWidth) = some (decide (9 = k))
  | 0 => kit_own t.i_NoWidth t.t_NoWidth t.s_Full_NoWidth t.se_NoWidth
  | 1 => kit_own t.i_NoWidth t.t_NoWidth t.s_NoDeed_NoWidth t.se_NoWidth
  | 2 => kit_own t.i_NoWidth t.t_NoWidth t.s_NoLine_NoWidth t.se_NoWidth
  | 3 => kit_own t.i_NoWidth t.t_NoWidth t.s_NoMachine_NoWidth t.se_NoWidth
  | 4 => kit_own t.i_NoWidth t.t_NoWidth t.s_NoName_NoWidth t.se_NoWidth
  | 5 => kit_own t.i_NoWidth t.t_NoWidth t.s_NoPaper_NoWidth t.se_NoWidth
  | 6 => kit_own t.i_NoWidth t.t_NoWidth t.s_NoSize_NoWidth t.se_NoWidth
  | 7 => kit_own t.i_NoWidth t.t_NoWidth t.s_NoSuch_NoWidth t.se_NoWidth
  | 8 => kit_own t.i_NoWidth t.t_NoWidth t.s_NoText_NoWidth t.se_NoWidth
  | 9 => kit_own t.i_NoWidth t.t_NoWidth t.s_NoWidth_NoWidth t.se_NoWidth
  | 10 => kit_own t.i_NoWidth t.t_NoWidth t.s_Twice_NoWidth t.se_NoWidth
  | k + 11 => by
    rw [decide_eq_false (show ¬ 9 = k + 11 by omega)]
    exact kit_own t.i_NoWidth t.t_NoWidth t.s_MillError_NoWidth t.se_NoWidth
theorem ki_Twice {K : PySem.W.Frag} {mg : Str → Option Value} (t : Tx K mg) : ∀ k, PySem.W.kitOne K (.ref (cls t k)) (.ref t.C_Twice) = some (decide (10 = k))
  | 0 => kit_own t.i_Twice t.t_Twice t.s_Full_Twice t.se_Twice
  | 1 => kit_own t.i_Twice t.t_Twice t.s_NoDeed_Twice t.se_Twice
  | 2 => kit_own t.i_Twice t.t_Twice t.s_NoLine_Twice t.se_Twice
  | 3 => kit_own t.i_Twice t.t_Twice t.s_NoMachine_Twice t.se_Twice
  | 4 => kit_own t.i_Twice t.t_Twice t.s_NoName_Twice t.se_Twice
  | 5 => kit_own t.i_Twice t.t_Twice t.s_NoPaper_Twice t.se_Twice
  | 6 => kit_own t.i_Twice t.t_Twice t.s_NoSize_Twice t.se_Twice
  | 7 => kit_own t.i_Twice t.t_Twice t.s_NoSuch_Twice t.se_Twice
  | 8 => kit_own t.i_Twice t.t_Twice t.s_NoText_Twice t.se_Twice
  | 9 => kit_own t.i_Twice t.t_Twice t.s_NoWidth_Twice t.se_Twice
  | 10 => kit_own t.i_Twice t.t_Twice t.s_Twice_Twice t.se_Twice
  | k + 11 => by
    rw [decide_eq_false (show ¬ 10 = k + 11 by omega)]
    exact kit_own t.i_Twice t.t_Twice t.s_MillError_Twice t.se_Twice
theorem ki_MillError {K : PySem.W.Frag} {mg : Str → Option Value} (t : Tx K mg) : ∀ k, PySem.W.kitOne K (.ref (cls t k)) (.ref t.C_MillError) = some true
  | 0 => kit_own t.i_MillError t.t_MillError t.s_Full_MillError t.se_MillError
  | 1 => kit_own t.i_MillError t.t_MillError t.s_NoDeed_MillError t.se_MillError
  | 2 => kit_own t.i_MillError t.t_MillError t.s_NoLine_MillError t.se_MillError
  | 3 => kit_own t.i_MillError t.t_MillError t.s_NoMachine_MillError t.se_MillError
  | 4 => kit_own t.i_MillError t.t_MillError t.s_NoName_MillError t.se_MillError
  | 5 => kit_own t.i_MillError t.t_MillError t.s_NoPaper_MillError t.se_MillError
  | 6 => kit_own t.i_MillError t.t_MillError t.s_NoSize_MillError t.se_MillError
  | 7 => kit_own t.i_MillError t.t_MillError t.s_NoSuch_MillError t.se_MillError
  | 8 => kit_own t.i_MillError t.t_MillError t.s_NoText_MillError t.se_MillError
  | 9 => kit_own t.i_MillError t.t_MillError t.s_NoWidth_MillError t.se_MillError
  | 10 => kit_own t.i_MillError t.t_MillError t.s_Twice_MillError t.se_MillError
  | _ + 11 => kit_own t.i_MillError t.t_MillError t.s_MillError_MillError t.se_MillError
theorem ki_ValueError {K : PySem.W.Frag} {mg : Str → Option Value} (t : Tx K mg) : ∀ k, PySem.W.kitOne K (.ref (cls t k)) (.type "ValueError") = some true
  | 0 => kit_blt t.s_Full_ValueError
  | 1 => kit_blt t.s_NoDeed_ValueError
  | 2 => kit_blt t.s_NoLine_ValueError
  | 3 => kit_blt t.s_NoMachine_ValueError
  | 4 => kit_blt t.s_NoName_ValueError
  | 5 => kit_blt t.s_NoPaper_ValueError
  | 6 => kit_blt t.s_NoSize_ValueError
  | 7 => kit_blt t.s_NoSuch_ValueError
  | 8 => kit_blt t.s_NoText_ValueError
  | 9 => kit_blt t.s_NoWidth_ValueError
  | 10 => kit_blt t.s_Twice_ValueError
  | _ + 11 => kit_blt t.s_MillError_ValueError
section
variable {P : Program} {w : World} {K : PySem.W.Frag} {mg : Str → Option Value} {base : Heap}
/-! ### draws -/
def sp_L_mixed : Sp := fun vs H Q _ => ∃ c k : Int, vs = [.int c, .int k] ∧ 0 ≤ k ∧ k < 1000 ∧ ∀ n : Int, 0 ≤ n → n < 2147483587 → Q (.int n) H
theorem ok_L_mixed (t : Tx K mg) : FnOk P w K mg base CX0 1 t.a_L_mixed t.fd_L_mixed ["_law_cell", "_law_k"] sp_L_mixed := by
  refine t.F_L_mixed.ok sc_L_mixed (fun vs H Q E h => ?_) (fun cdv A outer s H vs Q E hr h => ?_)
  · obtain ⟨c, k, rfl, _⟩ := h
    rfl
  · obtain ⟨c, k, rfl, k0, k1, q⟩ := h
    refine ⟨_, (pss_cons (ps_set (i := 2) sc_L_mixed.nd rfl (by first | exact Or.inl rfl | exact Or.inr rfl) (pe_op op_mod (pv 0) (pe_op op_pow pe_int pe_int)))
      (pss_cons (ps_set (i := 3) sc_L_mixed.nd rfl (by first | exact Or.inl rfl | exact Or.inr rfl) (pe_op op_mod (pe_op op_mul (pe_op op_add (pe_op op_add (pe_op op_add (pe_op op_mul (pv 2) (pv 2)) (pe_op op_mul pe_int (pv 2))) (pe_op op_mul pe_int (pv 1))) pe_int) pe_int) pe_int))
      (pss_one (ps_ret (pe_op op_mod (pe_op op_add (pe_op op_mul (pv 3) (pv 3)) pe_int) pe_int))))), ?_⟩
    have e15 : (10 : Int) ^ (15 : Int).toNat = 1000000000000000 := by decide
    refine ⟨_, rfl, _, _, rfl, rfl, ⟨by decide, by decide, by decide⟩, _, _, rfl, rfl, (by show (0 : Int) < 10 ^ (15 : Int).toNat; decide), ?_⟩
    rw [e15]
    have h0 : (0 : Int) ≤ c % 1000000000000000 := Int.emod_nonneg _ (by decide)
    have h1 : c % 1000000000000000 < 1000000000000000 := Int.emod_lt_of_pos _ (by decide)
    generalize c % 1000000000000000 = r at h0 h1
    refine ⟨_, rfl, _, rfl, _, _, rfl, rfl, .inl ⟨by omega, by omega⟩, _, rfl, _, _, rfl, rfl, .inl ⟨by decide, by decide⟩, _, _, rfl, rfl, _, rfl, _, _, rfl, rfl, .inl ⟨by decide, by decide⟩, _, _, rfl, rfl, _, _, rfl, rfl,
      _, _, rfl, rfl, .inr ⟨by decide, by decide⟩, _, _, rfl, rfl, (by show (0 : Int) < 2147483629; decide), ?_⟩
    have g0 := Int.emod_nonneg ((r * r + 3 * r + 7919 * k + 1) * 48271) (show (2147483629 : Int) ≠ 0 by decide)
    have g1 := Int.emod_lt_of_pos ((r * r + 3 * r + 7919 * k + 1) * 48271) (show (0 : Int) < 2147483629 by decide)
    generalize (r * r + 3 * r + 7919 * k + 1) * 48271 % 2147483629 = n at g0 g1
    refine ⟨_, rfl, _, rfl, _, _, rfl, rfl, .inl ⟨by omega, by omega⟩, _, _, rfl, rfl, _, _, rfl, rfl, (by show (0 : Int) < 2147483587; decide), ?_⟩
    exact q _ (Int.emod_nonneg _ (by decide)) (Int.emod_lt_of_pos _ (by decide))
/-- the purse: two numbers that aren't below 0 -/
def PurseO (a b : Int) : HO := .lst [.int a, .int b]
def sp_L_purse (K : PySem.W.Frag) : Sp := fun vs H Q _ => ∃ (l : Addr) (ns : List Int), vs = [.ref l] ∧ SqL K H l (ns.map V.int) ∧ ns.length ≤ 63 ∧
  ∀ (a b : Int) (p : Addr) (H' : Hp), 0 ≤ a → 0 ≤ b → Same H H' → H p = none → H' p = some (PurseO a b) → Q (.ref p) H'
theorem ok_L_purse (t : Tx K mg) : FnOk P w K mg base CX0 2 t.a_L_purse t.fd_L_purse ["_law_script"] (sp_L_purse K) := by
  refine t.F_L_purse.ok sc_L_purse (fun vs H Q E h => ?_) (fun cdv A outer s H vs Q E hr h => ?_)
  · obtain ⟨l, ns, rfl, _⟩ := h
    rfl
  · obtain ⟨l, ns, rfl, hS, hn, q⟩ := h
    refine ⟨_, (pss_cons (ps_set (i := 1) sc_L_purse.nd rfl (by first | exact Or.inl rfl | exact Or.inr rfl) (pe_op op_cat (pe_slice sl_list (pv 0) po_none (po_some pe_int)) (pe_lst (pa_cons pe_int pa_nil))))
      (pss_cons (ps_set (i := 2) sc_L_purse.nd rfl (by first | exact Or.inl rfl | exact Or.inr rfl) pe_int)
      (pss_cons (ps_for PassesOwn.never rfl (pi_range1 (by rfl) t.n_range (pa_cons pe_int pa_nil)) (pg_name (i := 3) sc_L_purse.nd rfl (by first | exact Or.inl rfl | exact Or.inr rfl)) (pss_one (ps_set (i := 2) sc_L_purse.nd rfl (by first | exact Or.inl rfl | exact Or.inr rfl) (pe_op op_add (pe_op op_mul (pv 2) pe_int) (pe_call (ok_L_mixed t) (hr.mono (by decide)) (by rfl) t.m_L_mixed t.F_L_mixed.kp t.b_L_mixed .nil pass0 (pa_cons (pe_ix ix_list (pv 1) (pe_op op_mod (pv 3) (pe_callB (id := "len") call_lenQ (by rfl) t.n_len (by decide +kernel) (pa_cons (pv 1) pa_nil))) (fun _ _ => rfl)) (pa_cons (pv 3) pa_nil)))))))
      (pss_cons (ps_if (pt_cmpR op_ge (pe_callB (id := "abs") call_abs (by rfl) t.n_abs (by decide +kernel) (pa_cons (pe_ix ix_list (pv 1) pe_int (fun _ _ => rfl)) pa_nil)) (pe_op op_pow pe_int pe_int) (nomark _)) (pss_one (ps_ret (pe_lst (pa_cons (pe_callB (id := "abs") call_abs (by rfl) t.n_abs (by decide +kernel) (pa_cons (pe_ix ix_list (pv 1) pe_int (fun _ _ => rfl)) pa_nil)) (pa_cons (pv 2) pa_nil))))) pss_nil)
      (pss_one (ps_ret (pe_lst (pa_cons (pv 2) (pa_cons (pv 2) pa_nil))))))))), ?_⟩
    refine ⟨_, rfl, _, rfl, l, _, rfl, hS, fun p np => ?_⟩
    rw [cut_63 hn]
    have e0 : ([V.int 0] : List V) = [(0 : Int)].map V.int := rfl
    refine ⟨by show 1 ≤ sizeLine; decide, fun p2 np2 => ⟨p, p2, _, _, rfl, rfl, (by rw [upd_ne (ne_of_none upd_same np2)]; exact upd_same), upd_same, (by show _ + 1 ≤ _; rw [List.length_map]; exact Nat.le_trans (Nat.add_le_add_right hn 1) (by decide)), fun p3 np3 => ?_⟩⟩
    rw [e0, ← List.map_append]
    have s3 : Same H (upd (upd (upd H p (.lst (ns.map V.int))) p2 (.lst ([(0 : Int)].map V.int))) p3 (.lst ((ns ++ [0]).map V.int))) := sm_new (sm_new (sm_new (Same.refl H) np) np2) np3
    have hl : 0 < (ns ++ [0]).length := by simp
    generalize ec : ns ++ [0] = cs at s3 hl
    have h3 : (upd (upd (upd H p (.lst (ns.map V.int))) p2 (.lst ([(0 : Int)].map V.int))) p3 (.lst (cs.map V.int))) p3 = some (.lst (cs.map V.int)) := upd_same
    generalize upd (upd (upd H p (.lst (ns.map V.int))) p2 (.lst ([(0 : Int)].map V.int))) p3 (.lst (cs.map V.int)) = H3 at s3 h3
    refine ⟨64, rfl, by decide, by decide, for_range (lo := 0) (n := 64) (fun i σ H2 => ∃ (n : Int) (v : Option V), σ = [some (.ref l), some (.ref p3), some (.int n), v] ∧ H2 = H3 ∧ 0 ≤ n) ⟨1, none, rfl, rfl, by decide⟩ ?_ ?_⟩
    · rintro i σ H2 hi ⟨n, v, rfl, rfl, hn0⟩
      refine ⟨_, rfl, _, _, rfl, rfl, .inr ⟨by decide, by decide⟩, ?_⟩
      have hm := Int.emod_nonneg (0 + (i : Int)) (show ((cs.map V.int).length : Int) ≠ 0 by rw [List.length_map]; omega)
      have hm1 := Int.emod_lt_of_pos (0 + (i : Int)) (show (0 : Int) < ((cs.map V.int).length : Int) by rw [List.length_map]; omega)
      have hj : (((0 + (i : Int)) % ((cs.map V.int).length : Int)).toNat : Int) = (0 + (i : Int)) % ((cs.map V.int).length : Int) := Int.toNat_of_nonneg hm
      have hj1 : ((0 + (i : Int)) % ((cs.map V.int).length : Int)).toNat < cs.length := by rw [List.length_map] at hm1 ⊢; omega
      refine ⟨_, rfl, _, rfl, _, rfl, p3, _, rfl, .inl (SqL.of h3), _, _, rfl, rfl, (by rw [List.length_map]; omega), p3, _, _, _, rfl, rfl, SqL.of h3, at_of hj.symm (by rw [List.getElem?_map, List.getElem?_eq_getElem hj1]; rfl), ?_⟩
      refine ⟨_, rfl, _, _, rfl, by omega, by omega, fun m m0 m1 => ⟨_, _, rfl, rfl, ?_⟩⟩
      exact ⟨_, _, rfl, rfl, by omega⟩
    · rintro σ H2 ⟨n, v, rfl, rfl, hn0⟩
      have h0 : (cs.map V.int)[0]? = some (.int (cs[0])) := by rw [List.getElem?_map, List.getElem?_eq_getElem hl]; rfl
      refine ⟨_, rfl, p3, _, _, _, rfl, rfl, SqL.of h3, atI_nat (j := 0) h0, _, rfl, _, _, rfl, rfl, ⟨by decide, by decide, by decide⟩, _, _, rfl, rfl, _, rfl, ?_⟩
      refine ite2 (fun c => ?_) (fun c => ?_)
      · refine ⟨_, rfl, p3, _, _, _, rfl, rfl, SqL.of h3, atI_nat (j := 0) h0, _, rfl, _, rfl, by show 2 ≤ sizeLine; decide, fun q0 nq => ?_⟩
        exact q _ _ q0 _ (by split <;> omega) hn0 (sm_new s3 nq) (s3.free nq) upd_same
      · refine ⟨_, rfl, _, rfl, by show 2 ≤ sizeLine; decide, fun q0 nq => ?_⟩
        exact q _ _ q0 _ hn0 hn0 (sm_new s3 nq) (s3.free nq) upd_same
def sp_L_draw : Sp := fun vs H Q _ => ∃ (p : Addr) (a b n : Int), vs = [.ref p, .int n] ∧ H p = some (PurseO a b) ∧ 0 ≤ a ∧ 0 ≤ b ∧ 0 < n ∧ n < 1267650600228229401496703205376 ∧
  ∀ d a' b' : Int, 0 ≤ d → d < n → 0 ≤ a' → 0 ≤ b' → Q (.int d) (upd H p (PurseO a' b'))
theorem ok_L_draw (t : Tx K mg) : FnOk P w K mg base CX0 1 t.a_L_draw t.fd_L_draw ["_law_purse_here", "_law_out_of"] sp_L_draw := by
  refine t.F_L_draw.ok sc_L_draw (fun vs H Q E h => ?_) (fun cdv A outer s H vs Q E hr h => ?_)
  · obtain ⟨p, a, b, n, rfl, _⟩ := h
    rfl
  · obtain ⟨p, a, b, n, rfl, hp, ha, hb, n0, n1, q⟩ := h
    refine ⟨_, (pss_cons (ps_if (pt_cmpR op_eq (pe_ix ix_list (pv 0) pe_int (fun _ _ => rfl)) pe_int (nomark _)) (pss_one (ps_asg (pe_ix ix_list (pv 0) pe_int (fun _ _ => rfl)) (pg_sub (pv 0) pe_int set_list))) pss_nil)
      (pss_cons (ps_set (i := 2) sc_L_draw.nd rfl (by first | exact Or.inl rfl | exact Or.inr rfl) (pe_op op_mod (pe_ix ix_list (pv 0) pe_int (fun _ _ => rfl)) (pv 1)))
      (pss_cons (ps_asg (pe_op op_fdivW (pe_ix ix_list (pv 0) pe_int (fun _ _ => rfl)) (pv 1)) (pg_sub (pv 0) pe_int set_list))
      (pss_one (ps_ret (pv 2)))))), ?_⟩
    refine ⟨_, rfl, p, _, _, _, rfl, rfl, SqL.of hp, atI_nat (j := 0) rfl, rfl, _, rfl, ?_⟩
    refine ite2 (fun c => ?_) (fun c => ?_)
    · refine ⟨_, rfl, p, _, _, _, rfl, rfl, SqL.of hp, atI_nat (j := 1) rfl, _, rfl, p, _, _, 0, rfl, rfl, hp, rfl, ?_⟩
      refine ⟨_, rfl, p, _, _, _, rfl, rfl, SqL.of upd_same, atI_nat (j := 0) rfl, _, rfl, _, _, rfl, rfl, n0, ?_⟩
      refine ⟨_, rfl, p, _, _, _, rfl, rfl, SqL.of upd_same, atI_nat (j := 0) rfl, _, rfl, _, _, rfl, rfl, wide_div n0 (b := 100) (by have e : (2 : Nat) ^ 100 = 1267650600228229401496703205376 := rfl; rw [e]; omega) (by decide) (by decide), _, rfl, p, _, _, 0, rfl, rfl, upd_same, rfl, _, rfl, ?_⟩
      rw [upd_upd]
      exact q _ _ _ (Int.emod_nonneg _ (by omega)) (Int.emod_lt_of_pos _ n0) (Int.ediv_nonneg hb (by omega)) hb
    · refine ⟨_, rfl, p, _, _, _, rfl, rfl, SqL.of hp, atI_nat (j := 0) rfl, _, rfl, _, _, rfl, rfl, n0, ?_⟩
      refine ⟨_, rfl, p, _, _, _, rfl, rfl, SqL.of hp, atI_nat (j := 0) rfl, _, rfl, _, _, rfl, rfl, wide_div n0 (b := 100) (by have e : (2 : Nat) ^ 100 = 1267650600228229401496703205376 := rfl; rw [e]; omega) (by decide) (by decide), _, rfl, p, _, _, 0, rfl, rfl, hp, rfl, _, rfl, ?_⟩
      exact q _ _ _ (Int.emod_nonneg _ (by omega)) (Int.emod_lt_of_pos _ n0) (Int.ediv_nonneg ha (by omega)) hb
/-! ### what is a machine, of lists of lists of tuples of whole numbers -/
abbrev GE := Tup Int
abbrev GM := List (List GE)
def isE (R S : Nat) : List Int → Bool
  | [] => true
  | [p, w, r] => decide (0 ≤ p) && decide (p < (S : Int)) && (decide (w = -1) || decide (w = 1)) && decide (0 ≤ r) && decide (r < (R : Int))
  | _ => false
def isM (M : GM) : Bool := decide (1 ≤ M.length) && decide (M.length ≤ 4) && decide (2 ≤ (M.headD []).length) && decide ((M.headD []).length ≤ 4) && M.all (fun r => decide (r.length = (M.headD []).length)) && M.all (fun r => r.all fun e => isE M.length (M.headD []).length e.l)
theorem ints_of {F : Hp} {xs : List V} : ∀ {l : List Int}, IsAll F xs l → xs = l.map V.int := fun {l} h => by
  refine List.ext_getElem? fun i => ?_
  rw [List.getElem?_map]
  cases e : xs[i]? with
  | none =>
    have := List.getElem?_eq_none_iff.mp e
    rw [List.getElem?_eq_none (by rw [← h.1]; exact this)]; rfl
  | some x =>
    obtain ⟨z, hz, ez⟩ := h.get' e
    rw [hz]
    show some x = some (V.int z)
    rw [show x = V.int z from ez]
theorem all_intsT {F : Hp} (l : List Int) : IsAll F (l.map V.int) l := ⟨by rw [List.length_map], fun i x y h1 h2 => by
  rw [List.getElem?_map, h2] at h1
  exact (Option.some.inj h1).symm⟩
theorem inW (w : Int) : inV (V.int w) [V.int (-1), V.int 1] = (decide (w = -1) || decide (w = 1)) := by
  have h : ∀ a b : Int, (a == b) = decide (b = a) := fun a b => by rw [Bool.eq_iff_iff, beq_iff_eq, decide_eq_true_iff, eq_comm]
  simp [inV, eqV, h]
def sp_is_entry : Sp := fun vs H Q _ => ∃ (F : Hp) (v : V) (e : GE) (R S : Nat), vs = [v, .int R, .int S] ∧ Same F H ∧ Is F v e ∧ ∀ H', Gr mu0 F H F H' → Q (.bl (isE R S e.l)) H'
theorem ok_is_entry (t : Tx K mg) : FnOk P w K mg base CX0 1 t.a_is_entry t.fd_is_entry ["entry", "rows", "signs"] sp_is_entry := by
  refine t.F_is_entry.ok sc_is_entry (fun vs H Q E h => ?_) (fun cdv A outer s H vs Q E hr h => ?_)
  · obtain ⟨F, v, e, R, S, rfl, _⟩ := h
    rfl
  · obtain ⟨F, v, e, R, S, rfl, sF, hv, q⟩ := h
    refine ⟨_, (pss_cons (ps_if (pt_cmpR (op_eqD hr.units) (pv 0) (pe_tup pa_nil) (nomark _)) (pss_one (ps_ret pe_bl)) pss_nil)
      (pss_one (ps_ret (pe_and (pe_cmpR op_eq (pe_callB (id := "len") call_lenQ (by rfl) t.n_len (by decide +kernel) (pa_cons (pv 0) pa_nil)) pe_int (nomark _)) (pe_and (pe_chain op_le op_lt pe_int (pe_ix ix_tup (pv 0) pe_int (fun _ _ => rfl)) (pv 2)) (pe_and (pe_cmpR op_in_seq (pe_ix ix_tup (pv 0) pe_int (fun _ _ => rfl)) (pe_lst (pa_cons (pe_un un_neg pe_int) (pa_cons pe_int pa_nil))) (by rfl)) (pe_one (pe_chain op_le op_lt pe_int (pe_ix ix_tup (pv 0) pe_int (fun _ _ => rfl)) (pv 1))))))))), ?_⟩
    have g0 : Gr mu0 F H F H := Gr.refl sF
    refine ⟨_, rfl, nil_le, fun p np => ?_⟩
    have g1 : Gr mu0 F H F (upd H p (.tup [])) := g0.own np
    refine eq_dat (a := e) (b := (⟨[]⟩ : GE)) (hv.up g1.fh) ⟨p, _, rfl, upd_same, All2.nil⟩ ?_
    refine ⟨_, rfl, ?_⟩
    obtain ⟨l⟩ := e
    obtain ⟨a, xs, rfl, ha, hx⟩ := hv
    have hx : IsAll F xs l := hx
    obtain rfl := ints_of hx
    generalize upd H p (.tup []) = H1 at g1 ⊢
    have h1 := SqT.of (K := K) (g1.fh _ _ ha)
    match l, h1, q with
    | [], _, q => exact ifT (decide_eq_true rfl) (q _ g1)
    | [p], h1, q =>
      refine ifF (decide_eq_false (fun z => by cases z)) ?_
      exact ⟨_, rfl, a, _, rfl, .inr h1, rfl, _, rfl, ifF rfl (q _ g1)⟩
    | [p, w], h1, q =>
      refine ifF (decide_eq_false (fun z => by cases z)) ?_
      exact ⟨_, rfl, a, _, rfl, .inr h1, rfl, _, rfl, ifF rfl (q _ g1)⟩
    | p :: w :: r :: u :: l, h1, q =>
      refine ifF (decide_eq_false (fun z => by cases z)) ?_
      refine ⟨_, rfl, a, _, rfl, .inr h1, rfl, _, rfl, ifF ?_ (q _ g1)⟩
      refine decide_eq_false fun z => ?_
      have := V.int.inj z
      simp only [List.length_map, List.length_cons] at this
      omega
    | [p, w, r], h1, q =>
      refine ifF (decide_eq_false (fun z => by cases z)) ?_
      refine ⟨_, rfl, a, _, rfl, .inr h1, rfl, _, rfl, ifT rfl ?_⟩
      have q : ∀ H', Gr mu0 F H F H' → Q (.bl (decide (0 ≤ p) && decide (p < (S : Int)) && (decide (w = -1) || decide (w = 1)) && decide (0 ≤ r) && decide (r < (R : Int)))) H' := q
      refine ⟨_, rfl, a, _, _, _, rfl, rfl, h1, atI_nat (j := 0) rfl, _, _, rfl, rfl, _, rfl, ?_⟩
      by_cases o1 : 0 ≤ p
      · refine ifT (decide_eq_true o1) ⟨_, rfl, _, _, rfl, rfl, _, rfl, ?_⟩
        by_cases o2 : p < (S : Int)
        · refine ifT (decide_eq_true o2) ?_
          refine ⟨_, rfl, a, _, _, _, rfl, rfl, h1, atI_nat (j := 1) rfl, _, rfl, two_le, fun l nl => ?_⟩
          have g2 := g1.own (o := .lst [.int (-1), .int 1]) nl
          have h2 := SqT.of (K := K) (g2.fh _ _ ha)
          refine ⟨l, _, rfl, .inl (SqL.of upd_same), rfl, rfl, _, rfl, ?_⟩
          generalize upd H1 l (.lst [.int (-1), .int 1]) = H2 at g2 h2 ⊢
          rw [inW]
          cases o3 : (decide (w = -1) || decide (w = 1)) with
          | false => exact ifF rfl (by have z := q _ g2; rw [o3, Bool.and_false, Bool.false_and, Bool.false_and] at z; exact z)
          | true =>
            refine ifT rfl ?_
            rw [decide_eq_true o1, decide_eq_true o2, o3] at q
            refine ⟨_, rfl, a, _, _, _, rfl, rfl, h2, atI_nat (j := 2) rfl, _, _, rfl, rfl, _, rfl, ?_⟩
            by_cases o4 : 0 ≤ r
            · refine ifT (decide_eq_true o4) ⟨_, rfl, _, _, rfl, rfl, ?_⟩
              have z := q _ g2
              rw [decide_eq_true o4] at z
              exact z
            · refine ifF (decide_eq_false o4) ?_
              have z := q _ g2
              rw [decide_eq_false o4] at z
              exact z
        · refine ifF (decide_eq_false o2) ?_
          have z := q _ g1
          rw [decide_eq_false o2, Bool.and_false] at z
          exact z
      · refine ifF (decide_eq_false o1) ⟨_, rfl, ifF rfl ?_⟩
        have z := q _ g1
        rw [decide_eq_false o1] at z
        exact z
theorem mt1 {α β : Type} {f : α → β} {l : List α} {i : Nat} {x : α} (h : l[i]? = some x) : (l.take (i + 1)).map f = (l.take i).map f ++ [f x] := by
  rw [List.take_add_one, h, List.map_append]; rfl
theorem mt2 {α : Type} {f : α → Bool} {l : List α} {i : Nat} {x : α} (h : l[i]? = some x) : ((l.take i).map f).map V.bl ++ [V.bl (f x)] = ((l.take (i + 1)).map f).map V.bl := by
  rw [mt1 h, List.map_append]; rfl
theorem all_id {α : Type} (f : α → Bool) (l : List α) : (l.map f).all id = l.all f := by rw [List.all_map]; rfl
def sp_is_machine : Sp := fun vs H Q _ => ∃ (F : Hp) (v : V) (M : GM), vs = [v] ∧ Same F H ∧ Is F v M ∧ ∀ H', Gr mu0 F H F H' → Q (.bl (isM M)) H'
theorem ok_is_machine (t : Tx K mg) : FnOk P w K mg base CX0 2 t.a_is_machine t.fd_is_machine ["machine"] sp_is_machine := by
  refine t.F_is_machine.ok sc_is_machine (fun vs H Q E h => ?_) (fun cdv A outer s H vs Q E hr h => ?_)
  · obtain ⟨F, v, M, rfl, _⟩ := h
    rfl
  · obtain ⟨F, v, M, rfl, sF, hv, q⟩ := h
    refine ⟨_, (pss_cons (ps_set (i := 1) sc_is_machine.nd rfl (by first | exact Or.inl rfl | exact Or.inr rfl) (pe_callB (id := "len") call_lenQ (by rfl) t.n_len (by decide +kernel) (pa_cons (pv 0) pa_nil)))
      (pss_cons (ps_if (pt_not (pt_chain op_le op_le pe_int (pv 1) (pe_glob (v := .int 4) (by rfl) t.m_MOST_ROWS ⟨_, rfl⟩))) (pss_one (ps_ret pe_bl)) pss_nil)
      (pss_cons (ps_set (i := 2) sc_is_machine.nd rfl (by first | exact Or.inl rfl | exact Or.inr rfl) (pe_callB (id := "len") call_lenQ (by rfl) t.n_len (by decide +kernel) (pa_cons (pe_ix ix_list (pv 0) pe_int (fun _ _ => rfl)) pa_nil)))
      (pss_cons (ps_if (PW.pt (pw_or (pt_not (pt_chain op_le op_le pe_int (pv 2) (pe_glob (v := .int 4) (by rfl) t.m_MOST_SIGNS ⟨_, rfl⟩))) (pw_or1 (pt_not (pt_val (pe_callB (id := "all") (cr_all rfl) (by rfl) t.n_all (by decide +kernel) (pa_cons (pe_lc (own := [("row", 3)]) (g := gName 3) (tt := tYes) rfl sc_is_machine.nd (pi_list (pv 0)) (blkOk_by (N := N_is_machine) (sc := defScope s_is_machine) (by decide +kernel)) (fun _ _ _ _ _ => (pg_name (i := 3) sc_is_machine.nd rfl (by first | exact Or.inl rfl | exact Or.inr rfl))) (fun _ _ _ _ _ => pts_nil) (fun _ _ _ _ _ => (pe_cmpR op_eq (pe_callB (id := "len") (crK (K := K) (r := rLenQ) rfl call_lenQ) (by rfl) t.n_len (by decide +kernel) (pa_cons (pv 3) pa_nil)) (pv 2) (nomark _)))) pa_nil))))))) (pss_one (ps_ret pe_bl)) pss_nil)
      (pss_one (ps_ret (pe_callB (id := "all") (cr_all rfl) (by rfl) t.n_all (by decide +kernel) (pa_cons (pe_lc (own := [("row", 3)]) (g := gName 3) (tt := tYes) rfl sc_is_machine.nd (pi_list (pv 0)) (blkOk_by (N := N_is_machine) (sc := defScope s_is_machine) (by decide +kernel)) (fun _ _ _ _ _ => (pg_name (i := 3) sc_is_machine.nd rfl (by first | exact Or.inl rfl | exact Or.inr rfl))) (fun _ _ _ _ _ => pts_nil) (fun _ _ _ _ _ => (pe_callB (id := "all") (crK (K := K) (r := rAll) rfl (cr_all rfl)) (by rfl) t.n_all (by decide +kernel) (pa_cons (pe_lc (own := [("entry", 4)]) (g := gName 4) (tt := tYes) rfl sc_is_machine.nd (pi_listK (K := K) rfl (pv 3)) (blkOk_by (N := N_is_machine) (sc := { kind := PySem.ScopeKind.function, names := [(PySem.Str.ofString ".0", PySem.NameKind.local), (PySem.Str.ofString "row", PySem.NameKind.local), (PySem.Str.ofString "all", PySem.NameKind.globalImplicit), (PySem.Str.ofString "rows", PySem.NameKind.cell), (PySem.Str.ofString "signs", PySem.NameKind.cell)], isGenerator := false, isCoroutine := false }) (by decide +kernel)) (fun _ _ _ _ _ => (pg_name (i := 4) sc_is_machine.nd rfl (by first | exact Or.inl rfl | exact Or.inr rfl))) (fun _ _ _ _ _ => pts_nil) (fun _ _ _ _ _ => (pe_call (ok_is_entry t) (hr.mono (by decide)) (by rfl) t.m_is_entry t.F_is_entry.kp t.b_is_entry .nil pass0 (pa_cons (pv 4) (pa_cons (pv 1) (pa_cons (pv 2) pa_nil)))))) pa_nil)))) pa_nil)))))))), ?_⟩
    have g0 : Gr mu0 F H F H := Gr.refl sF
    obtain ⟨a, rs, rfl, ha, hrs⟩ := hv
    have h0 := sF _ _ ha
    have lr := hrs.1
    refine ⟨_, rfl, a, rs, rfl, .inl (SqL.of h0), _, rfl, _, _, rfl, rfl, _, rfl, ?_⟩
    by_cases c1 : 1 ≤ M.length
    case neg =>
      refine ifF (decide_eq_false (by omega)) ⟨_, rfl, ifT rfl ?_⟩
      have z := q _ g0
      unfold isM at z
      rw [decide_eq_false c1] at z
      exact z
    refine ifT (decide_eq_true (by omega)) ⟨_, _, rfl, rfl, _, rfl, ?_⟩
    by_cases c2 : M.length ≤ 4
    case neg =>
      refine ifT (by rw [decide_eq_false (show ¬ (rs.length : Int) ≤ 4 by omega)]; rfl) ?_
      have z := q _ g0
      unfold isM at z
      rw [decide_eq_true c1, decide_eq_false c2] at z
      exact z
    refine ifF (by rw [decide_eq_true (show (rs.length : Int) ≤ 4 by omega)]; rfl) ?_
    have l0 : 0 < rs.length := by omega
    have hx0 : rs[0]? = some rs[0] := List.getElem?_eq_getElem l0
    obtain ⟨row0, hM0, a0, es0, e0, ha0, hes0⟩ := hrs.get' hx0
    have hb0 := sF _ _ ha0
    have ls0 : es0.length = row0.length := hes0.1
    have eh : M.headD [] = row0 := by
      cases M with
      | nil => simp at hM0
      | cons x M => exact Option.some.inj hM0
    refine ⟨_, rfl, a, rs, _, _, rfl, rfl, SqL.of h0, atI_nat (j := 0) hx0, ?_⟩
    rw [e0]
    refine ⟨a0, es0, rfl, .inl (SqL.of hb0), _, rfl, _, _, rfl, rfl, _, rfl, ?_⟩
    unfold isM at q
    rw [eh, decide_eq_true c1, decide_eq_true c2] at q
    by_cases c3 : 2 ≤ row0.length
    case neg =>
      refine ifF (decide_eq_false (by omega)) ⟨_, rfl, ifT rfl ?_⟩
      have z := q _ g0
      rw [decide_eq_false c3] at z
      exact z
    refine ifT (decide_eq_true (by omega)) ⟨_, _, rfl, rfl, _, rfl, ?_⟩
    by_cases c4 : row0.length ≤ 4
    case neg =>
      refine ifT (by rw [decide_eq_false (show ¬ (es0.length : Int) ≤ 4 by omega)]; rfl) ?_
      have z := q _ g0
      rw [decide_eq_true c3, decide_eq_false c4] at z
      exact z
    refine ifF (by rw [decide_eq_true (show (es0.length : Int) ≤ 4 by omega)]; rfl) ?_
    rw [decide_eq_true c3, decide_eq_true c4] at q
    have q : ∀ H', Gr mu0 F H F H' → Q (.bl (M.all (fun r => decide (r.length = row0.length)) && M.all (fun r => r.all fun e => isE M.length row0.length e.l))) H' := fun H' g => by
      have z := q H' g
      rw [Bool.and_self, Bool.and_self, Bool.and_self, Bool.true_and] at z
      exact z
    refine ⟨_, rfl, a, rfl, ⟨_, SqL.of h0⟩, fun D nD => lc_list (K := K) (a := a) (xs := rs) (fun i G => Gr mu0 F H F G ∧ H D = none ∧ G D = some (.lst (((M.take i).map fun r => decide (r.length = row0.length)).map V.bl))) ⟨g0.own nD, nD, upd_same⟩ (fun i G _ p => SqL.of (p.1.fh _ _ ha)) ?_ ?_⟩
    · rintro i x G hi ⟨gG, nH, hD⟩
      obtain ⟨row, hMi, b, es, rfl, hb, hes⟩ := hrs.get' hi
      have il : i < rs.length := (List.getElem?_eq_some_iff.mp hi).1
      refine ⟨rfl, yes ⟨_, rfl, b, es, rfl, .inl (SqL.of (gG.fh _ _ hb)), _, rfl, rfl, _, hD, by rw [List.length_map, List.length_map, List.length_take]; exact lt_size (by omega), ?_⟩⟩
      have e : (V.bl (decide (V.int (es.length : Int) = V.int (es0.length : Int)))) = V.bl (decide (row.length = row0.length)) := by
        rw [show es.length = row.length from hes.1, ls0]
        congr 1
        exact decide_eq_decide.mpr ⟨fun z => by have := V.int.inj z; omega, fun z => by rw [z]⟩
      rw [e, mt2 (f := fun r : List GE => decide (r.length = row0.length)) hMi]
      exact ⟨gG.set (ne_of_none' sF nH) (.inl nH), nH, upd_same⟩
    rintro G ⟨gG, nH, hD⟩
    rw [lr, List.take_length] at hD
    refine ⟨D, _, rfl, SqL.of hD, _, rfl, ?_⟩
    rw [all_id]
    cases c5 : M.all (fun r => decide (r.length = row0.length)) with
    | false =>
      refine ifT rfl ?_
      have z := q _ gG
      rw [c5] at z
      exact z
    | true =>
      refine ifF rfl ?_
      rw [c5] at q
      have rl : ∀ row ∈ M, row.length ≤ 4 := fun row m => by
        have := of_decide_eq_true (List.all_eq_true.mp c5 row m)
        omega
      refine ⟨_, rfl, a, rfl, ⟨_, SqL.of (gG.fh _ _ ha)⟩, fun D1 nD1 => lc_list (K := K) (a := a) (xs := rs) (fun i G1 => Gr mu0 F H F G1 ∧ H D1 = none ∧ G1 D1 = some (.lst (((M.take i).map fun r => r.all fun e => isE M.length row0.length e.l).map V.bl))) ⟨gG.own nD1, gG.th _ nD1, upd_same⟩ (fun i G1 _ p => SqL.of (p.1.fh _ _ ha)) ?_ ?_⟩
      · rintro i x G1 hi ⟨gG1, nH1, hD1⟩
        obtain ⟨row, hMi, b, es, rfl, hb, hes⟩ := hrs.get' hi
        have l4 := rl row (List.mem_of_getElem? hMi)
        have il : i < rs.length := (List.getElem?_eq_some_iff.mp hi).1
        refine ⟨rfl, yes ⟨_, rfl, b, rfl, ⟨_, SqL.of (gG1.fh _ _ hb)⟩, fun D2 nD2 => lc_list (K := K) (a := b) (xs := es) (fun j G2 => Gr mu0 F H F G2 ∧ H D2 = none ∧ D1 ≠ D2 ∧ G2 D1 = some (.lst (((M.take i).map fun r => r.all fun e => isE M.length row0.length e.l).map V.bl)) ∧ G2 D2 = some (.lst (((row.take j).map fun e => isE M.length row0.length e.l).map V.bl)))
          ⟨gG1.own nD2, gG1.th _ nD2, ne_of_none hD1 nD2, by rw [upd_ne (ne_of_none hD1 nD2)]; exact hD1, upd_same⟩ (fun j G2 _ p => SqL.of (p.1.fh _ _ hb)) ?_ ?_⟩⟩
        · rintro j y G2 hj ⟨gG2, nH2, d12, h1, h2⟩
          obtain ⟨e, hej, hye⟩ := hes.get' hj
          have jl : j < es.length := (List.getElem?_eq_some_iff.mp hj).1
          have le : es.length = row.length := hes.1
          refine ⟨rfl, yes ⟨_, rfl, _, rfl, _, rfl, F, y, e, M.length, row0.length, ?_, gG2.fh, hye, fun G3 g3 => ?_⟩⟩
          · rw [lr, ls0]; rfl
          · have gH3 := gG2.trans g3
            refine ⟨_, g3.fr _ _ h2 (fun z => z), by rw [List.length_map, List.length_map, List.length_take]; exact lt_size (by omega), ?_⟩
            rw [mt2 (f := fun e : GE => isE M.length row0.length e.l) hej]
            exact ⟨gH3.set (sF.free nH2) (.inl nH2), nH2, d12, by rw [upd_ne d12]; exact g3.fr _ _ h1 (fun z => z), upd_same⟩
        · rintro G2 ⟨gG2, nH2, d12, h1, h2⟩
          rw [hes.1, List.take_length] at h2
          refine ⟨D2, _, rfl, SqL.of h2, ?_⟩
          refine ⟨_, h1, by rw [List.length_map, List.length_map, List.length_take]; exact lt_size (by omega), ?_⟩
          rw [all_id, mt2 (f := fun r : List GE => r.all fun e => isE M.length row0.length e.l) hMi]
          exact ⟨gG2.set (sF.free nH1) (.inl nH1), nH1, upd_same⟩
      · rintro G1 ⟨gG1, nH1, hD1⟩
        rw [lr, List.take_length] at hD1
        refine ⟨D1, _, rfl, SqL.of hD1, ?_⟩
        rw [all_id]
        exact q _ gG1
/-- must_machine: what is none is refused with NoMachine -/
def sp_mustX (C : Addr) : Sp := fun vs H Q E => ∃ (F : Hp) (v : V) (M : GM), vs = [v] ∧ Same F H ∧ Is F v M ∧ (isM M = true → ∀ H', Gr mu0 F H F H' → Q .non H') ∧ (isM M = false → ∀ H', Gr mu0 F H F H' → E (.ref C) none H')
theorem okx_must_machine (t : Tx K mg) : FnOk P w K mg base (L2.CX P w) 3 t.a_must_machine t.fd_must_machine ["machine"] (sp_mustX t.C_NoMachine) := by
  refine t.F_must_machine.okX sc_must_machine (fun vs H Q E h => ?_) (fun cdv A outer s H vs Q E hr h => ?_)
  · obtain ⟨F, v, M, rfl, _⟩ := h
    rfl
  · obtain ⟨F, v, M, rfl, sF, hv, q1, q2⟩ := h
    refine ⟨_, (pss_one (ps_if (pt_not (pt_val (pe_call (ok_is_machine t) (hr.mono (by decide)) (by rfl) t.m_is_machine t.F_is_machine.kp t.b_is_machine .nil pass0 (pa_cons (pv 0) pa_nil)))) (pss_one (ps_raise rfl (takes_of rfl rfl rfl rfl) (pmk_own PySem.F.excBase_ValueError t.x_NoMachine t.m_NoMachine t.k_NoMachine (raises_own t.b_NoMachine t.t_NoMachine) (by rfl)))) pss_nil)), ?_⟩
    refine ⟨_, rfl, F, v, M, rfl, sF, hv, fun H' g => ⟨_, rfl, ?_⟩⟩
    cases e : isM M with
    | true => exact ifF rfl (q1 e H' g)
    | false => exact ifT rfl (q2 e H' g)
/-! ### small things -/
theorem ln {H : Hp} {p q : Addr} {o u : HO} (n : H q = none) (h : H p = some o) : upd H q u p = some o := (upd_ne (ne_of_none h n)).trans h
theorem kt_int_int {K : PySem.W.Frag} : PySem.W.kitOne K (.type "int") (.type "int") = some true := kit_ty (by decide +kernel)
theorem kt_int_bool {K : PySem.W.Frag} : PySem.W.kitOne K (.type "int") (.type "bool") = some false := kit_ty (by decide +kernel)
theorem kt_tup {K : PySem.W.Frag} : PySem.W.kitOne K (.type "tuple") (.type "tuple") = some true := kit_ty (by decide +kernel)
theorem kt_list {K : PySem.W.Frag} : PySem.W.kitOne K (.type "list") (.type "list") = some true := kit_ty (by decide +kernel)
theorem gr_purse {H H1 : Hp} (s : Same H H1) : Gr mu0 H H H H1 := ⟨fun _ _ h => h, s, fun _ _ h => .inl h, fun c o h _ => s c o h, fun c h => s.free h⟩
theorem at_end {xs : List V} {k : Nat} {v : V} (l : xs.length = k + 1) (h : xs[k]? = some v) : atI xs (-1) = some v := by
  have e : ixN xs.length (-1) = some k := by
    unfold ixN
    rw [if_neg (by decide), if_pos (by omega)]
    congr 1
    omega
  unfold atI
  rw [e]
  exact h
theorem cut_all {xs : List V} {j : Nat} (h : xs.length ≤ j) : cutV xs none (some (j : Int)) = xs := by
  unfold cutV
  have e1 : HT.sIx xs.length 0 none = 0 := rfl
  have e2 : HT.sIx xs.length xs.length (some (j : Int)) = xs.length := by
    simp only [HT.sIx]
    rw [if_neg (by omega), Int.toNat_natCast]
    omega
  rw [e1, e2, List.drop_zero, Nat.sub_zero, List.take_length]
theorem map_take_succ {α β : Type} {f : α → β} {xs : List α} {i : Nat} {x : α} (h : xs[i]? = some x) : (xs.take (i + 1)).map f = (xs.take i).map f ++ [f x] := by
  rw [List.take_add_one, h, List.map_append]; rfl
theorem cut_1 {xs : List V} : cutV xs (some 1) none = xs.drop 1 := by
  unfold cutV
  have e2 : HT.sIx xs.length xs.length none = xs.length := rfl
  rw [e2]
  cases xs with
  | nil => simp
  | cons x xs =>
    have e1 : HT.sIx (x :: xs).length 0 (some 1) = 1 := by
      simp only [HT.sIx, List.length_cons]
      rw [if_neg (by decide), show (1 : Int).toNat = 1 from rfl]
      omega
    rw [e1]
    show (xs.take (xs.length + 1 - 1)) = xs
    rw [Nat.add_sub_cancel, List.take_length]
theorem cut32 : ¬ (HT.sIx 3 0 none = 0 ∧ HT.sIx 3 3 (some 2) = 3) := by decide
theorem Gr.frzS {mu : Addr → Prop} {F H F1 H1 : Hp} (g : Gr mu F H F1 H1) (P : Addr → Prop) [DecidablePred P] (h : ∀ c, P c → H c = none ∧ F1 c = none) : Gr mu F H (fun c => if P c then H1 c else F1 c) H1 ∧ Same F1 (fun c => if P c then H1 c else F1 c) := by
  have s : Same F1 (fun c => if P c then H1 c else F1 c) := fun c o e => by
    by_cases p : P c
    · rw [(h c p).2] at e; cases e
    · simp only [p, if_false]; exact e
  refine ⟨⟨fun c o e => s c o (g.ff c o e), fun c o e => ?_, fun c o e => ?_, g.fr, g.th⟩, s⟩
  · by_cases p : P c
    · simp only [p, if_true] at e; exact e
    · simp only [p, if_false] at e; exact g.fh c o e
  · by_cases p : P c
    · exact .inr (h c p).1
    · simp only [p, if_false] at e; exact g.nw c o e
theorem Gr.pf {mu : Addr → Prop} {F H F1 H1 : Hp} {p : Addr} {o : HO} (g : Gr mu F H F1 H1) (f : F p = none) (h : H p = some o) : F1 p = none := by
  cases e : F1 p with
  | none => rfl
  | some z =>
    rcases g.nw p z e with k | k
    · rw [f] at k; cases k
    · rw [h] at k; cases k
/-- a draw: the purse alone is another one -/
theorem Gr.drw {F H F1 H1 : Hp} {p : Addr} {o : HO} {a b : Int} (g : Gr (muP p) F H F1 H1) (f : F p = none) (h : H p = some o) : Gr (muP p) F H F1 (upd H1 p (PurseO a b)) ∧ Gr (muP p) F1 H1 F1 (upd H1 p (PurseO a b)) :=
  ⟨g.set (g.pf f h) (.inr rfl), (Gr.refl g.fh).set (g.pf f h) (.inr rfl)⟩
/-! ### of which kinds an exception is -/
theorem all_bools {F : Hp} (l : List Bool) : IsAll F (l.map V.bl) l := ⟨by rw [List.length_map], fun i x y h1 h2 => by
  rw [List.getElem?_map, h2] at h1
  exact (Option.some.inj h1).symm⟩
/-- kept exceptions, each of its class -/
def ExA {K : PySem.W.Frag} {mg : Str → Option Value} (t : Tx K mg) (F : Hp) (vs : List V) (ks : List Nat) : Prop := All2 (fun v k => ∃ a, v = .ref a ∧ F a = some (Kp a (.ref (cls t k)) none)) vs ks
theorem ExA.up {K : PySem.W.Frag} {mg : Str → Option Value} {t : Tx K mg} {F F' : Hp} {vs : List V} {ks : List Nat} (h : ExA t F vs ks) (s : Same F F') : ExA t F' vs ks := h.imp fun _ _ ⟨a, e, q⟩ => ⟨a, e, s _ _ q⟩
def sp_L_kinds (t : Tx K mg) : Sp := fun vs H Q _ => ∃ (F : Hp) (a : Addr) (k : Nat), vs = [.ref a] ∧ Same F H ∧ H a = some (Kp a (.ref (cls t k)) none) ∧ ∀ F' H' l, Gr mu0 F H F' H' → F' l = some (.lst (((List.range 11).map fun j => decide (j = k)).map V.bl)) → Q (.ref l) H'
theorem ok_L_kinds (t : Tx K mg) : FnOk P w K mg base CX0 1 t.a_L_kinds t.fd_L_kinds ["_law_one"] (sp_L_kinds t) := by
  refine t.F_L_kinds.ok sc_L_kinds (fun vs H Q E h => ?_) (fun cdv A outer s H vs Q E hr h => ?_)
  · obtain ⟨F, a, k, rfl, _⟩ := h
    rfl
  · obtain ⟨F, a, k, rfl, sF, ha, q⟩ := h
    refine ⟨_, (pss_cons (ps_set (i := 1) sc_L_kinds.nd rfl (by first | exact Or.inl rfl | exact Or.inr rfl) (pe_lst (pa_cons (pe_callB (id := "isinstance") call_isK (by rfl) t.n_isinstance (by decide +kernel) (pa_cons (pv 0) (pa_cons (pe_glob (v := .ref t.C_Full) (by rfl) t.m_Full rfl) pa_nil))) (pa_cons (pe_callB (id := "isinstance") call_isK (by rfl) t.n_isinstance (by decide +kernel) (pa_cons (pv 0) (pa_cons (pe_glob (v := .ref t.C_NoDeed) (by rfl) t.m_NoDeed rfl) pa_nil))) (pa_cons (pe_callB (id := "isinstance") call_isK (by rfl) t.n_isinstance (by decide +kernel) (pa_cons (pv 0) (pa_cons (pe_glob (v := .ref t.C_NoLine) (by rfl) t.m_NoLine rfl) pa_nil))) (pa_cons (pe_callB (id := "isinstance") call_isK (by rfl) t.n_isinstance (by decide +kernel) (pa_cons (pv 0) (pa_cons (pe_glob (v := .ref t.C_NoMachine) (by rfl) t.m_NoMachine rfl) pa_nil))) pa_nil))))))
      (pss_cons (ps_set (i := 1) sc_L_kinds.nd rfl (by first | exact Or.inl rfl | exact Or.inr rfl) (pe_op op_cat (pv 1) (pe_lst (pa_cons (pe_callB (id := "isinstance") call_isK (by rfl) t.n_isinstance (by decide +kernel) (pa_cons (pv 0) (pa_cons (pe_glob (v := .ref t.C_NoName) (by rfl) t.m_NoName rfl) pa_nil))) (pa_cons (pe_callB (id := "isinstance") call_isK (by rfl) t.n_isinstance (by decide +kernel) (pa_cons (pv 0) (pa_cons (pe_glob (v := .ref t.C_NoPaper) (by rfl) t.m_NoPaper rfl) pa_nil))) (pa_cons (pe_callB (id := "isinstance") call_isK (by rfl) t.n_isinstance (by decide +kernel) (pa_cons (pv 0) (pa_cons (pe_glob (v := .ref t.C_NoSize) (by rfl) t.m_NoSize rfl) pa_nil))) pa_nil))))))
      (pss_cons (ps_set (i := 1) sc_L_kinds.nd rfl (by first | exact Or.inl rfl | exact Or.inr rfl) (pe_op op_cat (pv 1) (pe_lst (pa_cons (pe_callB (id := "isinstance") call_isK (by rfl) t.n_isinstance (by decide +kernel) (pa_cons (pv 0) (pa_cons (pe_glob (v := .ref t.C_NoSuch) (by rfl) t.m_NoSuch rfl) pa_nil))) (pa_cons (pe_callB (id := "isinstance") call_isK (by rfl) t.n_isinstance (by decide +kernel) (pa_cons (pv 0) (pa_cons (pe_glob (v := .ref t.C_NoText) (by rfl) t.m_NoText rfl) pa_nil))) (pa_cons (pe_callB (id := "isinstance") call_isK (by rfl) t.n_isinstance (by decide +kernel) (pa_cons (pv 0) (pa_cons (pe_glob (v := .ref t.C_NoWidth) (by rfl) t.m_NoWidth rfl) pa_nil))) pa_nil))))))
      (pss_one (ps_ret (pe_op op_cat (pv 1) (pe_lst (pa_cons (pe_callB (id := "isinstance") call_isK (by rfl) t.n_isinstance (by decide +kernel) (pa_cons (pv 0) (pa_cons (pe_glob (v := .ref t.C_Twice) (by rfl) t.m_Twice rfl) pa_nil))) pa_nil)))))))), ?_⟩
    have g0 : Gr mu0 F H F H := Gr.refl sF
    refine ⟨_, rfl, rIsK.mk ha (ecs t k) (fun u r => r) (ki_Full t k) ⟨_, rfl, rIsK.mk ha (ecs t k) (fun u r => r) (ki_NoDeed t k) ⟨_, rfl, rIsK.mk ha (ecs t k) (fun u r => r) (ki_NoLine t k) ⟨_, rfl, rIsK.mk ha (ecs t k) (fun u r => r) (ki_NoMachine t k) ⟨le_size (by show 4 ≤ 1000000; decide), fun l1 n1 => ?_⟩⟩⟩⟩⟩
    have g1 := g0.own (o := .lst [.bl (decide (0 = k)), .bl (decide (1 = k)), .bl (decide (2 = k)), .bl (decide (3 = k))]) n1
    have ha1 := ln (u := .lst [.bl (decide (0 = k)), .bl (decide (1 = k)), .bl (decide (2 = k)), .bl (decide (3 = k))]) n1 ha
    have h1 : (upd H l1 (.lst [.bl (decide (0 = k)), .bl (decide (1 = k)), .bl (decide (2 = k)), .bl (decide (3 = k))])) l1 = some (.lst [.bl (decide (0 = k)), .bl (decide (1 = k)), .bl (decide (2 = k)), .bl (decide (3 = k))]) := upd_same
    generalize upd H l1 (.lst [.bl (decide (0 = k)), .bl (decide (1 = k)), .bl (decide (2 = k)), .bl (decide (3 = k))]) = H1 at g1 ha1 h1 ⊢
    refine ⟨_, rfl, ⟨_, rfl, rIsK.mk ha1 (ecs t k) (fun u r => r) (ki_NoName t k) ⟨_, rfl, rIsK.mk ha1 (ecs t k) (fun u r => r) (ki_NoPaper t k) ⟨_, rfl, rIsK.mk ha1 (ecs t k) (fun u r => r) (ki_NoSize t k) ⟨three_le, fun l2 n2 => ⟨l1, l2, _, _, rfl, rfl, ln n2 h1, upd_same, le_size (by show 4 + 3 ≤ 1000000; decide), fun l3 n3 => ?_⟩⟩⟩⟩⟩⟩
    have g2 := (g1.own (o := .lst [.bl (decide (4 = k)), .bl (decide (5 = k)), .bl (decide (6 = k))]) n2).own (o := .lst [.bl (decide (0 = k)), .bl (decide (1 = k)), .bl (decide (2 = k)), .bl (decide (3 = k)), .bl (decide (4 = k)), .bl (decide (5 = k)), .bl (decide (6 = k))]) n3
    have ha2 := ln (u := .lst [.bl (decide (0 = k)), .bl (decide (1 = k)), .bl (decide (2 = k)), .bl (decide (3 = k)), .bl (decide (4 = k)), .bl (decide (5 = k)), .bl (decide (6 = k))]) n3 (ln (u := .lst [.bl (decide (4 = k)), .bl (decide (5 = k)), .bl (decide (6 = k))]) n2 ha1)
    have h2 : (upd (upd H1 l2 (.lst [.bl (decide (4 = k)), .bl (decide (5 = k)), .bl (decide (6 = k))])) l3 (.lst [.bl (decide (0 = k)), .bl (decide (1 = k)), .bl (decide (2 = k)), .bl (decide (3 = k)), .bl (decide (4 = k)), .bl (decide (5 = k)), .bl (decide (6 = k))])) l3 = some (.lst [.bl (decide (0 = k)), .bl (decide (1 = k)), .bl (decide (2 = k)), .bl (decide (3 = k)), .bl (decide (4 = k)), .bl (decide (5 = k)), .bl (decide (6 = k))]) := upd_same
    refine ⟨_, rfl, ⟨_, rfl, rIsK.mk ha2 (ecs t k) (fun u r => r) (ki_NoSuch t k) ⟨_, rfl, rIsK.mk ha2 (ecs t k) (fun u r => r) (ki_NoText t k) ⟨_, rfl, rIsK.mk ha2 (ecs t k) (fun u r => r) (ki_NoWidth t k) ⟨three_le, fun l4 n4 => ⟨l3, l4, _, _, rfl, rfl, ln n4 h2, upd_same, le_size (by show 7 + 3 ≤ 1000000; decide), fun l5 n5 => ?_⟩⟩⟩⟩⟩⟩
    have g3 := (g2.own (o := .lst [.bl (decide (7 = k)), .bl (decide (8 = k)), .bl (decide (9 = k))]) n4).own (o := .lst [.bl (decide (0 = k)), .bl (decide (1 = k)), .bl (decide (2 = k)), .bl (decide (3 = k)), .bl (decide (4 = k)), .bl (decide (5 = k)), .bl (decide (6 = k)), .bl (decide (7 = k)), .bl (decide (8 = k)), .bl (decide (9 = k))]) n5
    have ha3 := ln (u := .lst [.bl (decide (0 = k)), .bl (decide (1 = k)), .bl (decide (2 = k)), .bl (decide (3 = k)), .bl (decide (4 = k)), .bl (decide (5 = k)), .bl (decide (6 = k)), .bl (decide (7 = k)), .bl (decide (8 = k)), .bl (decide (9 = k))]) n5 (ln (u := .lst [.bl (decide (7 = k)), .bl (decide (8 = k)), .bl (decide (9 = k))]) n4 ha2)
    have h3 : (upd (upd (upd (upd H1 l2 (.lst [.bl (decide (4 = k)), .bl (decide (5 = k)), .bl (decide (6 = k))])) l3 (.lst [.bl (decide (0 = k)), .bl (decide (1 = k)), .bl (decide (2 = k)), .bl (decide (3 = k)), .bl (decide (4 = k)), .bl (decide (5 = k)), .bl (decide (6 = k))])) l4 (.lst [.bl (decide (7 = k)), .bl (decide (8 = k)), .bl (decide (9 = k))])) l5 (.lst [.bl (decide (0 = k)), .bl (decide (1 = k)), .bl (decide (2 = k)), .bl (decide (3 = k)), .bl (decide (4 = k)), .bl (decide (5 = k)), .bl (decide (6 = k)), .bl (decide (7 = k)), .bl (decide (8 = k)), .bl (decide (9 = k))])) l5 = some (.lst [.bl (decide (0 = k)), .bl (decide (1 = k)), .bl (decide (2 = k)), .bl (decide (3 = k)), .bl (decide (4 = k)), .bl (decide (5 = k)), .bl (decide (6 = k)), .bl (decide (7 = k)), .bl (decide (8 = k)), .bl (decide (9 = k))]) := upd_same
    refine ⟨_, rfl, ⟨_, rfl, rIsK.mk ha3 (ecs t k) (fun u r => r) (ki_Twice t k) ⟨one_le, fun l6 n6 => ⟨l5, l6, _, _, rfl, rfl, ln n6 h3, upd_same, le_size (by show 10 + 1 ≤ 1000000; decide), fun l7 n7 => ?_⟩⟩⟩⟩
    exact q _ _ l7 ((g3.own (o := .lst [.bl (decide (10 = k))]) n6).new (o := .lst [.bl (decide (0 = k)), .bl (decide (1 = k)), .bl (decide (2 = k)), .bl (decide (3 = k)), .bl (decide (4 = k)), .bl (decide (5 = k)), .bl (decide (6 = k)), .bl (decide (7 = k)), .bl (decide (8 = k)), .bl (decide (9 = k)), .bl (decide (10 = k))]) n7) upd_same
theorem Gr.newE {mu : Addr → Prop} {F H F1 H1 : Hp} {q : Addr} {o : HO} (a : Gr mu F H F1 H1) (n : H1 q = none) : ∃ F', Gr mu F H F' (upd H1 q o) ∧ F' q = some o ∧ Same F1 F' := ⟨_, a.new n, upd_same, sm_new (Same.refl F1) (a.fh.free n)⟩
theorem Gr.frzE {mu : Addr → Prop} {F H F1 H1 : Hp} {q : Addr} {o : HO} (a : Gr mu F H F1 H1) (w : Ow H F1 H1 q o) : ∃ F', Gr mu F H F' H1 ∧ F' q = some o ∧ Same F1 F' := ⟨_, a.frz w.h w.n w.f, upd_same, sm_new (Same.refl F1) w.f⟩
theorem ExA.add {K : PySem.W.Frag} {mg : Str → Option Value} {t : Tx K mg} {mu : Addr → Prop} {F0 H0 F G : Hp} {vs : List V} {ks : List Nat} {a : Addr} {k : Nat} (x : ExA t F vs ks) (y : Gr mu F0 H0 F G) (n : G a = none) :
    Gr mu F0 H0 (upd F a (Kp a (.ref (cls t k)) none)) (upd G a (Kp a (.ref (cls t k)) none)) ∧ ExA t (upd F a (Kp a (.ref (cls t k)) none)) (vs ++ [.ref a]) (ks ++ [k]) ∧ Same F (upd F a (Kp a (.ref (cls t k)) none)) := by
  have s : Same F (upd F a (Kp a (.ref (cls t k)) none)) := sm_new (Same.refl F) (y.fh.free n)
  exact ⟨y.new n, (x.up s).app (All2.one ⟨a, rfl, upd_same⟩), s⟩
/-! ### the run of what is no machine -/
theorem at_ofG {α : Type} {xs : List α} {z : Int} {v : α} (h0 : 0 ≤ z) (h : xs[z.toNat]? = some v) : atI xs z = some v := by
  have l := (List.getElem?_eq_some_iff.mp h).1
  have e : ixN xs.length z = some z.toNat := by
    unfold ixN
    rw [if_pos h0, if_pos (by omega)]
  unfold atI
  rw [e]
  exact h
def sp_runN (C : Addr) : Sp := fun vs H Q E => ∃ (F : Hp) (v c : V) (M : GM), vs = [v, c] ∧ Same F H ∧ Is F v M ∧ isM M = false ∧ ∀ H', Gr mu0 F H F H' → E (.ref C) none H'
theorem okn_run (t : Tx K mg) : FnOk P w K mg base (L2.CX P w) 4 t.a_run t.fd_run ["machine", "most"] (sp_runN t.C_NoMachine) := by
  refine t.F_run.okX sc_run (fun vs H Q E h => ?_) (fun cdv A outer s H vs Q E hr h => ?_)
  · obtain ⟨F, v, c, M, rfl, _⟩ := h
    rfl
  · obtain ⟨F, v, c, M, rfl, sF, hv, hM, q⟩ := h
    refine ⟨_, (pss_cons (ps_expr (pe_callS (okx_must_machine t) (hr.mono (by decide)) (by rfl) t.m_must_machine t.F_must_machine.kp t.b_must_machine (fun σ => passAt (takes_of rfl rfl rfl rfl) σ) (pa_cons (pv 0) pa_nil)))
      (pss_cons ps_never (pss_cons ps_never (pss_one ps_never)))), ?_⟩
    exact ⟨_, rfl, F, v, M, rfl, sF, hv, (fun e => by rw [hM] at e; cases e), fun _ H' g => q H' g⟩
def sp_law (K : PySem.W.Frag) : Sp := fun vs H Q _ => ∃ (a : Addr) (ns : List Int), vs = [.ref a] ∧ SqL K H a (ns.map V.int) ∧ ns.length ≤ 63 ∧ ∀ H', Q (.bl true) H'
theorem ok_law (t : Tx K mg) : FnOk P w K mg base CX0 5 t.a_law t.fd_law ["_law_script"] (sp_law K) := by
  refine t.F_law.ok sc_law (fun vs H Q E h => ?_) (fun cdv A outer s H vs Q E hr h => ?_)
  · obtain ⟨a, ns, rfl, _⟩ := h
    rfl
  · obtain ⟨a, ns, rfl, hS, hn, q⟩ := h
    refine ⟨_, (pss_cons (ps_set (i := 1) sc_law.nd rfl (by first | exact Or.inl rfl | exact Or.inr rfl) (pe_call (ok_L_purse t) (hr.mono (by decide)) (by rfl) t.m_L_purse t.F_L_purse.kp t.b_L_purse .nil pass0 (pa_cons (pv 0) pa_nil)))
      (pss_cons (ps_set (i := 2) sc_law.nd rfl (by first | exact Or.inl rfl | exact Or.inr rfl) pe_str)
      (pss_cons (ps_set (i := 3) sc_law.nd rfl (by first | exact Or.inl rfl | exact Or.inr rfl) (pe_join pe_str (pe_lc (own := [("_law_k", 4)]) (g := gName 4) (tt := tYes) rfl sc_law.nd (pi_range1 (by rfl) t.n_range (pa_cons (pe_op op_add pe_int (pe_call (ok_L_draw t) (hr.mono (by decide)) (by rfl) t.m_L_draw t.F_L_draw.kp t.b_L_draw .nil pass0 (pa_cons (pv 1) (pa_cons pe_int pa_nil)))) pa_nil)) (blkOk_by (N := N_law) (sc := defScope s_law) (by decide +kernel)) (fun _ _ _ _ _ => (pg_name (i := 4) sc_law.nd rfl (by first | exact Or.inl rfl | exact Or.inr rfl))) (fun _ _ _ _ _ => pts_nil) (fun _ _ _ _ _ => (pe_ix ix_str (pv 2) (pe_call (ok_L_draw t) (hr.mono (by decide)) (by rfl) t.m_L_draw t.F_L_draw.kp t.b_L_draw .nil pass0 (pa_cons (pv 1) (pa_cons pe_int pa_nil))) (fun _ _ => rfl))))))
      (pss_cons (ps_set (i := 5) sc_law.nd rfl (by first | exact Or.inl rfl | exact Or.inr rfl) (pe_lst (pa_cons (pe_exc0 PySem.F.excBase_ValueError t.x_Full t.m_Full t.k_Full (by rfl)) (pa_cons (pe_exc0 PySem.F.excBase_ValueError t.x_NoDeed t.m_NoDeed t.k_NoDeed (by rfl)) (pa_cons (pe_exc0 PySem.F.excBase_ValueError t.x_NoLine t.m_NoLine t.k_NoLine (by rfl)) (pa_cons (pe_exc0 PySem.F.excBase_ValueError t.x_NoMachine t.m_NoMachine t.k_NoMachine (by rfl)) (pa_cons (pe_exc0 PySem.F.excBase_ValueError t.x_NoName t.m_NoName t.k_NoName (by rfl)) (pa_cons (pe_exc0 PySem.F.excBase_ValueError t.x_NoPaper t.m_NoPaper t.k_NoPaper (by rfl)) (pa_cons (pe_exc0 PySem.F.excBase_ValueError t.x_NoSize t.m_NoSize t.k_NoSize (by rfl)) (pa_cons (pe_exc0 PySem.F.excBase_ValueError t.x_NoSuch t.m_NoSuch t.k_NoSuch (by rfl)) (pa_cons (pe_exc0 PySem.F.excBase_ValueError t.x_NoText t.m_NoText t.k_NoText (by rfl)) (pa_cons (pe_exc0 PySem.F.excBase_ValueError t.x_NoWidth t.m_NoWidth t.k_NoWidth (by rfl)) pa_nil))))))))))))
      (pss_cons (ps_expr (pe_bm PySem.F.plainAttrs_list PySem.F.slot_list_append PySem.F.type_list_append mt_append (pv 5) (pa_cons (pe_exc0 PySem.F.excBase_ValueError t.x_Twice t.m_Twice t.k_Twice (by rfl)) pa_nil)))
      (pss_cons (ps_set (i := 6) sc_law.nd rfl (by first | exact Or.inl rfl | exact Or.inr rfl) (pe_lst (pa_cons (pe_excK PySem.F.excBase_ValueError t.x_Full t.m_Full t.k_Full (by rfl) (pv 3)) (pa_cons (pe_excK PySem.F.excBase_ValueError t.x_NoDeed t.m_NoDeed t.k_NoDeed (by rfl) (pv 3)) (pa_cons (pe_excK PySem.F.excBase_ValueError t.x_NoLine t.m_NoLine t.k_NoLine (by rfl) (pv 3)) (pa_cons (pe_excK PySem.F.excBase_ValueError t.x_NoMachine t.m_NoMachine t.k_NoMachine (by rfl) (pv 3)) (pa_cons (pe_excK PySem.F.excBase_ValueError t.x_NoName t.m_NoName t.k_NoName (by rfl) (pv 3)) (pa_cons (pe_excK PySem.F.excBase_ValueError t.x_NoPaper t.m_NoPaper t.k_NoPaper (by rfl) (pv 3)) (pa_cons (pe_excK PySem.F.excBase_ValueError t.x_NoSize t.m_NoSize t.k_NoSize (by rfl) (pv 3)) pa_nil)))))))))
      (pss_cons (ps_set (i := 6) sc_law.nd rfl (by first | exact Or.inl rfl | exact Or.inr rfl) (pe_op op_cat (pv 6) (pe_lst (pa_cons (pe_excK PySem.F.excBase_ValueError t.x_NoSuch t.m_NoSuch t.k_NoSuch (by rfl) (pv 3)) (pa_cons (pe_excK PySem.F.excBase_ValueError t.x_NoText t.m_NoText t.k_NoText (by rfl) (pv 3)) (pa_cons (pe_excK PySem.F.excBase_ValueError t.x_NoWidth t.m_NoWidth t.k_NoWidth (by rfl) (pv 3)) (pa_cons (pe_excK PySem.F.excBase_ValueError t.x_Twice t.m_Twice t.k_Twice (by rfl) (pv 3)) pa_nil)))))))
      (pss_cons (ps_for PassesOwn.never rfl (pi_list (pe_lst (pa_cons (pv 5) (pa_cons (pv 6) pa_nil)))) (pg_name (i := 7) sc_law.nd rfl (by first | exact Or.inl rfl | exact Or.inr rfl)) (pss_one (ps_for PassesOwn.never rfl (pi_enum (by rfl) t.n_enumerate (pa_cons (pv 7) pa_nil)) (pg_tup rfl (pgs_cons (pg_name (i := 4) sc_law.nd rfl (by first | exact Or.inl rfl | exact Or.inr rfl)) (pgs_cons (pg_name (i := 8) sc_law.nd rfl (by first | exact Or.inl rfl | exact Or.inr rfl)) pgs_nil))) (pss_cons (ps_setLc (i := 9) (own := [("_law_j", 10)]) (g := gName 10) (tt := tYes) rfl sc_law.nd rfl rfl (sw_true rfl rfl rfl (by decide +kernel)) (pi_range1 (by rfl) t.n_range (pa_cons pe_int pa_nil)) (blkOk_by (N := N_law) (sc := defScope s_law) (by decide +kernel)) (fun _ _ _ _ _ => (pg_name (i := 10) sc_law.nd rfl (by first | exact Or.inl rfl | exact Or.inr rfl))) (fun _ _ _ _ _ => pts_nil) (fun _ _ _ _ _ => (pe_cmpR op_eq (pv 10) (pv 4) (nomark _))))
      (pss_one (ps_if (PW.pt (pw_or (pt_cmpR (op_neD hr.units) (pe_call (ok_L_kinds t) (hr.mono (by decide)) (by rfl) t.m_L_kinds t.F_L_kinds.kp t.b_L_kinds .nil pass0 (pa_cons (pv 8) pa_nil)) (pv 9) (nomark _)) (pw_or (pt_not (pt_val (pe_callB (id := "isinstance") call_isK (by rfl) t.n_isinstance (by decide +kernel) (pa_cons (pv 8) (pa_cons (pe_glob (v := .ref t.C_MillError) (by rfl) t.m_MillError rfl) pa_nil))))) (pw_or1 (pt_not (pt_val (pe_callB (id := "isinstance") call_isK (by rfl) t.n_isinstance (by decide +kernel) (pa_cons (pv 8) (pa_cons (pe_bltn (v := .ty "ValueError") (by rfl) t.n_ValueError (by decide +kernel) rfl) pa_nil))))))))) (pss_one (ps_ret pe_bl)) pss_nil))))))
      (pss_cons (ps_set (i := 11) sc_law.nd rfl (by first | exact Or.inl rfl | exact Or.inr rfl) (pe_exc0 PySem.F.excBase_ValueError t.x_MillError t.m_MillError t.k_MillError (by rfl)))
      (pss_cons (ps_try_kp (i := 12) rfl rfl sc_law.nd rfl rfl ⟨by rfl, by decide, .inl t.m_MillError⟩ (fun W pn xe tk _ => (pss_one (ps_expr (pe_callS (okn_run t) (hr.mono (by decide)) (by rfl) t.m_run t.F_run.kp t.b_run (fun σ => passAt tk σ) (pa_cons (pe_op op_rep (pe_lst (pa_cons (pe_lst (pa_cons (pe_tup pa_nil) (pa_cons (pe_tup pa_nil) pa_nil))) pa_nil)) pe_int) (pa_cons (pe_call (ok_L_draw t) (hr.mono (by decide)) (by rfl) t.m_L_draw t.F_L_draw.kp t.b_L_draw .nil pass0 (pa_cons (pv 1) (pa_cons pe_int pa_nil))) pa_nil)))))) (fun a oe cls d pn hz hf => (pss_one (ps_set (i := 11) sc_law.nd rfl (by first | exact Or.inl rfl | exact Or.inr rfl) (pv 12)))))
      (pss_cons (ps_if (pt_cmpR (op_neD hr.units) (pe_call (ok_L_kinds t) (hr.mono (by decide)) (by rfl) t.m_L_kinds t.F_L_kinds.kp t.b_L_kinds .nil pass0 (pa_cons (pv 11) pa_nil)) (pe_lc (own := [("_law_j", 10)]) (g := gName 10) (tt := tYes) rfl sc_law.nd (pi_range1 (by rfl) t.n_range (pa_cons pe_int pa_nil)) (blkOk_by (N := N_law) (sc := defScope s_law) (by decide +kernel)) (fun _ _ _ _ _ => (pg_name (i := 10) sc_law.nd rfl (by first | exact Or.inl rfl | exact Or.inr rfl))) (fun _ _ _ _ _ => pts_nil) (fun _ _ _ _ _ => (pe_cmpR op_eq (pv 10) pe_int (nomark _)))) (nomark _)) (pss_one (ps_ret pe_bl)) pss_nil)
      (pss_cons (ps_for PassesOwn.never rfl (pi_list (pe_lst (pa_cons (pe_exc0 PySem.F.excBase_ValueError t.x_MillError t.m_MillError t.k_MillError (by rfl)) (pa_cons (pe_excK PySem.F.excBase_ValueError t.x_MillError t.m_MillError t.k_MillError (by rfl) (pv 3)) pa_nil)))) (pg_name (i := 8) sc_law.nd rfl (by first | exact Or.inl rfl | exact Or.inr rfl)) (pss_one (ps_if (PW.pt (pw_or (pt_not (pt_val (pe_callB (id := "isinstance") call_isK (by rfl) t.n_isinstance (by decide +kernel) (pa_cons (pv 8) (pa_cons (pe_bltn (v := .ty "ValueError") (by rfl) t.n_ValueError (by decide +kernel) rfl) pa_nil))))) (pw_or1 (pt_cmpR op_in_seq pe_bl (pe_call (ok_L_kinds t) (hr.mono (by decide)) (by rfl) t.m_L_kinds t.F_L_kinds.kp t.b_L_kinds .nil pass0 (pa_cons (pv 8) pa_nil)) (by rfl))))) (pss_one (ps_ret pe_bl)) pss_nil)))
      (pss_one (ps_ret pe_bl)))))))))))))), ?_⟩
    refine ⟨_, rfl, a, ns, rfl, hS, hn, fun a0 b0 p H1 ha0 hb0 s1 np hp1 => ?_⟩
    have g1 : Gr (muP p) H H1 H H1 := Gr.refl s1
    have sL : ∀ {c : Nat}, ("abcdefghijklmnopqrstuvwxyz" : Str).cps[c]? = none → 26 ≤ c := fun {c} h => by
      have e : ("abcdefghijklmnopqrstuvwxyz" : Str).cps.size = 26 := by decide +kernel
      have := Array.getElem?_eq_none_iff.mp h
      omega
    refine ⟨⟨_, rfl⟩, _, rfl, p, a0, b0, 6, rfl, hp1, ha0, hb0, by decide, by decide, fun d1 a1 b1 d10 d11 ha1 hb1 => ⟨_, _, rfl, rfl, 1 + d1, rfl, by omega, by omega, fun D nD => ?_⟩⟩
    obtain ⟨g2, _⟩ := g1.drw (a := a1) (b := b1) np hp1
    have hp2 : (upd H1 p (PurseO a1 b1)) p = some (PurseO a1 b1) := upd_same
    generalize upd H1 p (PurseO a1 b1) = H2 at g2 hp2 nD
    have pD : D ≠ p := (ne_of_none hp2 nD).symm
    refine lc_range (lo := 0) (n := (1 + d1).toNat) (fun i G => ∃ (ss : List Str) (u z : Int), Gr (muP p) H H1 H G ∧ G p = some (PurseO u z) ∧ 0 ≤ u ∧ 0 ≤ z ∧ Ow H1 H G D (.lst (ss.map V.str)) ∧ ss.length = i ∧ ∀ x ∈ ss, x.length = 1) ⟨[], a1, b1, g2.own nD, ln nD hp2, ha1, hb1, Ow.mk1 g2 nD, rfl, fun x z => nomatch z⟩ ?_ ?_
    · rintro i G hi ⟨ss, u, z, g, hpG, hu, hz, w, hl, h1⟩
      refine ⟨rfl, yes ⟨_, rfl, _, rfl, p, u, z, 26, rfl, hpG, hu, hz, by decide, by decide, fun d2 a2 b2 d20 d21 ha2 hb2 => ?_⟩⟩
      obtain ⟨g3, k3⟩ := g.drw (a := a2) (b := b2) np hp1
      have w3 := w.call k3 pD
      have hp3 : (upd G p (PurseO a2 b2)) p = some (PurseO a2 b2) := upd_same
      obtain ⟨c, hc⟩ : ∃ c, ("abcdefghijklmnopqrstuvwxyz" : Str).cps.toList[d2.toNat]? = some c := by
        refine ⟨_, List.getElem?_eq_getElem ?_⟩
        have e : ("abcdefghijklmnopqrstuvwxyz" : Str).cps.toList.length = 26 := by decide +kernel
        omega
      refine ⟨_, _, c, rfl, rfl, by decide +kernel, at_ofG d20 hc, ?_⟩
      refine ⟨_, w3.h, by rw [List.length_map]; exact lt_size (by omega), ss ++ [⟨#[c]⟩], a2, b2, g3.set w3.f (.inl w3.n), by rw [upd_ne (Ne.symm pD)]; exact hp3, ha2, hb2, ?_, by rw [List.length_append, hl]; rfl, fun x m => ?_⟩
      · rw [List.map_append]; exact w3.set
      · rcases List.mem_append.mp m with m | m
        · exact h1 x m
        · rw [List.mem_singleton.mp m]; rfl
    rintro G ⟨ss, u, z, g, hpG, hu, hz, w, hl, h1⟩
    refine ⟨_, D, ss, rfl, rfl, .inl (SqL.of w.h), ?_, ?_⟩
    · have e : ∀ ss : List Str, (∀ x ∈ ss, x.length = 1) → (ss.map (·.length)).sum = ss.length := fun ss => by
        induction ss with
        | nil => intro _; rfl
        | cons x l ih =>
          intro h
          rw [List.map_cons, List.sum_cons, h x (List.mem_cons_self ..), ih fun y m => h y (List.mem_cons_of_mem _ m), List.length_cons]
          omega
      rw [e ss h1]
      show ss.length + ss.length * 0 ≤ _
      omega
    generalize Txt.join _ ss = tx
    have x0 : ExA t H [] [] := All2.nil
    have q0 := hpG
    refine fun e1 m1 => ?_
    obtain ⟨y1, x1, s1⟩ := x0.add (k := 0) g m1
    have q1 := ln (u := Kp e1 (.ref (cls t 0)) none) m1 q0
    refine fun e2 m2 => ?_
    obtain ⟨y2, x2, s2⟩ := x1.add (k := 1) y1 m2
    have q2 := ln (u := Kp e2 (.ref (cls t 1)) none) m2 q1
    refine fun e3 m3 => ?_
    obtain ⟨y3, x3, s3⟩ := x2.add (k := 2) y2 m3
    have q3 := ln (u := Kp e3 (.ref (cls t 2)) none) m3 q2
    refine fun e4 m4 => ?_
    obtain ⟨y4, x4, s4⟩ := x3.add (k := 3) y3 m4
    have q4 := ln (u := Kp e4 (.ref (cls t 3)) none) m4 q3
    refine fun e5 m5 => ?_
    obtain ⟨y5, x5, s5⟩ := x4.add (k := 4) y4 m5
    have q5 := ln (u := Kp e5 (.ref (cls t 4)) none) m5 q4
    refine fun e6 m6 => ?_
    obtain ⟨y6, x6, s6⟩ := x5.add (k := 5) y5 m6
    have q6 := ln (u := Kp e6 (.ref (cls t 5)) none) m6 q5
    refine fun e7 m7 => ?_
    obtain ⟨y7, x7, s7⟩ := x6.add (k := 6) y6 m7
    have q7 := ln (u := Kp e7 (.ref (cls t 6)) none) m7 q6
    refine fun e8 m8 => ?_
    obtain ⟨y8, x8, s8⟩ := x7.add (k := 7) y7 m8
    have q8 := ln (u := Kp e8 (.ref (cls t 7)) none) m8 q7
    refine fun e9 m9 => ?_
    obtain ⟨y9, x9, s9⟩ := x8.add (k := 8) y8 m9
    have q9 := ln (u := Kp e9 (.ref (cls t 8)) none) m9 q8
    refine fun e10 m10 => ?_
    obtain ⟨y10, x10, s10⟩ := x9.add (k := 9) y9 m10
    have q10 := ln (u := Kp e10 (.ref (cls t 9)) none) m10 q9
    refine ⟨le_size (by show 10 ≤ 1000000; decide), fun L1 nL1 => ?_⟩
    have yL := y10.own (o := .lst [.ref e1, .ref e2, .ref e3, .ref e4, .ref e5, .ref e6, .ref e7, .ref e8, .ref e9, .ref e10]) nL1
    have wL : Ow H1 _ (upd _ L1 (.lst [.ref e1, .ref e2, .ref e3, .ref e4, .ref e5, .ref e6, .ref e7, .ref e8, .ref e9, .ref e10])) L1 (.lst [.ref e1, .ref e2, .ref e3, .ref e4, .ref e5, .ref e6, .ref e7, .ref e8, .ref e9, .ref e10]) := Ow.mk1 y10 nL1
    have qL := ln (u := .lst [.ref e1, .ref e2, .ref e3, .ref e4, .ref e5, .ref e6, .ref e7, .ref e8, .ref e9, .ref e10]) nL1 q10
    refine ⟨_, rfl, .inl ⟨rfl, _, SqL.of wL.h⟩, fun e11 m11 => ?_⟩
    obtain ⟨y11, x11, s11⟩ := x10.add (k := 10) yL m11
    have wM := wL.new (u := Kp e11 (.ref (cls t 10)) none) m11
    have q11 := ln (u := Kp e11 (.ref (cls t 10)) none) m11 qL
    refine ⟨L1, _, _, rfl, rfl, wM.h, lt_size (by show 10 ≤ 1000000; decide), ?_⟩
    have yM := y11.set (o := .lst ([.ref e1, .ref e2, .ref e3, .ref e4, .ref e5, .ref e6, .ref e7, .ref e8, .ref e9, .ref e10] ++ [.ref e11])) wM.f (.inl wM.n)
    have wN := wM.set (u := .lst ([.ref e1, .ref e2, .ref e3, .ref e4, .ref e5, .ref e6, .ref e7, .ref e8, .ref e9, .ref e10] ++ [.ref e11]))
    have pL1 : p ≠ L1 := ne_of_none q10 nL1
    have qM := (upd_ne (o := .lst ([.ref e1, .ref e2, .ref e3, .ref e4, .ref e5, .ref e6, .ref e7, .ref e8, .ref e9, .ref e10] ++ [.ref e11])) pL1).trans q11
    obtain ⟨FN, yN, hL1, sN⟩ := yM.frzE wN
    have xN := x11.up sN
    have x00 : ExA t FN [] [] := All2.nil
    refine ⟨_, rfl, fun e20 m20 => ?_⟩
    obtain ⟨y20, x20, s20⟩ := x00.add (k := 0) yN m20
    have z20 := xN.up s20
    have q20 := ln (u := Kp e20 (.ref (cls t 0)) none) m20 qM
    have hl20 := s20 _ _ hL1
    refine ⟨_, rfl, fun e21 m21 => ?_⟩
    obtain ⟨y21, x21, s21⟩ := x20.add (k := 1) y20 m21
    have z21 := z20.up s21
    have q21 := ln (u := Kp e21 (.ref (cls t 1)) none) m21 q20
    have hl21 := s21 _ _ hl20
    refine ⟨_, rfl, fun e22 m22 => ?_⟩
    obtain ⟨y22, x22, s22⟩ := x21.add (k := 2) y21 m22
    have z22 := z21.up s22
    have q22 := ln (u := Kp e22 (.ref (cls t 2)) none) m22 q21
    have hl22 := s22 _ _ hl21
    refine ⟨_, rfl, fun e23 m23 => ?_⟩
    obtain ⟨y23, x23, s23⟩ := x22.add (k := 3) y22 m23
    have z23 := z22.up s23
    have q23 := ln (u := Kp e23 (.ref (cls t 3)) none) m23 q22
    have hl23 := s23 _ _ hl22
    refine ⟨_, rfl, fun e24 m24 => ?_⟩
    obtain ⟨y24, x24, s24⟩ := x23.add (k := 4) y23 m24
    have z24 := z23.up s24
    have q24 := ln (u := Kp e24 (.ref (cls t 4)) none) m24 q23
    have hl24 := s24 _ _ hl23
    refine ⟨_, rfl, fun e25 m25 => ?_⟩
    obtain ⟨y25, x25, s25⟩ := x24.add (k := 5) y24 m25
    have z25 := z24.up s25
    have q25 := ln (u := Kp e25 (.ref (cls t 5)) none) m25 q24
    have hl25 := s25 _ _ hl24
    refine ⟨_, rfl, fun e26 m26 => ?_⟩
    obtain ⟨y26, x26, s26⟩ := x25.add (k := 6) y25 m26
    have z26 := z25.up s26
    have q26 := ln (u := Kp e26 (.ref (cls t 6)) none) m26 q25
    have hl26 := s26 _ _ hl25
    refine ⟨le_size (by show 7 ≤ 1000000; decide), fun L2 nL2 => ?_⟩
    have yO := y26.own (o := .lst [.ref e20, .ref e21, .ref e22, .ref e23, .ref e24, .ref e25, .ref e26]) nL2
    have wO : Ow H1 _ (upd _ L2 (.lst [.ref e20, .ref e21, .ref e22, .ref e23, .ref e24, .ref e25, .ref e26])) L2 (.lst [.ref e20, .ref e21, .ref e22, .ref e23, .ref e24, .ref e25, .ref e26]) := Ow.mk1 y26 nL2
    have qO := ln (u := .lst [.ref e20, .ref e21, .ref e22, .ref e23, .ref e24, .ref e25, .ref e26]) nL2 q26
    refine ⟨_, rfl, ?_⟩
    refine ⟨_, rfl, fun e27 m27 => ?_⟩
    obtain ⟨y27, x27, s27⟩ := x26.add (k := 7) yO m27
    have z27 := z26.up s27
    have q27 := ln (u := Kp e27 (.ref (cls t 7)) none) m27 qO
    have hl27 := s27 _ _ hl26
    have w27 := wO.new (u := Kp e27 (.ref (cls t 7)) none) m27
    refine ⟨_, rfl, fun e28 m28 => ?_⟩
    obtain ⟨y28, x28, s28⟩ := x27.add (k := 8) y27 m28
    have z28 := z27.up s28
    have q28 := ln (u := Kp e28 (.ref (cls t 8)) none) m28 q27
    have hl28 := s28 _ _ hl27
    have w28 := w27.new (u := Kp e28 (.ref (cls t 8)) none) m28
    refine ⟨_, rfl, fun e29 m29 => ?_⟩
    obtain ⟨y29, x29, s29⟩ := x28.add (k := 9) y28 m29
    have z29 := z28.up s29
    have q29 := ln (u := Kp e29 (.ref (cls t 9)) none) m29 q28
    have hl29 := s29 _ _ hl28
    have w29 := w28.new (u := Kp e29 (.ref (cls t 9)) none) m29
    refine ⟨_, rfl, fun e30 m30 => ?_⟩
    obtain ⟨y30, x30, s30⟩ := x29.add (k := 10) y29 m30
    have z30 := z29.up s30
    have q30 := ln (u := Kp e30 (.ref (cls t 10)) none) m30 q29
    have hl30 := s30 _ _ hl29
    have w30 := w29.new (u := Kp e30 (.ref (cls t 10)) none) m30
    refine ⟨le_size (by show 4 ≤ 1000000; decide), fun L3 nL3 => ⟨L2, L3, _, _, rfl, rfl, ln nL3 w30.h, upd_same, le_size (by show 7 + 4 ≤ 1000000; decide), fun L4 nL4 => ?_⟩⟩
    obtain ⟨FP, yP, hT, sP⟩ := (y30.own (o := .lst [.ref e27, .ref e28, .ref e29, .ref e30]) nL3).newE (o := .lst ([.ref e20, .ref e21, .ref e22, .ref e23, .ref e24, .ref e25, .ref e26] ++ [.ref e27, .ref e28, .ref e29, .ref e30])) nL4
    have qP := ln (u := .lst ([.ref e20, .ref e21, .ref e22, .ref e23, .ref e24, .ref e25, .ref e26] ++ [.ref e27, .ref e28, .ref e29, .ref e30])) nL4 (ln (u := .lst [.ref e27, .ref e28, .ref e29, .ref e30]) nL3 q30)
    have bare := z30.up sP
    have told := x30.up sP
    have hB := sP _ _ hl30
    refine ⟨_, rfl, _, rfl, two_le, fun LL nLL => ?_⟩
    have qQ := ln (u := .lst [.ref L1, .ref L4]) nLL qP
    obtain ⟨FQ, yQ, hLL, sQ⟩ := yP.newE (o := .lst [.ref L1, .ref L4]) nLL
    have both : ∀ y ∈ [V.ref L1, V.ref L4], ∃ l vs, y = .ref l ∧ FQ l = some (.lst vs) ∧ ExA t FQ vs (List.range 11) := fun y m => by
      rcases List.mem_cons.mp m with rfl | m
      · exact ⟨L1, _, rfl, sQ _ _ hB, bare.up sQ⟩
      · rw [List.mem_singleton.mp m]
        exact ⟨L4, _, rfl, sQ _ _ hT, told.up sQ⟩
    refine ⟨LL, rfl, ⟨_, SqL.of (yQ.fh _ _ hLL)⟩, for_list (K := K) (a := LL) (xs := [.ref L1, .ref L4]) (fun i σ G => ∃ (F : Hp) (x2 v4 v7 v8 v9 : Option V) (tx : V), σ = [some (.ref a), some (.ref p), x2, some tx, v4, some (.ref L1), some (.ref L4), v7, v8, v9, none, none, none] ∧ Gr (muP p) H H1 F G ∧ Same FQ F ∧ G p = some (PurseO u z)) ⟨FQ, _, _, _, _, _, _, rfl, yQ, Same.refl FQ, qQ⟩ (fun i σ G _ ⟨F, _, _, _, _, _, _, _, g, s, _⟩ => SqL.of (g.fh _ _ (s _ _ hLL))) ?_ ?_⟩
    · rintro i y σ G hi ⟨F, x2, v4, v7, v8, v9, tx, rfl, g, sQF, qG⟩
      obtain ⟨l, vs, rfl, hl, xs⟩ := both y (List.mem_of_getElem? hi)
      have hl := sQF _ _ hl
      have xs := xs.up sQF
      refine ⟨_, rfl, l, vs, rfl, SqL.of (g.fh _ _ hl), for_it walk_enum (fun j σ G => ∃ (F1 : Hp) (v4 v8 v9 : Option V), σ = [some (.ref a), some (.ref p), x2, some tx, v4, some (.ref L1), some (.ref L4), some (.ref l), v8, v9, none, none, none] ∧ Gr (muP p) H H1 F1 G ∧ Same F F1 ∧ G p = some (PurseO u z)) ⟨F, v4, v8, v9, rfl, g, Same.refl F, qG⟩ (fun j σ G _ ⟨F1, _, _, _, _, g, s, _⟩ => SqL.of (g.fh _ _ (s _ _ hl))) ?_ ?_⟩
      · rintro j pr σ G G' hj ⟨F1, v4, v8, v9, rfl, g, s, qG⟩ ⟨T, x, y, rfl, nT, rfl, ex, ey⟩
        have ex : x = .int (j : Nat) := (Option.some.inj ex).symm
        subst ex
        obtain ⟨k, hk, e, rfl, he⟩ := xs.get' ey
        have ek : k = j := by
          have := (List.getElem?_eq_some_iff.mp hk)
          obtain ⟨h1, h2⟩ := this
          rw [List.getElem_range] at h2
          exact h2.symm
        subst ek
        have gT := g.own (o := .tup [.int (k : Nat), .ref e]) nT
        have hT : (upd G T (.tup [.int (k : Nat), .ref e])) T = some (.tup [.int (k : Nat), .ref e]) := upd_same
        have qG := ln (u := .tup [.int (k : Nat), .ref e]) nT qG
        generalize upd G T (.tup [.int (k : Nat), .ref e]) = G1 at gT hT qG
        refine ⟨T, _, rfl, SqT.of hT, rfl, _, _, rfl, _, _, rfl, rfl, ?_⟩
        refine ⟨11, rfl, by decide, by decide, fun D nD => lc_range (lo := 0) (n := 11) (fun i G => Gr mu0 F1 G1 F1 G ∧ Ow G1 F1 G D (.lst (((List.range i).map fun z => decide (z = k)).map V.bl))) ⟨(Gr.refl gT.fh).own nD, Ow.mk1 (Gr.refl (mu := mu0) gT.fh) nD⟩ ?_ ?_⟩
        · rintro i G hi ⟨g, w⟩
          refine ⟨rfl, yes ⟨_, rfl, _, rfl, rfl, _, w.h, by rw [List.length_map, List.length_map, List.length_range]; exact lt_size (by omega), ?_⟩⟩
          rw [List.range_succ, List.map_append, List.map_append, show V.bl (decide (V.int (0 + (i : Int)) = V.int (k : Nat))) = V.bl (decide (i = k)) from congrArg V.bl (decide_eq_decide.mpr ⟨fun z => by have := V.int.inj z; omega, fun z => by rw [z]; congr 1; omega⟩)]
          exact ⟨g.set w.f (.inl w.n), w.set⟩
        · rintro G2 ⟨g2, w2⟩
          have t2 := gT.trans g2.of0
          refine ⟨_, rfl, F1, e, k, rfl, t2.fh, t2.fh _ _ (s _ _ he), fun F3 G3 l3 g3 hl3 => ⟨_, rfl, ?_⟩⟩
          refine ne_dat (a := (List.range 11).map fun z => decide (z = k)) (b := (List.range 11).map fun z => decide (z = k)) ⟨l3, _, rfl, g3.fh _ _ hl3, all_bools _⟩ ⟨D, _, rfl, (w2.call g3 fun z => z).h, all_bools _⟩ ⟨_, rfl, ifF (by rw [decide_eq_true rfl]; rfl) ?_⟩
          have t3 := t2.trans g3.of0
          have he3 := g3.fh _ _ (g3.ff _ _ (s _ _ he))
          refine ⟨_, rfl, rIsK.mk he3 (ecs t k) (fun u r => r) (ki_MillError t k) ⟨_, rfl, ifF rfl ?_⟩⟩
          refine ⟨_, rfl, rIsK.mk he3 (ecs t k) (fun u r => r) (ki_ValueError t k) ⟨_, rfl, ifF rfl ?_⟩⟩
          exact ⟨F3, _, _, _, rfl, t3, fun c o z => g3.ff _ _ (s _ _ z), g3.fr _ _ (g2.fr _ _ qG (fun z => z)) (fun z => z)⟩
      · rintro σ G1 ⟨F1, v4, v8, v9, rfl, g, s, qG⟩
        exact ⟨F1, _, _, _, _, _, _, rfl, g, (fun c o z => s _ _ (sQF _ _ z)), qG⟩
    rintro σ G1 ⟨F, x2, v4, v7, v8, v9, tx, rfl, g, _, qR⟩
    have yR := g
    -- the run of what is no machine
    refine fun ec mc => ?_
    have k1 := (Gr.refl (mu := mu0) g.fh).own (o := Kp ec (.ref t.C_MillError) none) mc
    have qc := ln (u := Kp ec (.ref t.C_MillError) none) mc qR
    refine ⟨nil_le, fun t1 n1 => ⟨nil_le, fun t2 n2 => ⟨two_le, fun l1 n3 => ⟨one_le, fun l2 n4 => ⟨l2, 5, _, rfl, rfl, upd_same, by decide, by decide, le_size (by show 1 * 5 ≤ 1000000; decide), fun l3 n5 => ?_⟩⟩⟩⟩⟩
    have k2 := k1.new (o := .tup []) n1
    have k3 := k2.new (o := .tup []) n2
    have k4 := k3.new (o := .lst [.ref t1, .ref t2]) n3
    have k5 := k4.own (o := .lst [.ref l1]) n4
    have k6 := k5.new (o := .lst [.ref l1, .ref l1, .ref l1, .ref l1, .ref l1]) n5
    have s2 := sm_new (o := .tup []) (Same.refl F) (k1.fh.free n1)
    have i1 : Is (upd F t1 (.tup [])) (.ref t1) (⟨[]⟩ : GE) := ⟨t1, [], rfl, upd_same, All2.nil⟩
    have s3 := sm_new (o := .tup []) (Same.refl _) (k2.fh.free n2)
    have i2 : Is (upd (upd F t1 (.tup [])) t2 (.tup [])) (.ref t2) (⟨[]⟩ : GE) := ⟨t2, [], rfl, upd_same, All2.nil⟩
    have s4 := sm_new (o := .lst [.ref t1, .ref t2]) (Same.refl _) (k3.fh.free n3)
    have i3 : Is (upd (upd (upd F t1 (.tup [])) t2 (.tup [])) l1 (.lst [.ref t1, .ref t2])) (.ref l1) ([⟨[]⟩, ⟨[]⟩] : List GE) := ⟨l1, _, rfl, upd_same, All2.cons (Is.up (Is.up i1 s3) s4) (All2.one (Is.up i2 s4))⟩
    have s6 := sm_new (o := .lst [.ref l1, .ref l1, .ref l1, .ref l1, .ref l1]) (Same.refl _) (k5.fh.free n5)
    have i6 := Is.up i3 s6
    have q6 := ln (u := .lst [.ref l1, .ref l1, .ref l1, .ref l1, .ref l1]) n5 (ln (u := .lst [.ref l1]) n4 (ln (u := .lst [.ref t1, .ref t2]) n3 (ln (u := .tup []) n2 (ln (u := .tup []) n1 qc))))
    have y6 := yR.trans k6.of0
    refine ⟨_, rfl, p, u, z, 9, rfl, q6, hu, hz, by decide, by decide, fun d9 u9 z9 d90 d91 hu9 hz9 => ?_⟩
    obtain ⟨y7, k7⟩ := y6.drw (a := u9) (b := z9) np hp1
    refine ⟨_, .ref l3, _, [[⟨[]⟩, ⟨[]⟩], [⟨[]⟩, ⟨[]⟩], [⟨[]⟩, ⟨[]⟩], [⟨[]⟩, ⟨[]⟩], [⟨[]⟩, ⟨[]⟩]], rfl, y7.fh, ⟨l3, _, rfl, upd_same, All2.cons i6 (All2.cons i6 (All2.cons i6 (All2.cons i6 (All2.one i6))))⟩, rfl, fun G8 g8 => ⟨em_NoMachine_MillError t, fun ek mk => ⟨_, rfl, ?_⟩⟩⟩
    have y8 := (y7.trans g8.of0).own (o := Kp ek (.ref t.C_NoMachine) none) mk
    have hk : (upd G8 ek (Kp ek (.ref t.C_NoMachine) none)) ek = some (Kp ek (.ref (cls t 3)) none) := upd_same
    refine ⟨_, rfl, _, ek, 3, rfl, y8.fh, hk, fun F9 G9 l9 g9 hl9 => ?_⟩
    have y9 := y8.trans g9.of0
    refine ⟨11, rfl, by decide, by decide, fun D nD => lc_range (lo := 0) (n := 11) (fun i G => Gr mu0 F9 G9 F9 G ∧ Ow G9 F9 G D (.lst (((List.range i).map fun z => decide (z = 3)).map V.bl))) ⟨(Gr.refl y9.fh).own nD, Ow.mk1 (Gr.refl (mu := mu0) y9.fh) nD⟩ ?_ ?_⟩
    · rintro i G hi ⟨g, w⟩
      refine ⟨rfl, yes ⟨_, rfl, rfl, _, w.h, by rw [List.length_map, List.length_map, List.length_range]; exact lt_size (by omega), ?_⟩⟩
      rw [List.range_succ, List.map_append, List.map_append, show V.bl (decide (V.int (0 + (i : Int)) = V.int 3)) = V.bl (decide (i = 3)) from congrArg V.bl (decide_eq_decide.mpr ⟨fun z => by have := V.int.inj z; omega, fun z => by rw [z]; rfl⟩)]
      exact ⟨g.set w.f (.inl w.n), w.set⟩
    rintro GA ⟨gA, wA⟩
    have yA := y9.trans gA.of0
    refine ne_dat (a := (List.range 11).map fun z => decide (z = 3)) (b := (List.range 11).map fun z => decide (z = 3)) ⟨l9, _, rfl, gA.fh _ _ hl9, all_bools _⟩ ⟨D, _, rfl, wA.h, all_bools _⟩ ⟨_, rfl, ifF (by rw [decide_eq_true rfl]; rfl) ?_⟩
    refine fun r1 u1 => ⟨_, rfl, fun r2 u2 => ⟨two_le, fun LM nLM => ?_⟩⟩
    obtain ⟨FB1, b1, hr1, c1⟩ := yA.newE (o := Kp r1 (.ref (cls t 11)) none) u1
    obtain ⟨FB2, b2, hr2, c2⟩ := b1.newE (o := Kp r2 (.ref (cls t 11)) none) u2
    obtain ⟨FM, b3, hLM, c3⟩ := b2.newE (o := .lst [.ref r1, .ref r2]) nLM
    have hr1 := c3 _ _ (c2 _ _ hr1)
    have hr2 := c3 _ _ hr2
    refine ⟨LM, rfl, ⟨_, SqL.of (b3.fh _ _ hLM)⟩, for_list (K := K) (a := LM) (xs := [.ref r1, .ref r2]) (fun i σ G => ∃ (F : Hp) (x2 v4 v7 v8 v9 v11 : Option V) (tx : V), σ = [some (.ref a), some (.ref p), x2, some tx, v4, some (.ref L1), some (.ref L4), v7, v8, v9, none, v11, none] ∧ Gr (muP p) H H1 F G ∧ Same FM F) ⟨FM, _, _, _, _, _, _, _, rfl, b3, Same.refl FM⟩ (fun i σ G _ ⟨F, _, _, _, _, _, _, _, _, g, s⟩ => SqL.of (g.fh _ _ (s _ _ hLM))) ?_ ?_⟩
    · rintro i y σ G hi ⟨F, x2, v4, v7, v8, v9, v11, tx, rfl, g, sM⟩
      obtain ⟨e, rfl, he⟩ : ∃ e, y = .ref e ∧ F e = some (Kp e (.ref (cls t 11)) none) := by
        rcases List.mem_cons.mp (List.mem_of_getElem? hi) with rfl | m
        · exact ⟨r1, rfl, sM _ _ hr1⟩
        · rw [List.mem_singleton.mp m]; exact ⟨r2, rfl, sM _ _ hr2⟩
      refine ⟨_, rfl, rIsK.mk (g.fh _ _ he) (ecs t 11) (fun u r => r) (ki_ValueError t 11) ⟨_, rfl, ifF rfl ?_⟩⟩
      refine ⟨_, rfl, F, e, 11, rfl, g.fh, g.fh _ _ he, fun F3 G3 l3 g3 hl3 => ⟨l3, _, rfl, .inl (SqL.of (g3.fh _ _ hl3)), rfl, rfl, _, rfl, ifF rfl ?_⟩⟩
      exact ⟨F3, _, _, _, _, _, _, _, rfl, g.trans g3.of0, fun c o z => g3.ff _ _ (sM _ _ z)⟩
    · rintro σ G ⟨F, x2, v4, v7, v8, v9, v11, tx, rfl, g, _⟩
      exact q _

end
def all_tx {K : PySem.W.Frag} {h : Heap} {mg : Str → Option Value} {a_L_mixed a_L_purse a_is_entry a_is_machine a_must_machine a_run a_L_kinds a_L_draw a_law C_NoMachine C_Full C_NoDeed C_NoLine C_NoName C_NoPaper C_NoSize C_NoSuch C_NoText C_NoWidth C_Twice C_MillError : Addr} {od_L_mixed an_L_mixed od_L_purse an_L_purse od_is_entry an_is_entry od_is_machine an_is_machine od_must_machine an_must_machine od_run an_run od_L_kinds an_L_kinds od_L_draw an_L_draw od_law an_law : Option Addr} {sl_L_mixed sl_L_purse sl_is_entry sl_is_machine sl_must_machine sl_run sl_L_kinds sl_L_draw sl_law : Array (Option Value)} {oc_L_mixed kV_L_mixed dc_L_mixed pm_L_mixed cd_L_mixed ct_L_mixed oc_L_purse kV_L_purse dc_L_purse pm_L_purse cd_L_purse ct_L_purse oc_is_entry kV_is_entry dc_is_entry pm_is_entry cd_is_entry ct_is_entry oc_is_machine kV_is_machine dc_is_machine pm_is_machine cd_is_machine ct_is_machine oc_must_machine kV_must_machine dc_must_machine pm_must_machine cd_must_machine ct_must_machine oc_run kV_run dc_run pm_run cd_run ct_run oc_L_kinds kV_L_kinds dc_L_kinds pm_L_kinds cd_L_kinds ct_L_kinds oc_L_draw kV_L_draw dc_L_draw pm_L_draw cd_L_draw ct_L_draw oc_law kV_law dc_law pm_law cd_law ct_law : Value} {tk_MOST_ROWS tk_MOST_SIGNS : Tok} (X : K.In h) (G : h.Ns mainGlobals mg)
    (n_NoMachine : PySem.W.nsIn K mainGlobals "NoMachine" = some (some (.ref C_NoMachine)))
    (n_Full : PySem.W.nsIn K mainGlobals "Full" = some (some (.ref C_Full)))
    (n_NoDeed : PySem.W.nsIn K mainGlobals "NoDeed" = some (some (.ref C_NoDeed)))
    (n_NoLine : PySem.W.nsIn K mainGlobals "NoLine" = some (some (.ref C_NoLine)))
    (n_NoName : PySem.W.nsIn K mainGlobals "NoName" = some (some (.ref C_NoName)))
    (n_NoPaper : PySem.W.nsIn K mainGlobals "NoPaper" = some (some (.ref C_NoPaper)))
    (n_NoSize : PySem.W.nsIn K mainGlobals "NoSize" = some (some (.ref C_NoSize)))
    (n_NoSuch : PySem.W.nsIn K mainGlobals "NoSuch" = some (some (.ref C_NoSuch)))
    (n_NoText : PySem.W.nsIn K mainGlobals "NoText" = some (some (.ref C_NoText)))
    (n_NoWidth : PySem.W.nsIn K mainGlobals "NoWidth" = some (some (.ref C_NoWidth)))
    (n_Twice : PySem.W.nsIn K mainGlobals "Twice" = some (some (.ref C_Twice)))
    (n_MillError : PySem.W.nsIn K mainGlobals "MillError" = some (some (.ref C_MillError)))
    (n_L_mixed : PySem.W.nsIn K mainGlobals "_law_mixed" = some (some (.ref a_L_mixed)))
    (l_L_mixed : K.lookup a_L_mixed = some ⟨oc_L_mixed, od_L_mixed, .func (PySem.W.fnOf "_law_mixed" "_law_mixed" (defArgs s_L_mixed) (defBody s_L_mixed) (defScope s_L_mixed) .none kV_L_mixed dc_L_mixed pm_L_mixed an_L_mixed cd_L_mixed ct_L_mixed), sl_L_mixed⟩)
    (c_L_mixed : PySem.W.codeIn K cd_L_mixed "_law_mixed" = true)
    (k_L_mixed : PySem.W.keepIn K (.ref a_L_mixed) = true)
    (n_L_purse : PySem.W.nsIn K mainGlobals "_law_purse" = some (some (.ref a_L_purse)))
    (l_L_purse : K.lookup a_L_purse = some ⟨oc_L_purse, od_L_purse, .func (PySem.W.fnOf "_law_purse" "_law_purse" (defArgs s_L_purse) (defBody s_L_purse) (defScope s_L_purse) .none kV_L_purse dc_L_purse pm_L_purse an_L_purse cd_L_purse ct_L_purse), sl_L_purse⟩)
    (c_L_purse : PySem.W.codeIn K cd_L_purse "_law_purse" = true)
    (k_L_purse : PySem.W.keepIn K (.ref a_L_purse) = true)
    (n_is_entry : PySem.W.nsIn K mainGlobals "is_entry" = some (some (.ref a_is_entry)))
    (l_is_entry : K.lookup a_is_entry = some ⟨oc_is_entry, od_is_entry, .func (PySem.W.fnOf "is_entry" "is_entry" (defArgs s_is_entry) (defBody s_is_entry) (defScope s_is_entry) .none kV_is_entry dc_is_entry pm_is_entry an_is_entry cd_is_entry ct_is_entry), sl_is_entry⟩)
    (c_is_entry : PySem.W.codeIn K cd_is_entry "is_entry" = true)
    (k_is_entry : PySem.W.keepIn K (.ref a_is_entry) = true)
    (n_is_machine : PySem.W.nsIn K mainGlobals "is_machine" = some (some (.ref a_is_machine)))
    (l_is_machine : K.lookup a_is_machine = some ⟨oc_is_machine, od_is_machine, .func (PySem.W.fnOf "is_machine" "is_machine" (defArgs s_is_machine) (defBody s_is_machine) (defScope s_is_machine) .none kV_is_machine dc_is_machine pm_is_machine an_is_machine cd_is_machine ct_is_machine), sl_is_machine⟩)
    (c_is_machine : PySem.W.codeIn K cd_is_machine "is_machine" = true)
    (k_is_machine : PySem.W.keepIn K (.ref a_is_machine) = true)
    (n_must_machine : PySem.W.nsIn K mainGlobals "must_machine" = some (some (.ref a_must_machine)))
    (l_must_machine : K.lookup a_must_machine = some ⟨oc_must_machine, od_must_machine, .func (PySem.W.fnOf "must_machine" "must_machine" (defArgs s_must_machine) (defBody s_must_machine) (defScope s_must_machine) .none kV_must_machine dc_must_machine pm_must_machine an_must_machine cd_must_machine ct_must_machine), sl_must_machine⟩)
    (c_must_machine : PySem.W.codeIn K cd_must_machine "must_machine" = true)
    (k_must_machine : PySem.W.keepIn K (.ref a_must_machine) = true)
    (n_run : PySem.W.nsIn K mainGlobals "run" = some (some (.ref a_run)))
    (l_run : K.lookup a_run = some ⟨oc_run, od_run, .func (PySem.W.fnOf "run" "run" (defArgs s_run) (defBody s_run) (defScope s_run) .none kV_run dc_run pm_run an_run cd_run ct_run), sl_run⟩)
    (c_run : PySem.W.codeIn K cd_run "run" = true)
    (k_run : PySem.W.keepIn K (.ref a_run) = true)
    (n_L_kinds : PySem.W.nsIn K mainGlobals "_law_kinds" = some (some (.ref a_L_kinds)))
    (l_L_kinds : K.lookup a_L_kinds = some ⟨oc_L_kinds, od_L_kinds, .func (PySem.W.fnOf "_law_kinds" "_law_kinds" (defArgs s_L_kinds) (defBody s_L_kinds) (defScope s_L_kinds) .none kV_L_kinds dc_L_kinds pm_L_kinds an_L_kinds cd_L_kinds ct_L_kinds), sl_L_kinds⟩)
    (c_L_kinds : PySem.W.codeIn K cd_L_kinds "_law_kinds" = true)
    (k_L_kinds : PySem.W.keepIn K (.ref a_L_kinds) = true)
    (n_L_draw : PySem.W.nsIn K mainGlobals "_law_draw" = some (some (.ref a_L_draw)))
    (l_L_draw : K.lookup a_L_draw = some ⟨oc_L_draw, od_L_draw, .func (PySem.W.fnOf "_law_draw" "_law_draw" (defArgs s_L_draw) (defBody s_L_draw) (defScope s_L_draw) .none kV_L_draw dc_L_draw pm_L_draw an_L_draw cd_L_draw ct_L_draw), sl_L_draw⟩)
    (c_L_draw : PySem.W.codeIn K cd_L_draw "_law_draw" = true)
    (k_L_draw : PySem.W.keepIn K (.ref a_L_draw) = true)
    (n_law : PySem.W.nsIn K mainGlobals "law" = some (some (.ref a_law)))
    (l_law : K.lookup a_law = some ⟨oc_law, od_law, .func (PySem.W.fnOf "law" "law" (defArgs s_law) (defBody s_law) (defScope s_law) .none kV_law dc_law pm_law an_law cd_law ct_law), sl_law⟩)
    (c_law : PySem.W.codeIn K cd_law "law" = true)
    (k_law : PySem.W.keepIn K (.ref a_law) = true)
    (n_MOST_ROWS : PySem.W.nsIn K mainGlobals "MOST_ROWS" = some (some (.int 4 tk_MOST_ROWS)))
    (n_MOST_SIGNS : PySem.W.nsIn K mainGlobals "MOST_SIGNS" = some (some (.int 4 tk_MOST_SIGNS)))
    (z_range : PySem.W.nsIn K mainGlobals "range" = some none)
    (z_len : PySem.W.nsIn K mainGlobals "len" = some none)
    (z_abs : PySem.W.nsIn K mainGlobals "abs" = some none)
    (z_all : PySem.W.nsIn K mainGlobals "all" = some none)
    (z_isinstance : PySem.W.nsIn K mainGlobals "isinstance" = some none)
    (z_enumerate : PySem.W.nsIn K mainGlobals "enumerate" = some none)
    (z_ValueError : PySem.W.nsIn K mainGlobals "ValueError" = some none)
    (fa_x_Full : PySem.W.excIn K C_Full [.type "ValueError", .type "Exception", .type "BaseException", .type "object"] "ValueError.__new__" = true)
    (fa_x_NoDeed : PySem.W.excIn K C_NoDeed [.type "ValueError", .type "Exception", .type "BaseException", .type "object"] "ValueError.__new__" = true)
    (fa_x_NoLine : PySem.W.excIn K C_NoLine [.type "ValueError", .type "Exception", .type "BaseException", .type "object"] "ValueError.__new__" = true)
    (fa_x_NoMachine : PySem.W.excIn K C_NoMachine [.type "ValueError", .type "Exception", .type "BaseException", .type "object"] "ValueError.__new__" = true)
    (fa_x_NoName : PySem.W.excIn K C_NoName [.type "ValueError", .type "Exception", .type "BaseException", .type "object"] "ValueError.__new__" = true)
    (fa_x_NoPaper : PySem.W.excIn K C_NoPaper [.type "ValueError", .type "Exception", .type "BaseException", .type "object"] "ValueError.__new__" = true)
    (fa_x_NoSize : PySem.W.excIn K C_NoSize [.type "ValueError", .type "Exception", .type "BaseException", .type "object"] "ValueError.__new__" = true)
    (fa_x_NoSuch : PySem.W.excIn K C_NoSuch [.type "ValueError", .type "Exception", .type "BaseException", .type "object"] "ValueError.__new__" = true)
    (fa_x_NoText : PySem.W.excIn K C_NoText [.type "ValueError", .type "Exception", .type "BaseException", .type "object"] "ValueError.__new__" = true)
    (fa_x_NoWidth : PySem.W.excIn K C_NoWidth [.type "ValueError", .type "Exception", .type "BaseException", .type "object"] "ValueError.__new__" = true)
    (fa_x_Twice : PySem.W.excIn K C_Twice [.type "ValueError", .type "Exception", .type "BaseException", .type "object"] "ValueError.__new__" = true)
    (fa_x_MillError : PySem.W.excIn K C_MillError [.type "ValueError", .type "Exception", .type "BaseException", .type "object"] "ValueError.__new__" = true)
    (fa_k_Full : PySem.W.keepIn K (.ref C_Full) = true)
    (fa_b_Full : PySem.W.subIn K (.ref C_Full) (.type "BaseException") = some true)
    (fa_t_Full : PySem.W.typeIn K (.ref C_Full) = some (.type "type"))
    (fa_h_Full : PySem.W.hasDictIn K C_Full = true)
    (fa_k_NoDeed : PySem.W.keepIn K (.ref C_NoDeed) = true)
    (fa_b_NoDeed : PySem.W.subIn K (.ref C_NoDeed) (.type "BaseException") = some true)
    (fa_t_NoDeed : PySem.W.typeIn K (.ref C_NoDeed) = some (.type "type"))
    (fa_h_NoDeed : PySem.W.hasDictIn K C_NoDeed = true)
    (fa_k_NoLine : PySem.W.keepIn K (.ref C_NoLine) = true)
    (fa_b_NoLine : PySem.W.subIn K (.ref C_NoLine) (.type "BaseException") = some true)
    (fa_t_NoLine : PySem.W.typeIn K (.ref C_NoLine) = some (.type "type"))
    (fa_h_NoLine : PySem.W.hasDictIn K C_NoLine = true)
    (fa_k_NoMachine : PySem.W.keepIn K (.ref C_NoMachine) = true)
    (fa_b_NoMachine : PySem.W.subIn K (.ref C_NoMachine) (.type "BaseException") = some true)
    (fa_t_NoMachine : PySem.W.typeIn K (.ref C_NoMachine) = some (.type "type"))
    (fa_h_NoMachine : PySem.W.hasDictIn K C_NoMachine = true)
    (fa_k_NoName : PySem.W.keepIn K (.ref C_NoName) = true)
    (fa_b_NoName : PySem.W.subIn K (.ref C_NoName) (.type "BaseException") = some true)
    (fa_t_NoName : PySem.W.typeIn K (.ref C_NoName) = some (.type "type"))
    (fa_h_NoName : PySem.W.hasDictIn K C_NoName = true)
    (fa_k_NoPaper : PySem.W.keepIn K (.ref C_NoPaper) = true)
    (fa_b_NoPaper : PySem.W.subIn K (.ref C_NoPaper) (.type "BaseException") = some true)
    (fa_t_NoPaper : PySem.W.typeIn K (.ref C_NoPaper) = some (.type "type"))
    (fa_h_NoPaper : PySem.W.hasDictIn K C_NoPaper = true)
    (fa_k_NoSize : PySem.W.keepIn K (.ref C_NoSize) = true)
    (fa_b_NoSize : PySem.W.subIn K (.ref C_NoSize) (.type "BaseException") = some true)
    (fa_t_NoSize : PySem.W.typeIn K (.ref C_NoSize) = some (.type "type"))
    (fa_h_NoSize : PySem.W.hasDictIn K C_NoSize = true)
    (fa_k_NoSuch : PySem.W.keepIn K (.ref C_NoSuch) = true)
    (fa_b_NoSuch : PySem.W.subIn K (.ref C_NoSuch) (.type "BaseException") = some true)
    (fa_t_NoSuch : PySem.W.typeIn K (.ref C_NoSuch) = some (.type "type"))
    (fa_h_NoSuch : PySem.W.hasDictIn K C_NoSuch = true)
    (fa_k_NoText : PySem.W.keepIn K (.ref C_NoText) = true)
    (fa_b_NoText : PySem.W.subIn K (.ref C_NoText) (.type "BaseException") = some true)
    (fa_t_NoText : PySem.W.typeIn K (.ref C_NoText) = some (.type "type"))
    (fa_h_NoText : PySem.W.hasDictIn K C_NoText = true)
    (fa_k_NoWidth : PySem.W.keepIn K (.ref C_NoWidth) = true)
    (fa_b_NoWidth : PySem.W.subIn K (.ref C_NoWidth) (.type "BaseException") = some true)
    (fa_t_NoWidth : PySem.W.typeIn K (.ref C_NoWidth) = some (.type "type"))
    (fa_h_NoWidth : PySem.W.hasDictIn K C_NoWidth = true)
    (fa_k_Twice : PySem.W.keepIn K (.ref C_Twice) = true)
    (fa_b_Twice : PySem.W.subIn K (.ref C_Twice) (.type "BaseException") = some true)
    (fa_t_Twice : PySem.W.typeIn K (.ref C_Twice) = some (.type "type"))
    (fa_h_Twice : PySem.W.hasDictIn K C_Twice = true)
    (fa_k_MillError : PySem.W.keepIn K (.ref C_MillError) = true)
    (fa_b_MillError : PySem.W.subIn K (.ref C_MillError) (.type "BaseException") = some true)
    (fa_t_MillError : PySem.W.typeIn K (.ref C_MillError) = some (.type "type"))
    (fa_h_MillError : PySem.W.hasDictIn K C_MillError = true)
    (fa_hg_Full : PySem.W.findIn K (.ref C_Full) "__getattribute__" = some (some (.builtin "BaseException.__getattribute__")))
    (fa_hk_Full : PySem.W.findIn K (.ref C_Full) "__getattr__" = some none)
    (fa_ha_Full : PySem.W.findIn K (.ref C_Full) "__class__" = some (some (.builtin "object.__class__")))
    (fa_hm_Full : PySem.W.mroIn K C_Full (.type "object") = some true)
    (fa_s_Full_MillError : PySem.W.subIn K (.ref C_Full) (.ref C_MillError) = some true)
    (fa_hg_NoDeed : PySem.W.findIn K (.ref C_NoDeed) "__getattribute__" = some (some (.builtin "BaseException.__getattribute__")))
    (fa_hk_NoDeed : PySem.W.findIn K (.ref C_NoDeed) "__getattr__" = some none)
    (fa_ha_NoDeed : PySem.W.findIn K (.ref C_NoDeed) "__class__" = some (some (.builtin "object.__class__")))
    (fa_hm_NoDeed : PySem.W.mroIn K C_NoDeed (.type "object") = some true)
    (fa_s_NoDeed_MillError : PySem.W.subIn K (.ref C_NoDeed) (.ref C_MillError) = some true)
    (fa_hg_NoLine : PySem.W.findIn K (.ref C_NoLine) "__getattribute__" = some (some (.builtin "BaseException.__getattribute__")))
    (fa_hk_NoLine : PySem.W.findIn K (.ref C_NoLine) "__getattr__" = some none)
    (fa_ha_NoLine : PySem.W.findIn K (.ref C_NoLine) "__class__" = some (some (.builtin "object.__class__")))
    (fa_hm_NoLine : PySem.W.mroIn K C_NoLine (.type "object") = some true)
    (fa_s_NoLine_MillError : PySem.W.subIn K (.ref C_NoLine) (.ref C_MillError) = some true)
    (fa_hg_NoMachine : PySem.W.findIn K (.ref C_NoMachine) "__getattribute__" = some (some (.builtin "BaseException.__getattribute__")))
    (fa_hk_NoMachine : PySem.W.findIn K (.ref C_NoMachine) "__getattr__" = some none)
    (fa_ha_NoMachine : PySem.W.findIn K (.ref C_NoMachine) "__class__" = some (some (.builtin "object.__class__")))
    (fa_hm_NoMachine : PySem.W.mroIn K C_NoMachine (.type "object") = some true)
    (fa_s_NoMachine_MillError : PySem.W.subIn K (.ref C_NoMachine) (.ref C_MillError) = some true)
    (fa_hg_NoName : PySem.W.findIn K (.ref C_NoName) "__getattribute__" = some (some (.builtin "BaseException.__getattribute__")))
    (fa_hk_NoName : PySem.W.findIn K (.ref C_NoName) "__getattr__" = some none)
    (fa_ha_NoName : PySem.W.findIn K (.ref C_NoName) "__class__" = some (some (.builtin "object.__class__")))
    (fa_hm_NoName : PySem.W.mroIn K C_NoName (.type "object") = some true)
    (fa_s_NoName_MillError : PySem.W.subIn K (.ref C_NoName) (.ref C_MillError) = some true)
    (fa_hg_NoPaper : PySem.W.findIn K (.ref C_NoPaper) "__getattribute__" = some (some (.builtin "BaseException.__getattribute__")))
    (fa_hk_NoPaper : PySem.W.findIn K (.ref C_NoPaper) "__getattr__" = some none)
    (fa_ha_NoPaper : PySem.W.findIn K (.ref C_NoPaper) "__class__" = some (some (.builtin "object.__class__")))
    (fa_hm_NoPaper : PySem.W.mroIn K C_NoPaper (.type "object") = some true)
    (fa_s_NoPaper_MillError : PySem.W.subIn K (.ref C_NoPaper) (.ref C_MillError) = some true)
    (fa_hg_NoSize : PySem.W.findIn K (.ref C_NoSize) "__getattribute__" = some (some (.builtin "BaseException.__getattribute__")))
    (fa_hk_NoSize : PySem.W.findIn K (.ref C_NoSize) "__getattr__" = some none)
    (fa_ha_NoSize : PySem.W.findIn K (.ref C_NoSize) "__class__" = some (some (.builtin "object.__class__")))
    (fa_hm_NoSize : PySem.W.mroIn K C_NoSize (.type "object") = some true)
    (fa_s_NoSize_MillError : PySem.W.subIn K (.ref C_NoSize) (.ref C_MillError) = some true)
    (fa_hg_NoSuch : PySem.W.findIn K (.ref C_NoSuch) "__getattribute__" = some (some (.builtin "BaseException.__getattribute__")))
    (fa_hk_NoSuch : PySem.W.findIn K (.ref C_NoSuch) "__getattr__" = some none)
    (fa_ha_NoSuch : PySem.W.findIn K (.ref C_NoSuch) "__class__" = some (some (.builtin "object.__class__")))
    (fa_hm_NoSuch : PySem.W.mroIn K C_NoSuch (.type "object") = some true)
    (fa_s_NoSuch_MillError : PySem.W.subIn K (.ref C_NoSuch) (.ref C_MillError) = some true)
    (fa_hg_NoText : PySem.W.findIn K (.ref C_NoText) "__getattribute__" = some (some (.builtin "BaseException.__getattribute__")))
    (fa_hk_NoText : PySem.W.findIn K (.ref C_NoText) "__getattr__" = some none)
    (fa_ha_NoText : PySem.W.findIn K (.ref C_NoText) "__class__" = some (some (.builtin "object.__class__")))
    (fa_hm_NoText : PySem.W.mroIn K C_NoText (.type "object") = some true)
    (fa_s_NoText_MillError : PySem.W.subIn K (.ref C_NoText) (.ref C_MillError) = some true)
    (fa_hg_NoWidth : PySem.W.findIn K (.ref C_NoWidth) "__getattribute__" = some (some (.builtin "BaseException.__getattribute__")))
    (fa_hk_NoWidth : PySem.W.findIn K (.ref C_NoWidth) "__getattr__" = some none)
    (fa_ha_NoWidth : PySem.W.findIn K (.ref C_NoWidth) "__class__" = some (some (.builtin "object.__class__")))
    (fa_hm_NoWidth : PySem.W.mroIn K C_NoWidth (.type "object") = some true)
    (fa_s_NoWidth_MillError : PySem.W.subIn K (.ref C_NoWidth) (.ref C_MillError) = some true)
    (fa_hg_Twice : PySem.W.findIn K (.ref C_Twice) "__getattribute__" = some (some (.builtin "BaseException.__getattribute__")))
    (fa_hk_Twice : PySem.W.findIn K (.ref C_Twice) "__getattr__" = some none)
    (fa_ha_Twice : PySem.W.findIn K (.ref C_Twice) "__class__" = some (some (.builtin "object.__class__")))
    (fa_hm_Twice : PySem.W.mroIn K C_Twice (.type "object") = some true)
    (fa_s_Twice_MillError : PySem.W.subIn K (.ref C_Twice) (.ref C_MillError) = some true)
    (fa_hg_MillError : PySem.W.findIn K (.ref C_MillError) "__getattribute__" = some (some (.builtin "BaseException.__getattribute__")))
    (fa_hk_MillError : PySem.W.findIn K (.ref C_MillError) "__getattr__" = some none)
    (fa_ha_MillError : PySem.W.findIn K (.ref C_MillError) "__class__" = some (some (.builtin "object.__class__")))
    (fa_hm_MillError : PySem.W.mroIn K C_MillError (.type "object") = some true)
    (fa_s_MillError_MillError : PySem.W.subIn K (.ref C_MillError) (.ref C_MillError) = some true)
    (fa_hn_ : PySem.W.specialIn K (.builtin "object.__class__") "__get__" = some (some (.builtin "getset_descriptor.__get__")))
    (fa_ht_ : PySem.W.takesIn K (.builtin "object.__class__") = some true)
    (fa_i_Full : PySem.W.isClsIn K C_Full = true)
    (fa_se_Full : PySem.W.subIn K (.ref C_Full) (.ref C_Full) = some true)
    (fa_s_Full_Full : PySem.W.subIn K (.ref C_Full) (.ref C_Full) = some true)
    (fa_s_NoDeed_Full : PySem.W.subIn K (.ref C_NoDeed) (.ref C_Full) = some false)
    (fa_s_NoLine_Full : PySem.W.subIn K (.ref C_NoLine) (.ref C_Full) = some false)
    (fa_s_NoMachine_Full : PySem.W.subIn K (.ref C_NoMachine) (.ref C_Full) = some false)
    (fa_s_NoName_Full : PySem.W.subIn K (.ref C_NoName) (.ref C_Full) = some false)
    (fa_s_NoPaper_Full : PySem.W.subIn K (.ref C_NoPaper) (.ref C_Full) = some false)
    (fa_s_NoSize_Full : PySem.W.subIn K (.ref C_NoSize) (.ref C_Full) = some false)
    (fa_s_NoSuch_Full : PySem.W.subIn K (.ref C_NoSuch) (.ref C_Full) = some false)
    (fa_s_NoText_Full : PySem.W.subIn K (.ref C_NoText) (.ref C_Full) = some false)
    (fa_s_NoWidth_Full : PySem.W.subIn K (.ref C_NoWidth) (.ref C_Full) = some false)
    (fa_s_Twice_Full : PySem.W.subIn K (.ref C_Twice) (.ref C_Full) = some false)
    (fa_s_MillError_Full : PySem.W.subIn K (.ref C_MillError) (.ref C_Full) = some false)
    (fa_i_NoDeed : PySem.W.isClsIn K C_NoDeed = true)
    (fa_se_NoDeed : PySem.W.subIn K (.ref C_NoDeed) (.ref C_NoDeed) = some true)
    (fa_s_Full_NoDeed : PySem.W.subIn K (.ref C_Full) (.ref C_NoDeed) = some false)
    (fa_s_NoDeed_NoDeed : PySem.W.subIn K (.ref C_NoDeed) (.ref C_NoDeed) = some true)
    (fa_s_NoLine_NoDeed : PySem.W.subIn K (.ref C_NoLine) (.ref C_NoDeed) = some false)
    (fa_s_NoMachine_NoDeed : PySem.W.subIn K (.ref C_NoMachine) (.ref C_NoDeed) = some false)
    (fa_s_NoName_NoDeed : PySem.W.subIn K (.ref C_NoName) (.ref C_NoDeed) = some false)
    (fa_s_NoPaper_NoDeed : PySem.W.subIn K (.ref C_NoPaper) (.ref C_NoDeed) = some false)
    (fa_s_NoSize_NoDeed : PySem.W.subIn K (.ref C_NoSize) (.ref C_NoDeed) = some false)
    (fa_s_NoSuch_NoDeed : PySem.W.subIn K (.ref C_NoSuch) (.ref C_NoDeed) = some false)
    (fa_s_NoText_NoDeed : PySem.W.subIn K (.ref C_NoText) (.ref C_NoDeed) = some false)
    (fa_s_NoWidth_NoDeed : PySem.W.subIn K (.ref C_NoWidth) (.ref C_NoDeed) = some false)
    (fa_s_Twice_NoDeed : PySem.W.subIn K (.ref C_Twice) (.ref C_NoDeed) = some false)
    (fa_s_MillError_NoDeed : PySem.W.subIn K (.ref C_MillError) (.ref C_NoDeed) = some false)
    (fa_i_NoLine : PySem.W.isClsIn K C_NoLine = true)
    (fa_se_NoLine : PySem.W.subIn K (.ref C_NoLine) (.ref C_NoLine) = some true)
    (fa_s_Full_NoLine : PySem.W.subIn K (.ref C_Full) (.ref C_NoLine) = some false)
    (fa_s_NoDeed_NoLine : PySem.W.subIn K (.ref C_NoDeed) (.ref C_NoLine) = some false)
    (fa_s_NoLine_NoLine : PySem.W.subIn K (.ref C_NoLine) (.ref C_NoLine) = some true)
    (fa_s_NoMachine_NoLine : PySem.W.subIn K (.ref C_NoMachine) (.ref C_NoLine) = some false)
    (fa_s_NoName_NoLine : PySem.W.subIn K (.ref C_NoName) (.ref C_NoLine) = some false)
    (fa_s_NoPaper_NoLine : PySem.W.subIn K (.ref C_NoPaper) (.ref C_NoLine) = some false)
    (fa_s_NoSize_NoLine : PySem.W.subIn K (.ref C_NoSize) (.ref C_NoLine) = some false)
    (fa_s_NoSuch_NoLine : PySem.W.subIn K (.ref C_NoSuch) (.ref C_NoLine) = some false)
    (fa_s_NoText_NoLine : PySem.W.subIn K (.ref C_NoText) (.ref C_NoLine) = some false)
    (fa_s_NoWidth_NoLine : PySem.W.subIn K (.ref C_NoWidth) (.ref C_NoLine) = some false)
    (fa_s_Twice_NoLine : PySem.W.subIn K (.ref C_Twice) (.ref C_NoLine) = some false)
    (fa_s_MillError_NoLine : PySem.W.subIn K (.ref C_MillError) (.ref C_NoLine) = some false)
    (fa_i_NoMachine : PySem.W.isClsIn K C_NoMachine = true)
    (fa_se_NoMachine : PySem.W.subIn K (.ref C_NoMachine) (.ref C_NoMachine) = some true)
    (fa_s_Full_NoMachine : PySem.W.subIn K (.ref C_Full) (.ref C_NoMachine) = some false)
    (fa_s_NoDeed_NoMachine : PySem.W.subIn K (.ref C_NoDeed) (.ref C_NoMachine) = some false)
    (fa_s_NoLine_NoMachine : PySem.W.subIn K (.ref C_NoLine) (.ref C_NoMachine) = some false)
    (fa_s_NoMachine_NoMachine : PySem.W.subIn K (.ref C_NoMachine) (.ref C_NoMachine) = some true)
    (fa_s_NoName_NoMachine : PySem.W.subIn K (.ref C_NoName) (.ref C_NoMachine) = some false)
    (fa_s_NoPaper_NoMachine : PySem.W.subIn K (.ref C_NoPaper) (.ref C_NoMachine) = some false)
    (fa_s_NoSize_NoMachine : PySem.W.subIn K (.ref C_NoSize) (.ref C_NoMachine) = some false)
    (fa_s_NoSuch_NoMachine : PySem.W.subIn K (.ref C_NoSuch) (.ref C_NoMachine) = some false)
    (fa_s_NoText_NoMachine : PySem.W.subIn K (.ref C_NoText) (.ref C_NoMachine) = some false)
    (fa_s_NoWidth_NoMachine : PySem.W.subIn K (.ref C_NoWidth) (.ref C_NoMachine) = some false)
    (fa_s_Twice_NoMachine : PySem.W.subIn K (.ref C_Twice) (.ref C_NoMachine) = some false)
    (fa_s_MillError_NoMachine : PySem.W.subIn K (.ref C_MillError) (.ref C_NoMachine) = some false)
    (fa_i_NoName : PySem.W.isClsIn K C_NoName = true)
    (fa_se_NoName : PySem.W.subIn K (.ref C_NoName) (.ref C_NoName) = some true)
    (fa_s_Full_NoName : PySem.W.subIn K (.ref C_Full) (.ref C_NoName) = some false)
    (fa_s_NoDeed_NoName : PySem.W.subIn K (.ref C_NoDeed) (.ref C_NoName) = some false)
    (fa_s_NoLine_NoName : PySem.W.subIn K (.ref C_NoLine) (.ref C_NoName) = some false)
    (fa_s_NoMachine_NoName : PySem.W.subIn K (.ref C_NoMachine) (.ref C_NoName) = some false)
    (fa_s_NoName_NoName : PySem.W.subIn K (.ref C_NoName) (.ref C_NoName) = some true)
    (fa_s_NoPaper_NoName : PySem.W.subIn K (.ref C_NoPaper) (.ref C_NoName) = some false)
    (fa_s_NoSize_NoName : PySem.W.subIn K (.ref C_NoSize) (.ref C_NoName) = some false)
    (fa_s_NoSuch_NoName : PySem.W.subIn K (.ref C_NoSuch) (.ref C_NoName) = some false)
    (fa_s_NoText_NoName : PySem.W.subIn K (.ref C_NoText) (.ref C_NoName) = some false)
    (fa_s_NoWidth_NoName : PySem.W.subIn K (.ref C_NoWidth) (.ref C_NoName) = some false)
    (fa_s_Twice_NoName : PySem.W.subIn K (.ref C_Twice) (.ref C_NoName) = some false)
    (fa_s_MillError_NoName : PySem.W.subIn K (.ref C_MillError) (.ref C_NoName) = some false)
    (fa_i_NoPaper : PySem.W.isClsIn K C_NoPaper = true)
    (fa_se_NoPaper : PySem.W.subIn K (.ref C_NoPaper) (.ref C_NoPaper) = some true)
    (fa_s_Full_NoPaper : PySem.W.subIn K (.ref C_Full) (.ref C_NoPaper) = some false)
    (fa_s_NoDeed_NoPaper : PySem.W.subIn K (.ref C_NoDeed) (.ref C_NoPaper) = some false)
    (fa_s_NoLine_NoPaper : PySem.W.subIn K (.ref C_NoLine) (.ref C_NoPaper) = some false)
    (fa_s_NoMachine_NoPaper : PySem.W.subIn K (.ref C_NoMachine) (.ref C_NoPaper) = some false)
    (fa_s_NoName_NoPaper : PySem.W.subIn K (.ref C_NoName) (.ref C_NoPaper) = some false)
    (fa_s_NoPaper_NoPaper : PySem.W.subIn K (.ref C_NoPaper) (.ref C_NoPaper) = some true)
    (fa_s_NoSize_NoPaper : PySem.W.subIn K (.ref C_NoSize) (.ref C_NoPaper) = some false)
    (fa_s_NoSuch_NoPaper : PySem.W.subIn K (.ref C_NoSuch) (.ref C_NoPaper) = some false)
    (fa_s_NoText_NoPaper : PySem.W.subIn K (.ref C_NoText) (.ref C_NoPaper) = some false)
    (fa_s_NoWidth_NoPaper : PySem.W.subIn K (.ref C_NoWidth) (.ref C_NoPaper) = some false)
    (fa_s_Twice_NoPaper : PySem.W.subIn K (.ref C_Twice) (.ref C_NoPaper) = some false)
    (fa_s_MillError_NoPaper : PySem.W.subIn K (.ref C_MillError) (.ref C_NoPaper) = some false)
    (fa_i_NoSize : PySem.W.isClsIn K C_NoSize = true)
    (fa_se_NoSize : PySem.W.subIn K (.ref C_NoSize) (.ref C_NoSize) = some true)
    (fa_s_Full_NoSize : PySem.W.subIn K (.ref C_Full) (.ref C_NoSize) = some false)
    (fa_s_NoDeed_NoSize : PySem.W.subIn K (.ref C_NoDeed) (.ref C_NoSize) = some false)
    (fa_s_NoLine_NoSize : PySem.W.subIn K (.ref C_NoLine) (.ref C_NoSize) = some false)
    (fa_s_NoMachine_NoSize : PySem.W.subIn K (.ref C_NoMachine) (.ref C_NoSize) = some false)
    (fa_s_NoName_NoSize : PySem.W.subIn K (.ref C_NoName) (.ref C_NoSize) = some false)
    (fa_s_NoPaper_NoSize : PySem.W.subIn K (.ref C_NoPaper) (.ref C_NoSize) = some false)
    (fa_s_NoSize_NoSize : PySem.W.subIn K (.ref C_NoSize) (.ref C_NoSize) = some true)
    (fa_s_NoSuch_NoSize : PySem.W.subIn K (.ref C_NoSuch) (.ref C_NoSize) = some false)
    (fa_s_NoText_NoSize : PySem.W.subIn K (.ref C_NoText) (.ref C_NoSize) = some false)
    (fa_s_NoWidth_NoSize : PySem.W.subIn K (.ref C_NoWidth) (.ref C_NoSize) = some false)
    (fa_s_Twice_NoSize : PySem.W.subIn K (.ref C_Twice) (.ref C_NoSize) = some false)
    (fa_s_MillError_NoSize : PySem.W.subIn K (.ref C_MillError) (.ref C_NoSize) = some false)
    (fa_i_NoSuch : PySem.W.isClsIn K C_NoSuch = true)
    (fa_se_NoSuch : PySem.W.subIn K (.ref C_NoSuch) (.ref C_NoSuch) = some true)
    (fa_s_Full_NoSuch : PySem.W.subIn K (.ref C_Full) (.ref C_NoSuch) = some false)
    (fa_s_NoDeed_NoSuch : PySem.W.subIn K (.ref C_NoDeed) (.ref C_NoSuch) = some false)
    (fa_s_NoLine_NoSuch : PySem.W.subIn K (.ref C_NoLine) (.ref C_NoSuch) = some false)
    (fa_s_NoMachine_NoSuch : PySem.W.subIn K (.ref C_NoMachine) (.ref C_NoSuch) = some false)
    (fa_s_NoName_NoSuch : PySem.W.subIn K (.ref C_NoName) (.ref C_NoSuch) = some false)
    (fa_s_NoPaper_NoSuch : PySem.W.subIn K (.ref C_NoPaper) (.ref C_NoSuch) = some false)
    (fa_s_NoSize_NoSuch : PySem.W.subIn K (.ref C_NoSize) (.ref C_NoSuch) = some false)
    (fa_s_NoSuch_NoSuch : PySem.W.subIn K (.ref C_NoSuch) (.ref C_NoSuch) = some true)
    (fa_s_NoText_NoSuch : PySem.W.subIn K (.ref C_NoText) (.ref C_NoSuch) = some false)
    (fa_s_NoWidth_NoSuch : PySem.W.subIn K (.ref C_NoWidth) (.ref C_NoSuch) = some false)
    (fa_s_Twice_NoSuch : PySem.W.subIn K (.ref C_Twice) (.ref C_NoSuch) = some false)
    (fa_s_MillError_NoSuch : PySem.W.subIn K (.ref C_MillError) (.ref C_NoSuch) = some false)
    (fa_i_NoText : PySem.W.isClsIn K C_NoText = true)
    (fa_se_NoText : PySem.W.subIn K (.ref C_NoText) (.ref C_NoText) = some true)
    (fa_s_Full_NoText : PySem.W.subIn K (.ref C_Full) (.ref C_NoText) = some false)
    (fa_s_NoDeed_NoText : PySem.W.subIn K (.ref C_NoDeed) (.ref C_NoText) = some false)
    (fa_s_NoLine_NoText : PySem.W.subIn K (.ref C_NoLine) (.ref C_NoText) = some false)
    (fa_s_NoMachine_NoText : PySem.W.subIn K (.ref C_NoMachine) (.ref C_NoText) = some false)
    (fa_s_NoName_NoText : PySem.W.subIn K (.ref C_NoName) (.ref C_NoText) = some false)
    (fa_s_NoPaper_NoText : PySem.W.subIn K (.ref C_NoPaper) (.ref C_NoText) = some false)
    (fa_s_NoSize_NoText : PySem.W.subIn K (.ref C_NoSize) (.ref C_NoText) = some false)
    (fa_s_NoSuch_NoText : PySem.W.subIn K (.ref C_NoSuch) (.ref C_NoText) = some false)
    (fa_s_NoText_NoText : PySem.W.subIn K (.ref C_NoText) (.ref C_NoText) = some true)
    (fa_s_NoWidth_NoText : PySem.W.subIn K (.ref C_NoWidth) (.ref C_NoText) = some false)
    (fa_s_Twice_NoText : PySem.W.subIn K (.ref C_Twice) (.ref C_NoText) = some false)
    (fa_s_MillError_NoText : PySem.W.subIn K (.ref C_MillError) (.ref C_NoText) = some false)
    (fa_i_NoWidth : PySem.W.isClsIn K C_NoWidth = true)
    (fa_se_NoWidth : PySem.W.subIn K (.ref C_NoWidth) (.ref C_NoWidth) = some true)
    (fa_s_Full_NoWidth : PySem.W.subIn K (.ref C_Full) (.ref C_NoWidth) = some false)
    (fa_s_NoDeed_NoWidth : PySem.W.subIn K (.ref C_NoDeed) (.ref C_NoWidth) = some false)
    (fa_s_NoLine_NoWidth : PySem.W.subIn K (.ref C_NoLine) (.ref C_NoWidth) = some false)
    (fa_s_NoMachine_NoWidth : PySem.W.subIn K (.ref C_NoMachine) (.ref C_NoWidth) = some false)
    (fa_s_NoName_NoWidth : PySem.W.subIn K (.ref C_NoName) (.ref C_NoWidth) = some false)
    (fa_s_NoPaper_NoWidth : PySem.W.subIn K (.ref C_NoPaper) (.ref C_NoWidth) = some false)
    (fa_s_NoSize_NoWidth : PySem.W.subIn K (.ref C_NoSize) (.ref C_NoWidth) = some false)
    (fa_s_NoSuch_NoWidth : PySem.W.subIn K (.ref C_NoSuch) (.ref C_NoWidth) = some false)
    (fa_s_NoText_NoWidth : PySem.W.subIn K (.ref C_NoText) (.ref C_NoWidth) = some false)
    (fa_s_NoWidth_NoWidth : PySem.W.subIn K (.ref C_NoWidth) (.ref C_NoWidth) = some true)
    (fa_s_Twice_NoWidth : PySem.W.subIn K (.ref C_Twice) (.ref C_NoWidth) = some false)
    (fa_s_MillError_NoWidth : PySem.W.subIn K (.ref C_MillError) (.ref C_NoWidth) = some false)
    (fa_i_Twice : PySem.W.isClsIn K C_Twice = true)
    (fa_se_Twice : PySem.W.subIn K (.ref C_Twice) (.ref C_Twice) = some true)
    (fa_s_Full_Twice : PySem.W.subIn K (.ref C_Full) (.ref C_Twice) = some false)
    (fa_s_NoDeed_Twice : PySem.W.subIn K (.ref C_NoDeed) (.ref C_Twice) = some false)
    (fa_s_NoLine_Twice : PySem.W.subIn K (.ref C_NoLine) (.ref C_Twice) = some false)
    (fa_s_NoMachine_Twice : PySem.W.subIn K (.ref C_NoMachine) (.ref C_Twice) = some false)
    (fa_s_NoName_Twice : PySem.W.subIn K (.ref C_NoName) (.ref C_Twice) = some false)
    (fa_s_NoPaper_Twice : PySem.W.subIn K (.ref C_NoPaper) (.ref C_Twice) = some false)
    (fa_s_NoSize_Twice : PySem.W.subIn K (.ref C_NoSize) (.ref C_Twice) = some false)
    (fa_s_NoSuch_Twice : PySem.W.subIn K (.ref C_NoSuch) (.ref C_Twice) = some false)
    (fa_s_NoText_Twice : PySem.W.subIn K (.ref C_NoText) (.ref C_Twice) = some false)
    (fa_s_NoWidth_Twice : PySem.W.subIn K (.ref C_NoWidth) (.ref C_Twice) = some false)
    (fa_s_Twice_Twice : PySem.W.subIn K (.ref C_Twice) (.ref C_Twice) = some true)
    (fa_s_MillError_Twice : PySem.W.subIn K (.ref C_MillError) (.ref C_Twice) = some false)
    (fa_i_MillError : PySem.W.isClsIn K C_MillError = true)
    (fa_se_MillError : PySem.W.subIn K (.ref C_MillError) (.ref C_MillError) = some true)
    (fa_s_Full_ValueError : PySem.W.subIn K (.ref C_Full) (.type "ValueError") = some true)
    (fa_s_NoDeed_ValueError : PySem.W.subIn K (.ref C_NoDeed) (.type "ValueError") = some true)
    (fa_s_NoLine_ValueError : PySem.W.subIn K (.ref C_NoLine) (.type "ValueError") = some true)
    (fa_s_NoMachine_ValueError : PySem.W.subIn K (.ref C_NoMachine) (.type "ValueError") = some true)
    (fa_s_NoName_ValueError : PySem.W.subIn K (.ref C_NoName) (.type "ValueError") = some true)
    (fa_s_NoPaper_ValueError : PySem.W.subIn K (.ref C_NoPaper) (.type "ValueError") = some true)
    (fa_s_NoSize_ValueError : PySem.W.subIn K (.ref C_NoSize) (.type "ValueError") = some true)
    (fa_s_NoSuch_ValueError : PySem.W.subIn K (.ref C_NoSuch) (.type "ValueError") = some true)
    (fa_s_NoText_ValueError : PySem.W.subIn K (.ref C_NoText) (.type "ValueError") = some true)
    (fa_s_NoWidth_ValueError : PySem.W.subIn K (.ref C_NoWidth) (.type "ValueError") = some true)
    (fa_s_Twice_ValueError : PySem.W.subIn K (.ref C_Twice) (.type "ValueError") = some true)
    (fa_s_MillError_ValueError : PySem.W.subIn K (.ref C_MillError) (.type "ValueError") = some true) : Tx K mg where
  a_L_mixed := a_L_mixed
  fd_L_mixed := PySem.W.fnOf "_law_mixed" "_law_mixed" (defArgs s_L_mixed) (defBody s_L_mixed) (defScope s_L_mixed) .none kV_L_mixed dc_L_mixed pm_L_mixed an_L_mixed cd_L_mixed ct_L_mixed
  F_L_mixed := fun_mk l_L_mixed c_L_mixed k_L_mixed
  b_L_mixed := (fun_mk (st := s_L_mixed) l_L_mixed c_L_mixed k_L_mixed).binds (ps := ["_law_cell", "_law_k"]) fun _ _ _ _ _ _ us hl => match us, hl with | [_, _], _ => rfl
  m_L_mixed := PySem.W.mg_of X G n_L_mixed
  a_L_purse := a_L_purse
  fd_L_purse := PySem.W.fnOf "_law_purse" "_law_purse" (defArgs s_L_purse) (defBody s_L_purse) (defScope s_L_purse) .none kV_L_purse dc_L_purse pm_L_purse an_L_purse cd_L_purse ct_L_purse
  F_L_purse := fun_mk l_L_purse c_L_purse k_L_purse
  b_L_purse := (fun_mk (st := s_L_purse) l_L_purse c_L_purse k_L_purse).binds (ps := ["_law_script"]) fun _ _ _ _ _ _ us hl => match us, hl with | [_], _ => rfl
  m_L_purse := PySem.W.mg_of X G n_L_purse
  a_is_entry := a_is_entry
  fd_is_entry := PySem.W.fnOf "is_entry" "is_entry" (defArgs s_is_entry) (defBody s_is_entry) (defScope s_is_entry) .none kV_is_entry dc_is_entry pm_is_entry an_is_entry cd_is_entry ct_is_entry
  F_is_entry := fun_mk l_is_entry c_is_entry k_is_entry
  b_is_entry := (fun_mk (st := s_is_entry) l_is_entry c_is_entry k_is_entry).binds (ps := ["entry", "rows", "signs"]) fun _ _ _ _ _ _ us hl => match us, hl with | [_, _, _], _ => rfl
  m_is_entry := PySem.W.mg_of X G n_is_entry
  a_is_machine := a_is_machine
  fd_is_machine := PySem.W.fnOf "is_machine" "is_machine" (defArgs s_is_machine) (defBody s_is_machine) (defScope s_is_machine) .none kV_is_machine dc_is_machine pm_is_machine an_is_machine cd_is_machine ct_is_machine
  F_is_machine := fun_mk l_is_machine c_is_machine k_is_machine
  b_is_machine := (fun_mk (st := s_is_machine) l_is_machine c_is_machine k_is_machine).binds (ps := ["machine"]) fun _ _ _ _ _ _ us hl => match us, hl with | [_], _ => rfl
  m_is_machine := PySem.W.mg_of X G n_is_machine
  a_must_machine := a_must_machine
  fd_must_machine := PySem.W.fnOf "must_machine" "must_machine" (defArgs s_must_machine) (defBody s_must_machine) (defScope s_must_machine) .none kV_must_machine dc_must_machine pm_must_machine an_must_machine cd_must_machine ct_must_machine
  F_must_machine := fun_mk l_must_machine c_must_machine k_must_machine
  b_must_machine := (fun_mk (st := s_must_machine) l_must_machine c_must_machine k_must_machine).binds (ps := ["machine"]) fun _ _ _ _ _ _ us hl => match us, hl with | [_], _ => rfl
  m_must_machine := PySem.W.mg_of X G n_must_machine
  a_run := a_run
  fd_run := PySem.W.fnOf "run" "run" (defArgs s_run) (defBody s_run) (defScope s_run) .none kV_run dc_run pm_run an_run cd_run ct_run
  F_run := fun_mk l_run c_run k_run
  b_run := (fun_mk (st := s_run) l_run c_run k_run).binds (ps := ["machine", "most"]) fun _ _ _ _ _ _ us hl => match us, hl with | [_, _], _ => rfl
  m_run := PySem.W.mg_of X G n_run
  a_L_kinds := a_L_kinds
  fd_L_kinds := PySem.W.fnOf "_law_kinds" "_law_kinds" (defArgs s_L_kinds) (defBody s_L_kinds) (defScope s_L_kinds) .none kV_L_kinds dc_L_kinds pm_L_kinds an_L_kinds cd_L_kinds ct_L_kinds
  F_L_kinds := fun_mk l_L_kinds c_L_kinds k_L_kinds
  b_L_kinds := (fun_mk (st := s_L_kinds) l_L_kinds c_L_kinds k_L_kinds).binds (ps := ["_law_one"]) fun _ _ _ _ _ _ us hl => match us, hl with | [_], _ => rfl
  m_L_kinds := PySem.W.mg_of X G n_L_kinds
  a_L_draw := a_L_draw
  fd_L_draw := PySem.W.fnOf "_law_draw" "_law_draw" (defArgs s_L_draw) (defBody s_L_draw) (defScope s_L_draw) .none kV_L_draw dc_L_draw pm_L_draw an_L_draw cd_L_draw ct_L_draw
  F_L_draw := fun_mk l_L_draw c_L_draw k_L_draw
  b_L_draw := (fun_mk (st := s_L_draw) l_L_draw c_L_draw k_L_draw).binds (ps := ["_law_purse_here", "_law_out_of"]) fun _ _ _ _ _ _ us hl => match us, hl with | [_, _], _ => rfl
  m_L_draw := PySem.W.mg_of X G n_L_draw
  a_law := a_law
  fd_law := PySem.W.fnOf "law" "law" (defArgs s_law) (defBody s_law) (defScope s_law) .none kV_law dc_law pm_law an_law cd_law ct_law
  F_law := fun_mk l_law c_law k_law
  b_law := (fun_mk (st := s_law) l_law c_law k_law).binds (ps := ["_law_script"]) fun _ _ _ _ _ _ us hl => match us, hl with | [_], _ => rfl
  m_law := PySem.W.mg_of X G n_law
  C_NoMachine := C_NoMachine
  m_NoMachine := PySem.W.mg_of X G n_NoMachine
  C_Full := C_Full
  m_Full := PySem.W.mg_of X G n_Full
  C_NoDeed := C_NoDeed
  m_NoDeed := PySem.W.mg_of X G n_NoDeed
  C_NoLine := C_NoLine
  m_NoLine := PySem.W.mg_of X G n_NoLine
  C_NoName := C_NoName
  m_NoName := PySem.W.mg_of X G n_NoName
  C_NoPaper := C_NoPaper
  m_NoPaper := PySem.W.mg_of X G n_NoPaper
  C_NoSize := C_NoSize
  m_NoSize := PySem.W.mg_of X G n_NoSize
  C_NoSuch := C_NoSuch
  m_NoSuch := PySem.W.mg_of X G n_NoSuch
  C_NoText := C_NoText
  m_NoText := PySem.W.mg_of X G n_NoText
  C_NoWidth := C_NoWidth
  m_NoWidth := PySem.W.mg_of X G n_NoWidth
  C_Twice := C_Twice
  m_Twice := PySem.W.mg_of X G n_Twice
  C_MillError := C_MillError
  m_MillError := PySem.W.mg_of X G n_MillError
  tk_MOST_ROWS := tk_MOST_ROWS
  m_MOST_ROWS := PySem.W.mg_of X G n_MOST_ROWS
  tk_MOST_SIGNS := tk_MOST_SIGNS
  m_MOST_SIGNS := PySem.W.mg_of X G n_MOST_SIGNS
  n_range := PySem.W.mg_none_of X G z_range
  n_len := PySem.W.mg_none_of X G z_len
  n_abs := PySem.W.mg_none_of X G z_abs
  n_all := PySem.W.mg_none_of X G z_all
  n_isinstance := PySem.W.mg_none_of X G z_isinstance
  n_enumerate := PySem.W.mg_none_of X G z_enumerate
  n_ValueError := PySem.W.mg_none_of X G z_ValueError
  x_Full := fa_x_Full
  x_NoDeed := fa_x_NoDeed
  x_NoLine := fa_x_NoLine
  x_NoMachine := fa_x_NoMachine
  x_NoName := fa_x_NoName
  x_NoPaper := fa_x_NoPaper
  x_NoSize := fa_x_NoSize
  x_NoSuch := fa_x_NoSuch
  x_NoText := fa_x_NoText
  x_NoWidth := fa_x_NoWidth
  x_Twice := fa_x_Twice
  x_MillError := fa_x_MillError
  k_Full := fa_k_Full
  b_Full := fa_b_Full
  t_Full := fa_t_Full
  h_Full := fa_h_Full
  k_NoDeed := fa_k_NoDeed
  b_NoDeed := fa_b_NoDeed
  t_NoDeed := fa_t_NoDeed
  h_NoDeed := fa_h_NoDeed
  k_NoLine := fa_k_NoLine
  b_NoLine := fa_b_NoLine
  t_NoLine := fa_t_NoLine
  h_NoLine := fa_h_NoLine
  k_NoMachine := fa_k_NoMachine
  b_NoMachine := fa_b_NoMachine
  t_NoMachine := fa_t_NoMachine
  h_NoMachine := fa_h_NoMachine
  k_NoName := fa_k_NoName
  b_NoName := fa_b_NoName
  t_NoName := fa_t_NoName
  h_NoName := fa_h_NoName
  k_NoPaper := fa_k_NoPaper
  b_NoPaper := fa_b_NoPaper
  t_NoPaper := fa_t_NoPaper
  h_NoPaper := fa_h_NoPaper
  k_NoSize := fa_k_NoSize
  b_NoSize := fa_b_NoSize
  t_NoSize := fa_t_NoSize
  h_NoSize := fa_h_NoSize
  k_NoSuch := fa_k_NoSuch
  b_NoSuch := fa_b_NoSuch
  t_NoSuch := fa_t_NoSuch
  h_NoSuch := fa_h_NoSuch
  k_NoText := fa_k_NoText
  b_NoText := fa_b_NoText
  t_NoText := fa_t_NoText
  h_NoText := fa_h_NoText
  k_NoWidth := fa_k_NoWidth
  b_NoWidth := fa_b_NoWidth
  t_NoWidth := fa_t_NoWidth
  h_NoWidth := fa_h_NoWidth
  k_Twice := fa_k_Twice
  b_Twice := fa_b_Twice
  t_Twice := fa_t_Twice
  h_Twice := fa_h_Twice
  k_MillError := fa_k_MillError
  b_MillError := fa_b_MillError
  t_MillError := fa_t_MillError
  h_MillError := fa_h_MillError
  hg_Full := fa_hg_Full
  hk_Full := fa_hk_Full
  ha_Full := fa_ha_Full
  hm_Full := fa_hm_Full
  s_Full_MillError := fa_s_Full_MillError
  hg_NoDeed := fa_hg_NoDeed
  hk_NoDeed := fa_hk_NoDeed
  ha_NoDeed := fa_ha_NoDeed
  hm_NoDeed := fa_hm_NoDeed
  s_NoDeed_MillError := fa_s_NoDeed_MillError
  hg_NoLine := fa_hg_NoLine
  hk_NoLine := fa_hk_NoLine
  ha_NoLine := fa_ha_NoLine
  hm_NoLine := fa_hm_NoLine
  s_NoLine_MillError := fa_s_NoLine_MillError
  hg_NoMachine := fa_hg_NoMachine
  hk_NoMachine := fa_hk_NoMachine
  ha_NoMachine := fa_ha_NoMachine
  hm_NoMachine := fa_hm_NoMachine
  s_NoMachine_MillError := fa_s_NoMachine_MillError
  hg_NoName := fa_hg_NoName
  hk_NoName := fa_hk_NoName
  ha_NoName := fa_ha_NoName
  hm_NoName := fa_hm_NoName
  s_NoName_MillError := fa_s_NoName_MillError
  hg_NoPaper := fa_hg_NoPaper
  hk_NoPaper := fa_hk_NoPaper
  ha_NoPaper := fa_ha_NoPaper
  hm_NoPaper := fa_hm_NoPaper
  s_NoPaper_MillError := fa_s_NoPaper_MillError
  hg_NoSize := fa_hg_NoSize
  hk_NoSize := fa_hk_NoSize
  ha_NoSize := fa_ha_NoSize
  hm_NoSize := fa_hm_NoSize
  s_NoSize_MillError := fa_s_NoSize_MillError
  hg_NoSuch := fa_hg_NoSuch
  hk_NoSuch := fa_hk_NoSuch
  ha_NoSuch := fa_ha_NoSuch
  hm_NoSuch := fa_hm_NoSuch
  s_NoSuch_MillError := fa_s_NoSuch_MillError
  hg_NoText := fa_hg_NoText
  hk_NoText := fa_hk_NoText
  ha_NoText := fa_ha_NoText
  hm_NoText := fa_hm_NoText
  s_NoText_MillError := fa_s_NoText_MillError
  hg_NoWidth := fa_hg_NoWidth
  hk_NoWidth := fa_hk_NoWidth
  ha_NoWidth := fa_ha_NoWidth
  hm_NoWidth := fa_hm_NoWidth
  s_NoWidth_MillError := fa_s_NoWidth_MillError
  hg_Twice := fa_hg_Twice
  hk_Twice := fa_hk_Twice
  ha_Twice := fa_ha_Twice
  hm_Twice := fa_hm_Twice
  s_Twice_MillError := fa_s_Twice_MillError
  hg_MillError := fa_hg_MillError
  hk_MillError := fa_hk_MillError
  ha_MillError := fa_ha_MillError
  hm_MillError := fa_hm_MillError
  s_MillError_MillError := fa_s_MillError_MillError
  hn_ := fa_hn_
  ht_ := fa_ht_
  i_Full := fa_i_Full
  se_Full := fa_se_Full
  s_Full_Full := fa_s_Full_Full
  s_NoDeed_Full := fa_s_NoDeed_Full
  s_NoLine_Full := fa_s_NoLine_Full
  s_NoMachine_Full := fa_s_NoMachine_Full
  s_NoName_Full := fa_s_NoName_Full
  s_NoPaper_Full := fa_s_NoPaper_Full
  s_NoSize_Full := fa_s_NoSize_Full
  s_NoSuch_Full := fa_s_NoSuch_Full
  s_NoText_Full := fa_s_NoText_Full
  s_NoWidth_Full := fa_s_NoWidth_Full
  s_Twice_Full := fa_s_Twice_Full
  s_MillError_Full := fa_s_MillError_Full
  i_NoDeed := fa_i_NoDeed
  se_NoDeed := fa_se_NoDeed
  s_Full_NoDeed := fa_s_Full_NoDeed
  s_NoDeed_NoDeed := fa_s_NoDeed_NoDeed
  s_NoLine_NoDeed := fa_s_NoLine_NoDeed
  s_NoMachine_NoDeed := fa_s_NoMachine_NoDeed
  s_NoName_NoDeed := fa_s_NoName_NoDeed
  s_NoPaper_NoDeed := fa_s_NoPaper_NoDeed
  s_NoSize_NoDeed := fa_s_NoSize_NoDeed
  s_NoSuch_NoDeed := fa_s_NoSuch_NoDeed
  s_NoText_NoDeed := fa_s_NoText_NoDeed
  s_NoWidth_NoDeed := fa_s_NoWidth_NoDeed
  s_Twice_NoDeed := fa_s_Twice_NoDeed
  s_MillError_NoDeed := fa_s_MillError_NoDeed
  i_NoLine := fa_i_NoLine
  se_NoLine := fa_se_NoLine
  s_Full_NoLine := fa_s_Full_NoLine
  s_NoDeed_NoLine := fa_s_NoDeed_NoLine
  s_NoLine_NoLine := fa_s_NoLine_NoLine
  s_NoMachine_NoLine := fa_s_NoMachine_NoLine
  s_NoName_NoLine := fa_s_NoName_NoLine
  s_NoPaper_NoLine := fa_s_NoPaper_NoLine
  s_NoSize_NoLine := fa_s_NoSize_NoLine
  s_NoSuch_NoLine := fa_s_NoSuch_NoLine
  s_NoText_NoLine := fa_s_NoText_NoLine
  s_NoWidth_NoLine := fa_s_NoWidth_NoLine
  s_Twice_NoLine := fa_s_Twice_NoLine
  s_MillError_NoLine := fa_s_MillError_NoLine
  i_NoMachine := fa_i_NoMachine
  se_NoMachine := fa_se_NoMachine
  s_Full_NoMachine := fa_s_Full_NoMachine
  s_NoDeed_NoMachine := fa_s_NoDeed_NoMachine
  s_NoLine_NoMachine := fa_s_NoLine_NoMachine
  s_NoMachine_NoMachine := fa_s_NoMachine_NoMachine
  s_NoName_NoMachine := fa_s_NoName_NoMachine
  s_NoPaper_NoMachine := fa_s_NoPaper_NoMachine
  s_NoSize_NoMachine := fa_s_NoSize_NoMachine
  s_NoSuch_NoMachine := fa_s_NoSuch_NoMachine
  s_NoText_NoMachine := fa_s_NoText_NoMachine
  s_NoWidth_NoMachine := fa_s_NoWidth_NoMachine
  s_Twice_NoMachine := fa_s_Twice_NoMachine
  s_MillError_NoMachine := fa_s_MillError_NoMachine
  i_NoName := fa_i_NoName
  se_NoName := fa_se_NoName
  s_Full_NoName := fa_s_Full_NoName
  s_NoDeed_NoName := fa_s_NoDeed_NoName
  s_NoLine_NoName := fa_s_NoLine_NoName
  s_NoMachine_NoName := fa_s_NoMachine_NoName
  s_NoName_NoName := fa_s_NoName_NoName
  s_NoPaper_NoName := fa_s_NoPaper_NoName
  s_NoSize_NoName := fa_s_NoSize_NoName
  s_NoSuch_NoName := fa_s_NoSuch_NoName
  s_NoText_NoName := fa_s_NoText_NoName
  s_NoWidth_NoName := fa_s_NoWidth_NoName
  s_Twice_NoName := fa_s_Twice_NoName
  s_MillError_NoName := fa_s_MillError_NoName
  i_NoPaper := fa_i_NoPaper
  se_NoPaper := fa_se_NoPaper
  s_Full_NoPaper := fa_s_Full_NoPaper
  s_NoDeed_NoPaper := fa_s_NoDeed_NoPaper
  s_NoLine_NoPaper := fa_s_NoLine_NoPaper
  s_NoMachine_NoPaper := fa_s_NoMachine_NoPaper
  s_NoName_NoPaper := fa_s_NoName_NoPaper
  s_NoPaper_NoPaper := fa_s_NoPaper_NoPaper
  s_NoSize_NoPaper := fa_s_NoSize_NoPaper
  s_NoSuch_NoPaper := fa_s_NoSuch_NoPaper
  s_NoText_NoPaper := fa_s_NoText_NoPaper
  s_NoWidth_NoPaper := fa_s_NoWidth_NoPaper
  s_Twice_NoPaper := fa_s_Twice_NoPaper
  s_MillError_NoPaper := fa_s_MillError_NoPaper
  i_NoSize := fa_i_NoSize
  se_NoSize := fa_se_NoSize
  s_Full_NoSize := fa_s_Full_NoSize
  s_NoDeed_NoSize := fa_s_NoDeed_NoSize
  s_NoLine_NoSize := fa_s_NoLine_NoSize
  s_NoMachine_NoSize := fa_s_NoMachine_NoSize
  s_NoName_NoSize := fa_s_NoName_NoSize
  s_NoPaper_NoSize := fa_s_NoPaper_NoSize
  s_NoSize_NoSize := fa_s_NoSize_NoSize
  s_NoSuch_NoSize := fa_s_NoSuch_NoSize
  s_NoText_NoSize := fa_s_NoText_NoSize
  s_NoWidth_NoSize := fa_s_NoWidth_NoSize
  s_Twice_NoSize := fa_s_Twice_NoSize
  s_MillError_NoSize := fa_s_MillError_NoSize
  i_NoSuch := fa_i_NoSuch
  se_NoSuch := fa_se_NoSuch
  s_Full_NoSuch := fa_s_Full_NoSuch
  s_NoDeed_NoSuch := fa_s_NoDeed_NoSuch
  s_NoLine_NoSuch := fa_s_NoLine_NoSuch
  s_NoMachine_NoSuch := fa_s_NoMachine_NoSuch
  s_NoName_NoSuch := fa_s_NoName_NoSuch
  s_NoPaper_NoSuch := fa_s_NoPaper_NoSuch
  s_NoSize_NoSuch := fa_s_NoSize_NoSuch
  s_NoSuch_NoSuch := fa_s_NoSuch_NoSuch
  s_NoText_NoSuch := fa_s_NoText_NoSuch
  s_NoWidth_NoSuch := fa_s_NoWidth_NoSuch
  s_Twice_NoSuch := fa_s_Twice_NoSuch
  s_MillError_NoSuch := fa_s_MillError_NoSuch
  i_NoText := fa_i_NoText
  se_NoText := fa_se_NoText
  s_Full_NoText := fa_s_Full_NoText
  s_NoDeed_NoText := fa_s_NoDeed_NoText
  s_NoLine_NoText := fa_s_NoLine_NoText
  s_NoMachine_NoText := fa_s_NoMachine_NoText
  s_NoName_NoText := fa_s_NoName_NoText
  s_NoPaper_NoText := fa_s_NoPaper_NoText
  s_NoSize_NoText := fa_s_NoSize_NoText
  s_NoSuch_NoText := fa_s_NoSuch_NoText
  s_NoText_NoText := fa_s_NoText_NoText
  s_NoWidth_NoText := fa_s_NoWidth_NoText
  s_Twice_NoText := fa_s_Twice_NoText
  s_MillError_NoText := fa_s_MillError_NoText
  i_NoWidth := fa_i_NoWidth
  se_NoWidth := fa_se_NoWidth
  s_Full_NoWidth := fa_s_Full_NoWidth
  s_NoDeed_NoWidth := fa_s_NoDeed_NoWidth
  s_NoLine_NoWidth := fa_s_NoLine_NoWidth
  s_NoMachine_NoWidth := fa_s_NoMachine_NoWidth
  s_NoName_NoWidth := fa_s_NoName_NoWidth
  s_NoPaper_NoWidth := fa_s_NoPaper_NoWidth
  s_NoSize_NoWidth := fa_s_NoSize_NoWidth
  s_NoSuch_NoWidth := fa_s_NoSuch_NoWidth
  s_NoText_NoWidth := fa_s_NoText_NoWidth
  s_NoWidth_NoWidth := fa_s_NoWidth_NoWidth
  s_Twice_NoWidth := fa_s_Twice_NoWidth
  s_MillError_NoWidth := fa_s_MillError_NoWidth
  i_Twice := fa_i_Twice
  se_Twice := fa_se_Twice
  s_Full_Twice := fa_s_Full_Twice
  s_NoDeed_Twice := fa_s_NoDeed_Twice
  s_NoLine_Twice := fa_s_NoLine_Twice
  s_NoMachine_Twice := fa_s_NoMachine_Twice
  s_NoName_Twice := fa_s_NoName_Twice
  s_NoPaper_Twice := fa_s_NoPaper_Twice
  s_NoSize_Twice := fa_s_NoSize_Twice
  s_NoSuch_Twice := fa_s_NoSuch_Twice
  s_NoText_Twice := fa_s_NoText_Twice
  s_NoWidth_Twice := fa_s_NoWidth_Twice
  s_Twice_Twice := fa_s_Twice_Twice
  s_MillError_Twice := fa_s_MillError_Twice
  i_MillError := fa_i_MillError
  se_MillError := fa_se_MillError
  s_Full_ValueError := fa_s_Full_ValueError
  s_NoDeed_ValueError := fa_s_NoDeed_ValueError
  s_NoLine_ValueError := fa_s_NoLine_ValueError
  s_NoMachine_ValueError := fa_s_NoMachine_ValueError
  s_NoName_ValueError := fa_s_NoName_ValueError
  s_NoPaper_ValueError := fa_s_NoPaper_ValueError
  s_NoSize_ValueError := fa_s_NoSize_ValueError
  s_NoSuch_ValueError := fa_s_NoSuch_ValueError
  s_NoText_ValueError := fa_s_NoText_ValueError
  s_NoWidth_ValueError := fa_s_NoWidth_ValueError
  s_Twice_ValueError := fa_s_Twice_ValueError
  s_MillError_ValueError := fa_s_MillError_ValueError
theorem all_mk {l : PySem.W.OpenLaw} {w : World} {K : PySem.W.Frag} {h : Heap} {mg : Str → Option Value} {fa : Addr} (X : K.In h) (G : h.Ns mainGlobals mg) (hfa : mg "law" = some (.ref fa)) (t : Tx K mg)
    (hb : ∃ (kV dc pm : Value) (an : Option Addr) (cd ct : Value), t.fd_law = PySem.W.fnOf "law" "law" (defArgs s_law) (defBody s_law) (defScope s_law) .none kV dc pm an cd ct) :
    ∃ fd : FuncData, (∀ (s : Shared) (v : Value), BindsTo s fd ⟨[v], []⟩ [("_law_script", v)]) ∧ ∀ base : Heap, K.In base → base.Ns mainGlobals mg → FnOk l.prog w K mg base CX0 5 fa fd ["_law_script"] (sp_law K) := by
  have e := hfa.symm.trans t.m_law
  cases e
  refine ⟨t.fd_law, fun s v => ?_, fun base _ _ => ok_law t⟩
  obtain ⟨kV, dc, pm, an, cd, ct, e⟩ := hb
  rw [e]
  exact .of_eq rfl
theorem walk {l : PySem.W.OpenLaw} {q : Program} {loose : List Str} {XP : (Str → Option Value) → Heap → Prop} {YP : World → Heap → Prop} {d : DefRec} {K : Params → PySem.W.Frag} (hn : l.most = some 63) (hdf : d.params.defaults = [])
    (hY : ∀ (w : World) (h : Heap), YP w h → (K w.params).In h)
    (F : ∀ (w : World) (mg : Str → Option Value) (fa : Addr) (h : Heap), (K w.params).In h → h.Ns mainGlobals mg → mg d.name = some (.ref fa) →
      ∃ fd : FuncData, (∀ (s : Shared) (u : Value), BindsTo s fd ⟨[u], []⟩ [("_law_script", u)]) ∧ ∀ base : Heap, (K w.params).In base → base.Ns mainGlobals mg → FnOk l.prog w (K w.params) mg base CX0 5 fa fd ["_law_script"] (sp_law (K w.params))) :
    PySem.W.WalkO q loose XP YP l.row.toRowW d [] (fun f vs => PySem.call f vs) :=
  L2.walk_of (n := 63) (k := 5) (x := "_law_script") (CX := fun _ => CX0) (sp := fun w => sp_law (K w.params)) hn (by decide) hdf ⟨rfl, by decide, by decide⟩ hY F (fun _ _ a ns hl _ hS => ⟨a, ns, rfl, hS, hl, fun _ => rfl⟩) fun _ _ _ _ _ z => z
theorem all_go {l : PySem.W.OpenLaw} {w : World} {K : PySem.W.Frag} {h : Heap} {mg : Str → Option Value} {fa : Addr} {a_L_mixed a_L_purse a_is_entry a_is_machine a_must_machine a_run a_L_kinds a_L_draw a_law C_NoMachine C_Full C_NoDeed C_NoLine C_NoName C_NoPaper C_NoSize C_NoSuch C_NoText C_NoWidth C_Twice C_MillError : Addr} {od_L_mixed an_L_mixed od_L_purse an_L_purse od_is_entry an_is_entry od_is_machine an_is_machine od_must_machine an_must_machine od_run an_run od_L_kinds an_L_kinds od_L_draw an_L_draw od_law an_law : Option Addr} {sl_L_mixed sl_L_purse sl_is_entry sl_is_machine sl_must_machine sl_run sl_L_kinds sl_L_draw sl_law : Array (Option Value)} {oc_L_mixed kV_L_mixed dc_L_mixed pm_L_mixed cd_L_mixed ct_L_mixed oc_L_purse kV_L_purse dc_L_purse pm_L_purse cd_L_purse ct_L_purse oc_is_entry kV_is_entry dc_is_entry pm_is_entry cd_is_entry ct_is_entry oc_is_machine kV_is_machine dc_is_machine pm_is_machine cd_is_machine ct_is_machine oc_must_machine kV_must_machine dc_must_machine pm_must_machine cd_must_machine ct_must_machine oc_run kV_run dc_run pm_run cd_run ct_run oc_L_kinds kV_L_kinds dc_L_kinds pm_L_kinds cd_L_kinds ct_L_kinds oc_L_draw kV_L_draw dc_L_draw pm_L_draw cd_L_draw ct_L_draw oc_law kV_law dc_law pm_law cd_law ct_law : Value} {tk_MOST_ROWS tk_MOST_SIGNS : Tok} (X : K.In h) (G : h.Ns mainGlobals mg) (hfa : mg "law" = some (.ref fa))
    (n_NoMachine : PySem.W.nsIn K mainGlobals "NoMachine" = some (some (.ref C_NoMachine)))
    (n_Full : PySem.W.nsIn K mainGlobals "Full" = some (some (.ref C_Full)))
    (n_NoDeed : PySem.W.nsIn K mainGlobals "NoDeed" = some (some (.ref C_NoDeed)))
    (n_NoLine : PySem.W.nsIn K mainGlobals "NoLine" = some (some (.ref C_NoLine)))
    (n_NoName : PySem.W.nsIn K mainGlobals "NoName" = some (some (.ref C_NoName)))
    (n_NoPaper : PySem.W.nsIn K mainGlobals "NoPaper" = some (some (.ref C_NoPaper)))
    (n_NoSize : PySem.W.nsIn K mainGlobals "NoSize" = some (some (.ref C_NoSize)))
    (n_NoSuch : PySem.W.nsIn K mainGlobals "NoSuch" = some (some (.ref C_NoSuch)))
    (n_NoText : PySem.W.nsIn K mainGlobals "NoText" = some (some (.ref C_NoText)))
    (n_NoWidth : PySem.W.nsIn K mainGlobals "NoWidth" = some (some (.ref C_NoWidth)))
    (n_Twice : PySem.W.nsIn K mainGlobals "Twice" = some (some (.ref C_Twice)))
    (n_MillError : PySem.W.nsIn K mainGlobals "MillError" = some (some (.ref C_MillError)))
    (n_L_mixed : PySem.W.nsIn K mainGlobals "_law_mixed" = some (some (.ref a_L_mixed)))
    (l_L_mixed : K.lookup a_L_mixed = some ⟨oc_L_mixed, od_L_mixed, .func (PySem.W.fnOf "_law_mixed" "_law_mixed" (defArgs s_L_mixed) (defBody s_L_mixed) (defScope s_L_mixed) .none kV_L_mixed dc_L_mixed pm_L_mixed an_L_mixed cd_L_mixed ct_L_mixed), sl_L_mixed⟩)
    (c_L_mixed : PySem.W.codeIn K cd_L_mixed "_law_mixed" = true)
    (k_L_mixed : PySem.W.keepIn K (.ref a_L_mixed) = true)
    (n_L_purse : PySem.W.nsIn K mainGlobals "_law_purse" = some (some (.ref a_L_purse)))
    (l_L_purse : K.lookup a_L_purse = some ⟨oc_L_purse, od_L_purse, .func (PySem.W.fnOf "_law_purse" "_law_purse" (defArgs s_L_purse) (defBody s_L_purse) (defScope s_L_purse) .none kV_L_purse dc_L_purse pm_L_purse an_L_purse cd_L_purse ct_L_purse), sl_L_purse⟩)
    (c_L_purse : PySem.W.codeIn K cd_L_purse "_law_purse" = true)
    (k_L_purse : PySem.W.keepIn K (.ref a_L_purse) = true)
    (n_is_entry : PySem.W.nsIn K mainGlobals "is_entry" = some (some (.ref a_is_entry)))
    (l_is_entry : K.lookup a_is_entry = some ⟨oc_is_entry, od_is_entry, .func (PySem.W.fnOf "is_entry" "is_entry" (defArgs s_is_entry) (defBody s_is_entry) (defScope s_is_entry) .none kV_is_entry dc_is_entry pm_is_entry an_is_entry cd_is_entry ct_is_entry), sl_is_entry⟩)
    (c_is_entry : PySem.W.codeIn K cd_is_entry "is_entry" = true)
    (k_is_entry : PySem.W.keepIn K (.ref a_is_entry) = true)
    (n_is_machine : PySem.W.nsIn K mainGlobals "is_machine" = some (some (.ref a_is_machine)))
    (l_is_machine : K.lookup a_is_machine = some ⟨oc_is_machine, od_is_machine, .func (PySem.W.fnOf "is_machine" "is_machine" (defArgs s_is_machine) (defBody s_is_machine) (defScope s_is_machine) .none kV_is_machine dc_is_machine pm_is_machine an_is_machine cd_is_machine ct_is_machine), sl_is_machine⟩)
    (c_is_machine : PySem.W.codeIn K cd_is_machine "is_machine" = true)
    (k_is_machine : PySem.W.keepIn K (.ref a_is_machine) = true)
    (n_must_machine : PySem.W.nsIn K mainGlobals "must_machine" = some (some (.ref a_must_machine)))
    (l_must_machine : K.lookup a_must_machine = some ⟨oc_must_machine, od_must_machine, .func (PySem.W.fnOf "must_machine" "must_machine" (defArgs s_must_machine) (defBody s_must_machine) (defScope s_must_machine) .none kV_must_machine dc_must_machine pm_must_machine an_must_machine cd_must_machine ct_must_machine), sl_must_machine⟩)
    (c_must_machine : PySem.W.codeIn K cd_must_machine "must_machine" = true)
    (k_must_machine : PySem.W.keepIn K (.ref a_must_machine) = true)
    (n_run : PySem.W.nsIn K mainGlobals "run" = some (some (.ref a_run)))
    (l_run : K.lookup a_run = some ⟨oc_run, od_run, .func (PySem.W.fnOf "run" "run" (defArgs s_run) (defBody s_run) (defScope s_run) .none kV_run dc_run pm_run an_run cd_run ct_run), sl_run⟩)
    (c_run : PySem.W.codeIn K cd_run "run" = true)
    (k_run : PySem.W.keepIn K (.ref a_run) = true)
    (n_L_kinds : PySem.W.nsIn K mainGlobals "_law_kinds" = some (some (.ref a_L_kinds)))
    (l_L_kinds : K.lookup a_L_kinds = some ⟨oc_L_kinds, od_L_kinds, .func (PySem.W.fnOf "_law_kinds" "_law_kinds" (defArgs s_L_kinds) (defBody s_L_kinds) (defScope s_L_kinds) .none kV_L_kinds dc_L_kinds pm_L_kinds an_L_kinds cd_L_kinds ct_L_kinds), sl_L_kinds⟩)
    (c_L_kinds : PySem.W.codeIn K cd_L_kinds "_law_kinds" = true)
    (k_L_kinds : PySem.W.keepIn K (.ref a_L_kinds) = true)
    (n_L_draw : PySem.W.nsIn K mainGlobals "_law_draw" = some (some (.ref a_L_draw)))
    (l_L_draw : K.lookup a_L_draw = some ⟨oc_L_draw, od_L_draw, .func (PySem.W.fnOf "_law_draw" "_law_draw" (defArgs s_L_draw) (defBody s_L_draw) (defScope s_L_draw) .none kV_L_draw dc_L_draw pm_L_draw an_L_draw cd_L_draw ct_L_draw), sl_L_draw⟩)
    (c_L_draw : PySem.W.codeIn K cd_L_draw "_law_draw" = true)
    (k_L_draw : PySem.W.keepIn K (.ref a_L_draw) = true)
    (n_law : PySem.W.nsIn K mainGlobals "law" = some (some (.ref a_law)))
    (l_law : K.lookup a_law = some ⟨oc_law, od_law, .func (PySem.W.fnOf "law" "law" (defArgs s_law) (defBody s_law) (defScope s_law) .none kV_law dc_law pm_law an_law cd_law ct_law), sl_law⟩)
    (c_law : PySem.W.codeIn K cd_law "law" = true)
    (k_law : PySem.W.keepIn K (.ref a_law) = true)
    (n_MOST_ROWS : PySem.W.nsIn K mainGlobals "MOST_ROWS" = some (some (.int 4 tk_MOST_ROWS)))
    (n_MOST_SIGNS : PySem.W.nsIn K mainGlobals "MOST_SIGNS" = some (some (.int 4 tk_MOST_SIGNS)))
    (z_range : PySem.W.nsIn K mainGlobals "range" = some none)
    (z_len : PySem.W.nsIn K mainGlobals "len" = some none)
    (z_abs : PySem.W.nsIn K mainGlobals "abs" = some none)
    (z_all : PySem.W.nsIn K mainGlobals "all" = some none)
    (z_isinstance : PySem.W.nsIn K mainGlobals "isinstance" = some none)
    (z_enumerate : PySem.W.nsIn K mainGlobals "enumerate" = some none)
    (z_ValueError : PySem.W.nsIn K mainGlobals "ValueError" = some none)
    (fa_x_Full : PySem.W.excIn K C_Full [.type "ValueError", .type "Exception", .type "BaseException", .type "object"] "ValueError.__new__" = true)
    (fa_x_NoDeed : PySem.W.excIn K C_NoDeed [.type "ValueError", .type "Exception", .type "BaseException", .type "object"] "ValueError.__new__" = true)
    (fa_x_NoLine : PySem.W.excIn K C_NoLine [.type "ValueError", .type "Exception", .type "BaseException", .type "object"] "ValueError.__new__" = true)
    (fa_x_NoMachine : PySem.W.excIn K C_NoMachine [.type "ValueError", .type "Exception", .type "BaseException", .type "object"] "ValueError.__new__" = true)
    (fa_x_NoName : PySem.W.excIn K C_NoName [.type "ValueError", .type "Exception", .type "BaseException", .type "object"] "ValueError.__new__" = true)
    (fa_x_NoPaper : PySem.W.excIn K C_NoPaper [.type "ValueError", .type "Exception", .type "BaseException", .type "object"] "ValueError.__new__" = true)
    (fa_x_NoSize : PySem.W.excIn K C_NoSize [.type "ValueError", .type "Exception", .type "BaseException", .type "object"] "ValueError.__new__" = true)
    (fa_x_NoSuch : PySem.W.excIn K C_NoSuch [.type "ValueError", .type "Exception", .type "BaseException", .type "object"] "ValueError.__new__" = true)
    (fa_x_NoText : PySem.W.excIn K C_NoText [.type "ValueError", .type "Exception", .type "BaseException", .type "object"] "ValueError.__new__" = true)
    (fa_x_NoWidth : PySem.W.excIn K C_NoWidth [.type "ValueError", .type "Exception", .type "BaseException", .type "object"] "ValueError.__new__" = true)
    (fa_x_Twice : PySem.W.excIn K C_Twice [.type "ValueError", .type "Exception", .type "BaseException", .type "object"] "ValueError.__new__" = true)
    (fa_x_MillError : PySem.W.excIn K C_MillError [.type "ValueError", .type "Exception", .type "BaseException", .type "object"] "ValueError.__new__" = true)
    (fa_k_Full : PySem.W.keepIn K (.ref C_Full) = true)
    (fa_b_Full : PySem.W.subIn K (.ref C_Full) (.type "BaseException") = some true)
    (fa_t_Full : PySem.W.typeIn K (.ref C_Full) = some (.type "type"))
    (fa_h_Full : PySem.W.hasDictIn K C_Full = true)
    (fa_k_NoDeed : PySem.W.keepIn K (.ref C_NoDeed) = true)
    (fa_b_NoDeed : PySem.W.subIn K (.ref C_NoDeed) (.type "BaseException") = some true)
    (fa_t_NoDeed : PySem.W.typeIn K (.ref C_NoDeed) = some (.type "type"))
    (fa_h_NoDeed : PySem.W.hasDictIn K C_NoDeed = true)
    (fa_k_NoLine : PySem.W.keepIn K (.ref C_NoLine) = true)
    (fa_b_NoLine : PySem.W.subIn K (.ref C_NoLine) (.type "BaseException") = some true)
    (fa_t_NoLine : PySem.W.typeIn K (.ref C_NoLine) = some (.type "type"))
    (fa_h_NoLine : PySem.W.hasDictIn K C_NoLine = true)
    (fa_k_NoMachine : PySem.W.keepIn K (.ref C_NoMachine) = true)
    (fa_b_NoMachine : PySem.W.subIn K (.ref C_NoMachine) (.type "BaseException") = some true)
    (fa_t_NoMachine : PySem.W.typeIn K (.ref C_NoMachine) = some (.type "type"))
    (fa_h_NoMachine : PySem.W.hasDictIn K C_NoMachine = true)
    (fa_k_NoName : PySem.W.keepIn K (.ref C_NoName) = true)
    (fa_b_NoName : PySem.W.subIn K (.ref C_NoName) (.type "BaseException") = some true)
    (fa_t_NoName : PySem.W.typeIn K (.ref C_NoName) = some (.type "type"))
    (fa_h_NoName : PySem.W.hasDictIn K C_NoName = true)
    (fa_k_NoPaper : PySem.W.keepIn K (.ref C_NoPaper) = true)
    (fa_b_NoPaper : PySem.W.subIn K (.ref C_NoPaper) (.type "BaseException") = some true)
    (fa_t_NoPaper : PySem.W.typeIn K (.ref C_NoPaper) = some (.type "type"))
    (fa_h_NoPaper : PySem.W.hasDictIn K C_NoPaper = true)
    (fa_k_NoSize : PySem.W.keepIn K (.ref C_NoSize) = true)
    (fa_b_NoSize : PySem.W.subIn K (.ref C_NoSize) (.type "BaseException") = some true)
    (fa_t_NoSize : PySem.W.typeIn K (.ref C_NoSize) = some (.type "type"))
    (fa_h_NoSize : PySem.W.hasDictIn K C_NoSize = true)
    (fa_k_NoSuch : PySem.W.keepIn K (.ref C_NoSuch) = true)
    (fa_b_NoSuch : PySem.W.subIn K (.ref C_NoSuch) (.type "BaseException") = some true)
    (fa_t_NoSuch : PySem.W.typeIn K (.ref C_NoSuch) = some (.type "type"))
    (fa_h_NoSuch : PySem.W.hasDictIn K C_NoSuch = true)
    (fa_k_NoText : PySem.W.keepIn K (.ref C_NoText) = true)
    (fa_b_NoText : PySem.W.subIn K (.ref C_NoText) (.type "BaseException") = some true)
    (fa_t_NoText : PySem.W.typeIn K (.ref C_NoText) = some (.type "type"))
    (fa_h_NoText : PySem.W.hasDictIn K C_NoText = true)
    (fa_k_NoWidth : PySem.W.keepIn K (.ref C_NoWidth) = true)
    (fa_b_NoWidth : PySem.W.subIn K (.ref C_NoWidth) (.type "BaseException") = some true)
    (fa_t_NoWidth : PySem.W.typeIn K (.ref C_NoWidth) = some (.type "type"))
    (fa_h_NoWidth : PySem.W.hasDictIn K C_NoWidth = true)
    (fa_k_Twice : PySem.W.keepIn K (.ref C_Twice) = true)
    (fa_b_Twice : PySem.W.subIn K (.ref C_Twice) (.type "BaseException") = some true)
    (fa_t_Twice : PySem.W.typeIn K (.ref C_Twice) = some (.type "type"))
    (fa_h_Twice : PySem.W.hasDictIn K C_Twice = true)
    (fa_k_MillError : PySem.W.keepIn K (.ref C_MillError) = true)
    (fa_b_MillError : PySem.W.subIn K (.ref C_MillError) (.type "BaseException") = some true)
    (fa_t_MillError : PySem.W.typeIn K (.ref C_MillError) = some (.type "type"))
    (fa_h_MillError : PySem.W.hasDictIn K C_MillError = true)
    (fa_hg_Full : PySem.W.findIn K (.ref C_Full) "__getattribute__" = some (some (.builtin "BaseException.__getattribute__")))
    (fa_hk_Full : PySem.W.findIn K (.ref C_Full) "__getattr__" = some none)
    (fa_ha_Full : PySem.W.findIn K (.ref C_Full) "__class__" = some (some (.builtin "object.__class__")))
    (fa_hm_Full : PySem.W.mroIn K C_Full (.type "object") = some true)
    (fa_s_Full_MillError : PySem.W.subIn K (.ref C_Full) (.ref C_MillError) = some true)
    (fa_hg_NoDeed : PySem.W.findIn K (.ref C_NoDeed) "__getattribute__" = some (some (.builtin "BaseException.__getattribute__")))
    (fa_hk_NoDeed : PySem.W.findIn K (.ref C_NoDeed) "__getattr__" = some none)
    (fa_ha_NoDeed : PySem.W.findIn K (.ref C_NoDeed) "__class__" = some (some (.builtin "object.__class__")))
    (fa_hm_NoDeed : PySem.W.mroIn K C_NoDeed (.type "object") = some true)
    (fa_s_NoDeed_MillError : PySem.W.subIn K (.ref C_NoDeed) (.ref C_MillError) = some true)
    (fa_hg_NoLine : PySem.W.findIn K (.ref C_NoLine) "__getattribute__" = some (some (.builtin "BaseException.__getattribute__")))
    (fa_hk_NoLine : PySem.W.findIn K (.ref C_NoLine) "__getattr__" = some none)
    (fa_ha_NoLine : PySem.W.findIn K (.ref C_NoLine) "__class__" = some (some (.builtin "object.__class__")))
    (fa_hm_NoLine : PySem.W.mroIn K C_NoLine (.type "object") = some true)
    (fa_s_NoLine_MillError : PySem.W.subIn K (.ref C_NoLine) (.ref C_MillError) = some true)
    (fa_hg_NoMachine : PySem.W.findIn K (.ref C_NoMachine) "__getattribute__" = some (some (.builtin "BaseException.__getattribute__")))
    (fa_hk_NoMachine : PySem.W.findIn K (.ref C_NoMachine) "__getattr__" = some none)
    (fa_ha_NoMachine : PySem.W.findIn K (.ref C_NoMachine) "__class__" = some (some (.builtin "object.__class__")))
    (fa_hm_NoMachine : PySem.W.mroIn K C_NoMachine (.type "object") = some true)
    (fa_s_NoMachine_MillError : PySem.W.subIn K (.ref C_NoMachine) (.ref C_MillError) = some true)
    (fa_hg_NoName : PySem.W.findIn K (.ref C_NoName) "__getattribute__" = some (some (.builtin "BaseException.__getattribute__")))
    (fa_hk_NoName : PySem.W.findIn K (.ref C_NoName) "__getattr__" = some none)
    (fa_ha_NoName : PySem.W.findIn K (.ref C_NoName) "__class__" = some (some (.builtin "object.__class__")))
    (fa_hm_NoName : PySem.W.mroIn K C_NoName (.type "object") = some true)
    (fa_s_NoName_MillError : PySem.W.subIn K (.ref C_NoName) (.ref C_MillError) = some true)
    (fa_hg_NoPaper : PySem.W.findIn K (.ref C_NoPaper) "__getattribute__" = some (some (.builtin "BaseException.__getattribute__")))
    (fa_hk_NoPaper : PySem.W.findIn K (.ref C_NoPaper) "__getattr__" = some none)
    (fa_ha_NoPaper : PySem.W.findIn K (.ref C_NoPaper) "__class__" = some (some (.builtin "object.__class__")))
    (fa_hm_NoPaper : PySem.W.mroIn K C_NoPaper (.type "object") = some true)
    (fa_s_NoPaper_MillError : PySem.W.subIn K (.ref C_NoPaper) (.ref C_MillError) = some true)
    (fa_hg_NoSize : PySem.W.findIn K (.ref C_NoSize) "__getattribute__" = some (some (.builtin "BaseException.__getattribute__")))
    (fa_hk_NoSize : PySem.W.findIn K (.ref C_NoSize) "__getattr__" = some none)
    (fa_ha_NoSize : PySem.W.findIn K (.ref C_NoSize) "__class__" = some (some (.builtin "object.__class__")))
    (fa_hm_NoSize : PySem.W.mroIn K C_NoSize (.type "object") = some true)
    (fa_s_NoSize_MillError : PySem.W.subIn K (.ref C_NoSize) (.ref C_MillError) = some true)
    (fa_hg_NoSuch : PySem.W.findIn K (.ref C_NoSuch) "__getattribute__" = some (some (.builtin "BaseException.__getattribute__")))
    (fa_hk_NoSuch : PySem.W.findIn K (.ref C_NoSuch) "__getattr__" = some none)
    (fa_ha_NoSuch : PySem.W.findIn K (.ref C_NoSuch) "__class__" = some (some (.builtin "object.__class__")))
    (fa_hm_NoSuch : PySem.W.mroIn K C_NoSuch (.type "object") = some true)
    (fa_s_NoSuch_MillError : PySem.W.subIn K (.ref C_NoSuch) (.ref C_MillError) = some true)
    (fa_hg_NoText : PySem.W.findIn K (.ref C_NoText) "__getattribute__" = some (some (.builtin "BaseException.__getattribute__")))
    (fa_hk_NoText : PySem.W.findIn K (.ref C_NoText) "__getattr__" = some none)
    (fa_ha_NoText : PySem.W.findIn K (.ref C_NoText) "__class__" = some (some (.builtin "object.__class__")))
    (fa_hm_NoText : PySem.W.mroIn K C_NoText (.type "object") = some true)
    (fa_s_NoText_MillError : PySem.W.subIn K (.ref C_NoText) (.ref C_MillError) = some true)
    (fa_hg_NoWidth : PySem.W.findIn K (.ref C_NoWidth) "__getattribute__" = some (some (.builtin "BaseException.__getattribute__")))
    (fa_hk_NoWidth : PySem.W.findIn K (.ref C_NoWidth) "__getattr__" = some none)
    (fa_ha_NoWidth : PySem.W.findIn K (.ref C_NoWidth) "__class__" = some (some (.builtin "object.__class__")))
    (fa_hm_NoWidth : PySem.W.mroIn K C_NoWidth (.type "object") = some true)
    (fa_s_NoWidth_MillError : PySem.W.subIn K (.ref C_NoWidth) (.ref C_MillError) = some true)
    (fa_hg_Twice : PySem.W.findIn K (.ref C_Twice) "__getattribute__" = some (some (.builtin "BaseException.__getattribute__")))
    (fa_hk_Twice : PySem.W.findIn K (.ref C_Twice) "__getattr__" = some none)
    (fa_ha_Twice : PySem.W.findIn K (.ref C_Twice) "__class__" = some (some (.builtin "object.__class__")))
    (fa_hm_Twice : PySem.W.mroIn K C_Twice (.type "object") = some true)
    (fa_s_Twice_MillError : PySem.W.subIn K (.ref C_Twice) (.ref C_MillError) = some true)
    (fa_hg_MillError : PySem.W.findIn K (.ref C_MillError) "__getattribute__" = some (some (.builtin "BaseException.__getattribute__")))
    (fa_hk_MillError : PySem.W.findIn K (.ref C_MillError) "__getattr__" = some none)
    (fa_ha_MillError : PySem.W.findIn K (.ref C_MillError) "__class__" = some (some (.builtin "object.__class__")))
    (fa_hm_MillError : PySem.W.mroIn K C_MillError (.type "object") = some true)
    (fa_s_MillError_MillError : PySem.W.subIn K (.ref C_MillError) (.ref C_MillError) = some true)
    (fa_hn_ : PySem.W.specialIn K (.builtin "object.__class__") "__get__" = some (some (.builtin "getset_descriptor.__get__")))
    (fa_ht_ : PySem.W.takesIn K (.builtin "object.__class__") = some true)
    (fa_i_Full : PySem.W.isClsIn K C_Full = true)
    (fa_se_Full : PySem.W.subIn K (.ref C_Full) (.ref C_Full) = some true)
    (fa_s_Full_Full : PySem.W.subIn K (.ref C_Full) (.ref C_Full) = some true)
    (fa_s_NoDeed_Full : PySem.W.subIn K (.ref C_NoDeed) (.ref C_Full) = some false)
    (fa_s_NoLine_Full : PySem.W.subIn K (.ref C_NoLine) (.ref C_Full) = some false)
    (fa_s_NoMachine_Full : PySem.W.subIn K (.ref C_NoMachine) (.ref C_Full) = some false)
    (fa_s_NoName_Full : PySem.W.subIn K (.ref C_NoName) (.ref C_Full) = some false)
    (fa_s_NoPaper_Full : PySem.W.subIn K (.ref C_NoPaper) (.ref C_Full) = some false)
    (fa_s_NoSize_Full : PySem.W.subIn K (.ref C_NoSize) (.ref C_Full) = some false)
    (fa_s_NoSuch_Full : PySem.W.subIn K (.ref C_NoSuch) (.ref C_Full) = some false)
    (fa_s_NoText_Full : PySem.W.subIn K (.ref C_NoText) (.ref C_Full) = some false)
    (fa_s_NoWidth_Full : PySem.W.subIn K (.ref C_NoWidth) (.ref C_Full) = some false)
    (fa_s_Twice_Full : PySem.W.subIn K (.ref C_Twice) (.ref C_Full) = some false)
    (fa_s_MillError_Full : PySem.W.subIn K (.ref C_MillError) (.ref C_Full) = some false)
    (fa_i_NoDeed : PySem.W.isClsIn K C_NoDeed = true)
    (fa_se_NoDeed : PySem.W.subIn K (.ref C_NoDeed) (.ref C_NoDeed) = some true)
    (fa_s_Full_NoDeed : PySem.W.subIn K (.ref C_Full) (.ref C_NoDeed) = some false)
    (fa_s_NoDeed_NoDeed : PySem.W.subIn K (.ref C_NoDeed) (.ref C_NoDeed) = some true)
    (fa_s_NoLine_NoDeed : PySem.W.subIn K (.ref C_NoLine) (.ref C_NoDeed) = some false)
    (fa_s_NoMachine_NoDeed : PySem.W.subIn K (.ref C_NoMachine) (.ref C_NoDeed) = some false)
    (fa_s_NoName_NoDeed : PySem.W.subIn K (.ref C_NoName) (.ref C_NoDeed) = some false)
    (fa_s_NoPaper_NoDeed : PySem.W.subIn K (.ref C_NoPaper) (.ref C_NoDeed) = some false)
    (fa_s_NoSize_NoDeed : PySem.W.subIn K (.ref C_NoSize) (.ref C_NoDeed) = some false)
    (fa_s_NoSuch_NoDeed : PySem.W.subIn K (.ref C_NoSuch) (.ref C_NoDeed) = some false)
    (fa_s_NoText_NoDeed : PySem.W.subIn K (.ref C_NoText) (.ref C_NoDeed) = some false)
    (fa_s_NoWidth_NoDeed : PySem.W.subIn K (.ref C_NoWidth) (.ref C_NoDeed) = some false)
    (fa_s_Twice_NoDeed : PySem.W.subIn K (.ref C_Twice) (.ref C_NoDeed) = some false)
    (fa_s_MillError_NoDeed : PySem.W.subIn K (.ref C_MillError) (.ref C_NoDeed) = some false)
    (fa_i_NoLine : PySem.W.isClsIn K C_NoLine = true)
    (fa_se_NoLine : PySem.W.subIn K (.ref C_NoLine) (.ref C_NoLine) = some true)
    (fa_s_Full_NoLine : PySem.W.subIn K (.ref C_Full) (.ref C_NoLine) = some false)
    (fa_s_NoDeed_NoLine : PySem.W.subIn K (.ref C_NoDeed) (.ref C_NoLine) = some false)
    (fa_s_NoLine_NoLine : PySem.W.subIn K (.ref C_NoLine) (.ref C_NoLine) = some true)
    (fa_s_NoMachine_NoLine : PySem.W.subIn K (.ref C_NoMachine) (.ref C_NoLine) = some false)
    (fa_s_NoName_NoLine : PySem.W.subIn K (.ref C_NoName) (.ref C_NoLine) = some false)
    (fa_s_NoPaper_NoLine : PySem.W.subIn K (.ref C_NoPaper) (.ref C_NoLine) = some false)
    (fa_s_NoSize_NoLine : PySem.W.subIn K (.ref C_NoSize) (.ref C_NoLine) = some false)
    (fa_s_NoSuch_NoLine : PySem.W.subIn K (.ref C_NoSuch) (.ref C_NoLine) = some false)
    (fa_s_NoText_NoLine : PySem.W.subIn K (.ref C_NoText) (.ref C_NoLine) = some false)
    (fa_s_NoWidth_NoLine : PySem.W.subIn K (.ref C_NoWidth) (.ref C_NoLine) = some false)
    (fa_s_Twice_NoLine : PySem.W.subIn K (.ref C_Twice) (.ref C_NoLine) = some false)
    (fa_s_MillError_NoLine : PySem.W.subIn K (.ref C_MillError) (.ref C_NoLine) = some false)
    (fa_i_NoMachine : PySem.W.isClsIn K C_NoMachine = true)
    (fa_se_NoMachine : PySem.W.subIn K (.ref C_NoMachine) (.ref C_NoMachine) = some true)
    (fa_s_Full_NoMachine : PySem.W.subIn K (.ref C_Full) (.ref C_NoMachine) = some false)
    (fa_s_NoDeed_NoMachine : PySem.W.subIn K (.ref C_NoDeed) (.ref C_NoMachine) = some false)
    (fa_s_NoLine_NoMachine : PySem.W.subIn K (.ref C_NoLine) (.ref C_NoMachine) = some false)
    (fa_s_NoMachine_NoMachine : PySem.W.subIn K (.ref C_NoMachine) (.ref C_NoMachine) = some true)
    (fa_s_NoName_NoMachine : PySem.W.subIn K (.ref C_NoName) (.ref C_NoMachine) = some false)
    (fa_s_NoPaper_NoMachine : PySem.W.subIn K (.ref C_NoPaper) (.ref C_NoMachine) = some false)
    (fa_s_NoSize_NoMachine : PySem.W.subIn K (.ref C_NoSize) (.ref C_NoMachine) = some false)
    (fa_s_NoSuch_NoMachine : PySem.W.subIn K (.ref C_NoSuch) (.ref C_NoMachine) = some false)
    (fa_s_NoText_NoMachine : PySem.W.subIn K (.ref C_NoText) (.ref C_NoMachine) = some false)
    (fa_s_NoWidth_NoMachine : PySem.W.subIn K (.ref C_NoWidth) (.ref C_NoMachine) = some false)
    (fa_s_Twice_NoMachine : PySem.W.subIn K (.ref C_Twice) (.ref C_NoMachine) = some false)
    (fa_s_MillError_NoMachine : PySem.W.subIn K (.ref C_MillError) (.ref C_NoMachine) = some false)
    (fa_i_NoName : PySem.W.isClsIn K C_NoName = true)
    (fa_se_NoName : PySem.W.subIn K (.ref C_NoName) (.ref C_NoName) = some true)
    (fa_s_Full_NoName : PySem.W.subIn K (.ref C_Full) (.ref C_NoName) = some false)
    (fa_s_NoDeed_NoName : PySem.W.subIn K (.ref C_NoDeed) (.ref C_NoName) = some false)
    (fa_s_NoLine_NoName : PySem.W.subIn K (.ref C_NoLine) (.ref C_NoName) = some false)
    (fa_s_NoMachine_NoName : PySem.W.subIn K (.ref C_NoMachine) (.ref C_NoName) = some false)
    (fa_s_NoName_NoName : PySem.W.subIn K (.ref C_NoName) (.ref C_NoName) = some true)
    (fa_s_NoPaper_NoName : PySem.W.subIn K (.ref C_NoPaper) (.ref C_NoName) = some false)
    (fa_s_NoSize_NoName : PySem.W.subIn K (.ref C_NoSize) (.ref C_NoName) = some false)
    (fa_s_NoSuch_NoName : PySem.W.subIn K (.ref C_NoSuch) (.ref C_NoName) = some false)
    (fa_s_NoText_NoName : PySem.W.subIn K (.ref C_NoText) (.ref C_NoName) = some false)
    (fa_s_NoWidth_NoName : PySem.W.subIn K (.ref C_NoWidth) (.ref C_NoName) = some false)
    (fa_s_Twice_NoName : PySem.W.subIn K (.ref C_Twice) (.ref C_NoName) = some false)
    (fa_s_MillError_NoName : PySem.W.subIn K (.ref C_MillError) (.ref C_NoName) = some false)
    (fa_i_NoPaper : PySem.W.isClsIn K C_NoPaper = true)
    (fa_se_NoPaper : PySem.W.subIn K (.ref C_NoPaper) (.ref C_NoPaper) = some true)
    (fa_s_Full_NoPaper : PySem.W.subIn K (.ref C_Full) (.ref C_NoPaper) = some false)
    (fa_s_NoDeed_NoPaper : PySem.W.subIn K (.ref C_NoDeed) (.ref C_NoPaper) = some false)
    (fa_s_NoLine_NoPaper : PySem.W.subIn K (.ref C_NoLine) (.ref C_NoPaper) = some false)
    (fa_s_NoMachine_NoPaper : PySem.W.subIn K (.ref C_NoMachine) (.ref C_NoPaper) = some false)
    (fa_s_NoName_NoPaper : PySem.W.subIn K (.ref C_NoName) (.ref C_NoPaper) = some false)
    (fa_s_NoPaper_NoPaper : PySem.W.subIn K (.ref C_NoPaper) (.ref C_NoPaper) = some true)
    (fa_s_NoSize_NoPaper : PySem.W.subIn K (.ref C_NoSize) (.ref C_NoPaper) = some false)
    (fa_s_NoSuch_NoPaper : PySem.W.subIn K (.ref C_NoSuch) (.ref C_NoPaper) = some false)
    (fa_s_NoText_NoPaper : PySem.W.subIn K (.ref C_NoText) (.ref C_NoPaper) = some false)
    (fa_s_NoWidth_NoPaper : PySem.W.subIn K (.ref C_NoWidth) (.ref C_NoPaper) = some false)
    (fa_s_Twice_NoPaper : PySem.W.subIn K (.ref C_Twice) (.ref C_NoPaper) = some false)
    (fa_s_MillError_NoPaper : PySem.W.subIn K (.ref C_MillError) (.ref C_NoPaper) = some false)
    (fa_i_NoSize : PySem.W.isClsIn K C_NoSize = true)
    (fa_se_NoSize : PySem.W.subIn K (.ref C_NoSize) (.ref C_NoSize) = some true)
    (fa_s_Full_NoSize : PySem.W.subIn K (.ref C_Full) (.ref C_NoSize) = some false)
    (fa_s_NoDeed_NoSize : PySem.W.subIn K (.ref C_NoDeed) (.ref C_NoSize) = some false)
    (fa_s_NoLine_NoSize : PySem.W.subIn K (.ref C_NoLine) (.ref C_NoSize) = some false)
    (fa_s_NoMachine_NoSize : PySem.W.subIn K (.ref C_NoMachine) (.ref C_NoSize) = some false)
    (fa_s_NoName_NoSize : PySem.W.subIn K (.ref C_NoName) (.ref C_NoSize) = some false)
    (fa_s_NoPaper_NoSize : PySem.W.subIn K (.ref C_NoPaper) (.ref C_NoSize) = some false)
    (fa_s_NoSize_NoSize : PySem.W.subIn K (.ref C_NoSize) (.ref C_NoSize) = some true)
    (fa_s_NoSuch_NoSize : PySem.W.subIn K (.ref C_NoSuch) (.ref C_NoSize) = some false)
    (fa_s_NoText_NoSize : PySem.W.subIn K (.ref C_NoText) (.ref C_NoSize) = some false)
    (fa_s_NoWidth_NoSize : PySem.W.subIn K (.ref C_NoWidth) (.ref C_NoSize) = some false)
    (fa_s_Twice_NoSize : PySem.W.subIn K (.ref C_Twice) (.ref C_NoSize) = some false)
    (fa_s_MillError_NoSize : PySem.W.subIn K (.ref C_MillError) (.ref C_NoSize) = some false)
    (fa_i_NoSuch : PySem.W.isClsIn K C_NoSuch = true)
    (fa_se_NoSuch : PySem.W.subIn K (.ref C_NoSuch) (.ref C_NoSuch) = some true)
    (fa_s_Full_NoSuch : PySem.W.subIn K (.ref C_Full) (.ref C_NoSuch) = some false)
    (fa_s_NoDeed_NoSuch : PySem.W.subIn K (.ref C_NoDeed) (.ref C_NoSuch) = some false)
    (fa_s_NoLine_NoSuch : PySem.W.subIn K (.ref C_NoLine) (.ref C_NoSuch) = some false)
    (fa_s_NoMachine_NoSuch : PySem.W.subIn K (.ref C_NoMachine) (.ref C_NoSuch) = some false)
    (fa_s_NoName_NoSuch : PySem.W.subIn K (.ref C_NoName) (.ref C_NoSuch) = some false)
    (fa_s_NoPaper_NoSuch : PySem.W.subIn K (.ref C_NoPaper) (.ref C_NoSuch) = some false)
    (fa_s_NoSize_NoSuch : PySem.W.subIn K (.ref C_NoSize) (.ref C_NoSuch) = some false)
    (fa_s_NoSuch_NoSuch : PySem.W.subIn K (.ref C_NoSuch) (.ref C_NoSuch) = some true)
    (fa_s_NoText_NoSuch : PySem.W.subIn K (.ref C_NoText) (.ref C_NoSuch) = some false)
    (fa_s_NoWidth_NoSuch : PySem.W.subIn K (.ref C_NoWidth) (.ref C_NoSuch) = some false)
    (fa_s_Twice_NoSuch : PySem.W.subIn K (.ref C_Twice) (.ref C_NoSuch) = some false)
    (fa_s_MillError_NoSuch : PySem.W.subIn K (.ref C_MillError) (.ref C_NoSuch) = some false)
    (fa_i_NoText : PySem.W.isClsIn K C_NoText = true)
    (fa_se_NoText : PySem.W.subIn K (.ref C_NoText) (.ref C_NoText) = some true)
    (fa_s_Full_NoText : PySem.W.subIn K (.ref C_Full) (.ref C_NoText) = some false)
    (fa_s_NoDeed_NoText : PySem.W.subIn K (.ref C_NoDeed) (.ref C_NoText) = some false)
    (fa_s_NoLine_NoText : PySem.W.subIn K (.ref C_NoLine) (.ref C_NoText) = some false)
    (fa_s_NoMachine_NoText : PySem.W.subIn K (.ref C_NoMachine) (.ref C_NoText) = some false)
    (fa_s_NoName_NoText : PySem.W.subIn K (.ref C_NoName) (.ref C_NoText) = some false)
    (fa_s_NoPaper_NoText : PySem.W.subIn K (.ref C_NoPaper) (.ref C_NoText) = some false)
    (fa_s_NoSize_NoText : PySem.W.subIn K (.ref C_NoSize) (.ref C_NoText) = some false)
    (fa_s_NoSuch_NoText : PySem.W.subIn K (.ref C_NoSuch) (.ref C_NoText) = some false)
    (fa_s_NoText_NoText : PySem.W.subIn K (.ref C_NoText) (.ref C_NoText) = some true)
    (fa_s_NoWidth_NoText : PySem.W.subIn K (.ref C_NoWidth) (.ref C_NoText) = some false)
    (fa_s_Twice_NoText : PySem.W.subIn K (.ref C_Twice) (.ref C_NoText) = some false)
    (fa_s_MillError_NoText : PySem.W.subIn K (.ref C_MillError) (.ref C_NoText) = some false)
    (fa_i_NoWidth : PySem.W.isClsIn K C_NoWidth = true)
    (fa_se_NoWidth : PySem.W.subIn K (.ref C_NoWidth) (.ref C_NoWidth) = some true)
    (fa_s_Full_NoWidth : PySem.W.subIn K (.ref C_Full) (.ref C_NoWidth) = some false)
    (fa_s_NoDeed_NoWidth : PySem.W.subIn K (.ref C_NoDeed) (.ref C_NoWidth) = some false)
    (fa_s_NoLine_NoWidth : PySem.W.subIn K (.ref C_NoLine) (.ref C_NoWidth) = some false)
    (fa_s_NoMachine_NoWidth : PySem.W.subIn K (.ref C_NoMachine) (.ref C_NoWidth) = some false)
    (fa_s_NoName_NoWidth : PySem.W.subIn K (.ref C_NoName) (.ref C_NoWidth) = some false)
    (fa_s_NoPaper_NoWidth : PySem.W.subIn K (.ref C_NoPaper) (.ref C_NoWidth) = some false)
    (fa_s_NoSize_NoWidth : PySem.W.subIn K (.ref C_NoSize) (.ref C_NoWidth) = some false)
    (fa_s_NoSuch_NoWidth : PySem.W.subIn K (.ref C_NoSuch) (.ref C_NoWidth) = some false)
    (fa_s_NoText_NoWidth : PySem.W.subIn K (.ref C_NoText) (.ref C_NoWidth) = some false)
    (fa_s_NoWidth_NoWidth : PySem.W.subIn K (.ref C_NoWidth) (.ref C_NoWidth) = some true)
    (fa_s_Twice_NoWidth : PySem.W.subIn K (.ref C_Twice) (.ref C_NoWidth) = some false)
    (fa_s_MillError_NoWidth : PySem.W.subIn K (.ref C_MillError) (.ref C_NoWidth) = some false)
    (fa_i_Twice : PySem.W.isClsIn K C_Twice = true)
    (fa_se_Twice : PySem.W.subIn K (.ref C_Twice) (.ref C_Twice) = some true)
    (fa_s_Full_Twice : PySem.W.subIn K (.ref C_Full) (.ref C_Twice) = some false)
    (fa_s_NoDeed_Twice : PySem.W.subIn K (.ref C_NoDeed) (.ref C_Twice) = some false)
    (fa_s_NoLine_Twice : PySem.W.subIn K (.ref C_NoLine) (.ref C_Twice) = some false)
    (fa_s_NoMachine_Twice : PySem.W.subIn K (.ref C_NoMachine) (.ref C_Twice) = some false)
    (fa_s_NoName_Twice : PySem.W.subIn K (.ref C_NoName) (.ref C_Twice) = some false)
    (fa_s_NoPaper_Twice : PySem.W.subIn K (.ref C_NoPaper) (.ref C_Twice) = some false)
    (fa_s_NoSize_Twice : PySem.W.subIn K (.ref C_NoSize) (.ref C_Twice) = some false)
    (fa_s_NoSuch_Twice : PySem.W.subIn K (.ref C_NoSuch) (.ref C_Twice) = some false)
    (fa_s_NoText_Twice : PySem.W.subIn K (.ref C_NoText) (.ref C_Twice) = some false)
    (fa_s_NoWidth_Twice : PySem.W.subIn K (.ref C_NoWidth) (.ref C_Twice) = some false)
    (fa_s_Twice_Twice : PySem.W.subIn K (.ref C_Twice) (.ref C_Twice) = some true)
    (fa_s_MillError_Twice : PySem.W.subIn K (.ref C_MillError) (.ref C_Twice) = some false)
    (fa_i_MillError : PySem.W.isClsIn K C_MillError = true)
    (fa_se_MillError : PySem.W.subIn K (.ref C_MillError) (.ref C_MillError) = some true)
    (fa_s_Full_ValueError : PySem.W.subIn K (.ref C_Full) (.type "ValueError") = some true)
    (fa_s_NoDeed_ValueError : PySem.W.subIn K (.ref C_NoDeed) (.type "ValueError") = some true)
    (fa_s_NoLine_ValueError : PySem.W.subIn K (.ref C_NoLine) (.type "ValueError") = some true)
    (fa_s_NoMachine_ValueError : PySem.W.subIn K (.ref C_NoMachine) (.type "ValueError") = some true)
    (fa_s_NoName_ValueError : PySem.W.subIn K (.ref C_NoName) (.type "ValueError") = some true)
    (fa_s_NoPaper_ValueError : PySem.W.subIn K (.ref C_NoPaper) (.type "ValueError") = some true)
    (fa_s_NoSize_ValueError : PySem.W.subIn K (.ref C_NoSize) (.type "ValueError") = some true)
    (fa_s_NoSuch_ValueError : PySem.W.subIn K (.ref C_NoSuch) (.type "ValueError") = some true)
    (fa_s_NoText_ValueError : PySem.W.subIn K (.ref C_NoText) (.type "ValueError") = some true)
    (fa_s_NoWidth_ValueError : PySem.W.subIn K (.ref C_NoWidth) (.type "ValueError") = some true)
    (fa_s_Twice_ValueError : PySem.W.subIn K (.ref C_Twice) (.type "ValueError") = some true)
    (fa_s_MillError_ValueError : PySem.W.subIn K (.ref C_MillError) (.type "ValueError") = some true) :
    ∃ fd : FuncData, (∀ (s : Shared) (v : Value), BindsTo s fd ⟨[v], []⟩ [("_law_script", v)]) ∧ ∀ base : Heap, K.In base → base.Ns mainGlobals mg → FnOk l.prog w K mg base CX0 5 fa fd ["_law_script"] (sp_law K) :=
  all_mk X G hfa (all_tx X G n_NoMachine n_Full n_NoDeed n_NoLine n_NoName n_NoPaper n_NoSize n_NoSuch n_NoText n_NoWidth n_Twice n_MillError n_L_mixed l_L_mixed c_L_mixed k_L_mixed n_L_purse l_L_purse c_L_purse k_L_purse n_is_entry l_is_entry c_is_entry k_is_entry n_is_machine l_is_machine c_is_machine k_is_machine n_must_machine l_must_machine c_must_machine k_must_machine n_run l_run c_run k_run n_L_kinds l_L_kinds c_L_kinds k_L_kinds n_L_draw l_L_draw c_L_draw k_L_draw n_law l_law c_law k_law n_MOST_ROWS n_MOST_SIGNS z_range z_len z_abs z_all z_isinstance z_enumerate z_ValueError fa_x_Full fa_x_NoDeed fa_x_NoLine fa_x_NoMachine fa_x_NoName fa_x_NoPaper fa_x_NoSize fa_x_NoSuch fa_x_NoText fa_x_NoWidth fa_x_Twice fa_x_MillError fa_k_Full fa_b_Full fa_t_Full fa_h_Full fa_k_NoDeed fa_b_NoDeed fa_t_NoDeed fa_h_NoDeed fa_k_NoLine fa_b_NoLine fa_t_NoLine fa_h_NoLine fa_k_NoMachine fa_b_NoMachine fa_t_NoMachine fa_h_NoMachine fa_k_NoName fa_b_NoName fa_t_NoName fa_h_NoName fa_k_NoPaper fa_b_NoPaper fa_t_NoPaper fa_h_NoPaper fa_k_NoSize fa_b_NoSize fa_t_NoSize fa_h_NoSize fa_k_NoSuch fa_b_NoSuch fa_t_NoSuch fa_h_NoSuch fa_k_NoText fa_b_NoText fa_t_NoText fa_h_NoText fa_k_NoWidth fa_b_NoWidth fa_t_NoWidth fa_h_NoWidth fa_k_Twice fa_b_Twice fa_t_Twice fa_h_Twice fa_k_MillError fa_b_MillError fa_t_MillError fa_h_MillError fa_hg_Full fa_hk_Full fa_ha_Full fa_hm_Full fa_s_Full_MillError fa_hg_NoDeed fa_hk_NoDeed fa_ha_NoDeed fa_hm_NoDeed fa_s_NoDeed_MillError fa_hg_NoLine fa_hk_NoLine fa_ha_NoLine fa_hm_NoLine fa_s_NoLine_MillError fa_hg_NoMachine fa_hk_NoMachine fa_ha_NoMachine fa_hm_NoMachine fa_s_NoMachine_MillError fa_hg_NoName fa_hk_NoName fa_ha_NoName fa_hm_NoName fa_s_NoName_MillError fa_hg_NoPaper fa_hk_NoPaper fa_ha_NoPaper fa_hm_NoPaper fa_s_NoPaper_MillError fa_hg_NoSize fa_hk_NoSize fa_ha_NoSize fa_hm_NoSize fa_s_NoSize_MillError fa_hg_NoSuch fa_hk_NoSuch fa_ha_NoSuch fa_hm_NoSuch fa_s_NoSuch_MillError fa_hg_NoText fa_hk_NoText fa_ha_NoText fa_hm_NoText fa_s_NoText_MillError fa_hg_NoWidth fa_hk_NoWidth fa_ha_NoWidth fa_hm_NoWidth fa_s_NoWidth_MillError fa_hg_Twice fa_hk_Twice fa_ha_Twice fa_hm_Twice fa_s_Twice_MillError fa_hg_MillError fa_hk_MillError fa_ha_MillError fa_hm_MillError fa_s_MillError_MillError fa_hn_ fa_ht_ fa_i_Full fa_se_Full fa_s_Full_Full fa_s_NoDeed_Full fa_s_NoLine_Full fa_s_NoMachine_Full fa_s_NoName_Full fa_s_NoPaper_Full fa_s_NoSize_Full fa_s_NoSuch_Full fa_s_NoText_Full fa_s_NoWidth_Full fa_s_Twice_Full fa_s_MillError_Full fa_i_NoDeed fa_se_NoDeed fa_s_Full_NoDeed fa_s_NoDeed_NoDeed fa_s_NoLine_NoDeed fa_s_NoMachine_NoDeed fa_s_NoName_NoDeed fa_s_NoPaper_NoDeed fa_s_NoSize_NoDeed fa_s_NoSuch_NoDeed fa_s_NoText_NoDeed fa_s_NoWidth_NoDeed fa_s_Twice_NoDeed fa_s_MillError_NoDeed fa_i_NoLine fa_se_NoLine fa_s_Full_NoLine fa_s_NoDeed_NoLine fa_s_NoLine_NoLine fa_s_NoMachine_NoLine fa_s_NoName_NoLine fa_s_NoPaper_NoLine fa_s_NoSize_NoLine fa_s_NoSuch_NoLine fa_s_NoText_NoLine fa_s_NoWidth_NoLine fa_s_Twice_NoLine fa_s_MillError_NoLine fa_i_NoMachine fa_se_NoMachine fa_s_Full_NoMachine fa_s_NoDeed_NoMachine fa_s_NoLine_NoMachine fa_s_NoMachine_NoMachine fa_s_NoName_NoMachine fa_s_NoPaper_NoMachine fa_s_NoSize_NoMachine fa_s_NoSuch_NoMachine fa_s_NoText_NoMachine fa_s_NoWidth_NoMachine fa_s_Twice_NoMachine fa_s_MillError_NoMachine fa_i_NoName fa_se_NoName fa_s_Full_NoName fa_s_NoDeed_NoName fa_s_NoLine_NoName fa_s_NoMachine_NoName fa_s_NoName_NoName fa_s_NoPaper_NoName fa_s_NoSize_NoName fa_s_NoSuch_NoName fa_s_NoText_NoName fa_s_NoWidth_NoName fa_s_Twice_NoName fa_s_MillError_NoName fa_i_NoPaper fa_se_NoPaper fa_s_Full_NoPaper fa_s_NoDeed_NoPaper fa_s_NoLine_NoPaper fa_s_NoMachine_NoPaper fa_s_NoName_NoPaper fa_s_NoPaper_NoPaper fa_s_NoSize_NoPaper fa_s_NoSuch_NoPaper fa_s_NoText_NoPaper fa_s_NoWidth_NoPaper fa_s_Twice_NoPaper fa_s_MillError_NoPaper fa_i_NoSize fa_se_NoSize fa_s_Full_NoSize fa_s_NoDeed_NoSize fa_s_NoLine_NoSize fa_s_NoMachine_NoSize fa_s_NoName_NoSize fa_s_NoPaper_NoSize fa_s_NoSize_NoSize fa_s_NoSuch_NoSize fa_s_NoText_NoSize fa_s_NoWidth_NoSize fa_s_Twice_NoSize fa_s_MillError_NoSize fa_i_NoSuch fa_se_NoSuch fa_s_Full_NoSuch fa_s_NoDeed_NoSuch fa_s_NoLine_NoSuch fa_s_NoMachine_NoSuch fa_s_NoName_NoSuch fa_s_NoPaper_NoSuch fa_s_NoSize_NoSuch fa_s_NoSuch_NoSuch fa_s_NoText_NoSuch fa_s_NoWidth_NoSuch fa_s_Twice_NoSuch fa_s_MillError_NoSuch fa_i_NoText fa_se_NoText fa_s_Full_NoText fa_s_NoDeed_NoText fa_s_NoLine_NoText fa_s_NoMachine_NoText fa_s_NoName_NoText fa_s_NoPaper_NoText fa_s_NoSize_NoText fa_s_NoSuch_NoText fa_s_NoText_NoText fa_s_NoWidth_NoText fa_s_Twice_NoText fa_s_MillError_NoText fa_i_NoWidth fa_se_NoWidth fa_s_Full_NoWidth fa_s_NoDeed_NoWidth fa_s_NoLine_NoWidth fa_s_NoMachine_NoWidth fa_s_NoName_NoWidth fa_s_NoPaper_NoWidth fa_s_NoSize_NoWidth fa_s_NoSuch_NoWidth fa_s_NoText_NoWidth fa_s_NoWidth_NoWidth fa_s_Twice_NoWidth fa_s_MillError_NoWidth fa_i_Twice fa_se_Twice fa_s_Full_Twice fa_s_NoDeed_Twice fa_s_NoLine_Twice fa_s_NoMachine_Twice fa_s_NoName_Twice fa_s_NoPaper_Twice fa_s_NoSize_Twice fa_s_NoSuch_Twice fa_s_NoText_Twice fa_s_NoWidth_Twice fa_s_Twice_Twice fa_s_MillError_Twice fa_i_MillError fa_se_MillError fa_s_Full_ValueError fa_s_NoDeed_ValueError fa_s_NoLine_ValueError fa_s_NoMachine_ValueError fa_s_NoName_ValueError fa_s_NoPaper_ValueError fa_s_NoSize_ValueError fa_s_NoSuch_ValueError fa_s_NoText_ValueError fa_s_NoWidth_ValueError fa_s_Twice_ValueError fa_s_MillError_ValueError) ⟨_, _, _, _, _, _, rfl⟩
end E
open PySem PySem.W PyProof.Rows
set_option maxRecDepth 100000 in
set_option maxHeartbeats 0 in
theorem PySem.Challenge.cw_endnever_k07_refusals_made_holds : PySem.Challenge.rw_endnever_k07_refusals_made.Holds := by
  w_on; o_law; k_head; (case hw => w_witness2)
  k_fill
  refine E.walk (l := PySem.Challenge.rw_endnever_k07_refusals_made) rfl rfl (fun w h Y => PySem.W.kIn_of Y) ?F
  case F =>
    intro w mg fa h KX G hmg
    refine' E.all_go KX G hmg ?n_NoMachine ?n_Full ?n_NoDeed ?n_NoLine ?n_NoName ?n_NoPaper ?n_NoSize ?n_NoSuch ?n_NoText ?n_NoWidth ?n_Twice ?n_MillError ?n_L_mixed ?l_L_mixed ?c_L_mixed ?k_L_mixed ?n_L_purse ?l_L_purse ?c_L_purse ?k_L_purse ?n_is_entry ?l_is_entry ?c_is_entry ?k_is_entry ?n_is_machine ?l_is_machine ?c_is_machine ?k_is_machine ?n_must_machine ?l_must_machine ?c_must_machine ?k_must_machine ?n_run ?l_run ?c_run ?k_run ?n_L_kinds ?l_L_kinds ?c_L_kinds ?k_L_kinds ?n_L_draw ?l_L_draw ?c_L_draw ?k_L_draw ?n_law ?l_law ?c_law ?k_law ?n_MOST_ROWS ?n_MOST_SIGNS ?z_range ?z_len ?z_abs ?z_all ?z_isinstance ?z_enumerate ?z_ValueError ?fa_x_Full ?fa_x_NoDeed ?fa_x_NoLine ?fa_x_NoMachine ?fa_x_NoName ?fa_x_NoPaper ?fa_x_NoSize ?fa_x_NoSuch ?fa_x_NoText ?fa_x_NoWidth ?fa_x_Twice ?fa_x_MillError ?fa_k_Full ?fa_b_Full ?fa_t_Full ?fa_h_Full ?fa_k_NoDeed ?fa_b_NoDeed ?fa_t_NoDeed ?fa_h_NoDeed ?fa_k_NoLine ?fa_b_NoLine ?fa_t_NoLine ?fa_h_NoLine ?fa_k_NoMachine ?fa_b_NoMachine ?fa_t_NoMachine ?fa_h_NoMachine ?fa_k_NoName ?fa_b_NoName ?fa_t_NoName ?fa_h_NoName ?fa_k_NoPaper ?fa_b_NoPaper ?fa_t_NoPaper ?fa_h_NoPaper ?fa_k_NoSize ?fa_b_NoSize ?fa_t_NoSize ?fa_h_NoSize ?fa_k_NoSuch ?fa_b_NoSuch ?fa_t_NoSuch ?fa_h_NoSuch ?fa_k_NoText ?fa_b_NoText ?fa_t_NoText ?fa_h_NoText ?fa_k_NoWidth ?fa_b_NoWidth ?fa_t_NoWidth ?fa_h_NoWidth ?fa_k_Twice ?fa_b_Twice ?fa_t_Twice ?fa_h_Twice ?fa_k_MillError ?fa_b_MillError ?fa_t_MillError ?fa_h_MillError ?fa_hg_Full ?fa_hk_Full ?fa_ha_Full ?fa_hm_Full ?fa_s_Full_MillError ?fa_hg_NoDeed ?fa_hk_NoDeed ?fa_ha_NoDeed ?fa_hm_NoDeed ?fa_s_NoDeed_MillError ?fa_hg_NoLine ?fa_hk_NoLine ?fa_ha_NoLine ?fa_hm_NoLine ?fa_s_NoLine_MillError ?fa_hg_NoMachine ?fa_hk_NoMachine ?fa_ha_NoMachine ?fa_hm_NoMachine ?fa_s_NoMachine_MillError ?fa_hg_NoName ?fa_hk_NoName ?fa_ha_NoName ?fa_hm_NoName ?fa_s_NoName_MillError ?fa_hg_NoPaper ?fa_hk_NoPaper ?fa_ha_NoPaper ?fa_hm_NoPaper ?fa_s_NoPaper_MillError ?fa_hg_NoSize ?fa_hk_NoSize ?fa_ha_NoSize ?fa_hm_NoSize ?fa_s_NoSize_MillError ?fa_hg_NoSuch ?fa_hk_NoSuch ?fa_ha_NoSuch ?fa_hm_NoSuch ?fa_s_NoSuch_MillError ?fa_hg_NoText ?fa_hk_NoText ?fa_ha_NoText ?fa_hm_NoText ?fa_s_NoText_MillError ?fa_hg_NoWidth ?fa_hk_NoWidth ?fa_ha_NoWidth ?fa_hm_NoWidth ?fa_s_NoWidth_MillError ?fa_hg_Twice ?fa_hk_Twice ?fa_ha_Twice ?fa_hm_Twice ?fa_s_Twice_MillError ?fa_hg_MillError ?fa_hk_MillError ?fa_ha_MillError ?fa_hm_MillError ?fa_s_MillError_MillError ?fa_hn_ ?fa_ht_ ?fa_i_Full ?fa_se_Full ?fa_s_Full_Full ?fa_s_NoDeed_Full ?fa_s_NoLine_Full ?fa_s_NoMachine_Full ?fa_s_NoName_Full ?fa_s_NoPaper_Full ?fa_s_NoSize_Full ?fa_s_NoSuch_Full ?fa_s_NoText_Full ?fa_s_NoWidth_Full ?fa_s_Twice_Full ?fa_s_MillError_Full ?fa_i_NoDeed ?fa_se_NoDeed ?fa_s_Full_NoDeed ?fa_s_NoDeed_NoDeed ?fa_s_NoLine_NoDeed ?fa_s_NoMachine_NoDeed ?fa_s_NoName_NoDeed ?fa_s_NoPaper_NoDeed ?fa_s_NoSize_NoDeed ?fa_s_NoSuch_NoDeed ?fa_s_NoText_NoDeed ?fa_s_NoWidth_NoDeed ?fa_s_Twice_NoDeed ?fa_s_MillError_NoDeed ?fa_i_NoLine ?fa_se_NoLine ?fa_s_Full_NoLine ?fa_s_NoDeed_NoLine ?fa_s_NoLine_NoLine ?fa_s_NoMachine_NoLine ?fa_s_NoName_NoLine ?fa_s_NoPaper_NoLine ?fa_s_NoSize_NoLine ?fa_s_NoSuch_NoLine ?fa_s_NoText_NoLine ?fa_s_NoWidth_NoLine ?fa_s_Twice_NoLine ?fa_s_MillError_NoLine ?fa_i_NoMachine ?fa_se_NoMachine ?fa_s_Full_NoMachine ?fa_s_NoDeed_NoMachine ?fa_s_NoLine_NoMachine ?fa_s_NoMachine_NoMachine ?fa_s_NoName_NoMachine ?fa_s_NoPaper_NoMachine ?fa_s_NoSize_NoMachine ?fa_s_NoSuch_NoMachine ?fa_s_NoText_NoMachine ?fa_s_NoWidth_NoMachine ?fa_s_Twice_NoMachine ?fa_s_MillError_NoMachine ?fa_i_NoName ?fa_se_NoName ?fa_s_Full_NoName ?fa_s_NoDeed_NoName ?fa_s_NoLine_NoName ?fa_s_NoMachine_NoName ?fa_s_NoName_NoName ?fa_s_NoPaper_NoName ?fa_s_NoSize_NoName ?fa_s_NoSuch_NoName ?fa_s_NoText_NoName ?fa_s_NoWidth_NoName ?fa_s_Twice_NoName ?fa_s_MillError_NoName ?fa_i_NoPaper ?fa_se_NoPaper ?fa_s_Full_NoPaper ?fa_s_NoDeed_NoPaper ?fa_s_NoLine_NoPaper ?fa_s_NoMachine_NoPaper ?fa_s_NoName_NoPaper ?fa_s_NoPaper_NoPaper ?fa_s_NoSize_NoPaper ?fa_s_NoSuch_NoPaper ?fa_s_NoText_NoPaper ?fa_s_NoWidth_NoPaper ?fa_s_Twice_NoPaper ?fa_s_MillError_NoPaper ?fa_i_NoSize ?fa_se_NoSize ?fa_s_Full_NoSize ?fa_s_NoDeed_NoSize ?fa_s_NoLine_NoSize ?fa_s_NoMachine_NoSize ?fa_s_NoName_NoSize ?fa_s_NoPaper_NoSize ?fa_s_NoSize_NoSize ?fa_s_NoSuch_NoSize ?fa_s_NoText_NoSize ?fa_s_NoWidth_NoSize ?fa_s_Twice_NoSize ?fa_s_MillError_NoSize ?fa_i_NoSuch ?fa_se_NoSuch ?fa_s_Full_NoSuch ?fa_s_NoDeed_NoSuch ?fa_s_NoLine_NoSuch ?fa_s_NoMachine_NoSuch ?fa_s_NoName_NoSuch ?fa_s_NoPaper_NoSuch ?fa_s_NoSize_NoSuch ?fa_s_NoSuch_NoSuch ?fa_s_NoText_NoSuch ?fa_s_NoWidth_NoSuch ?fa_s_Twice_NoSuch ?fa_s_MillError_NoSuch ?fa_i_NoText ?fa_se_NoText ?fa_s_Full_NoText ?fa_s_NoDeed_NoText ?fa_s_NoLine_NoText ?fa_s_NoMachine_NoText ?fa_s_NoName_NoText ?fa_s_NoPaper_NoText ?fa_s_NoSize_NoText ?fa_s_NoSuch_NoText ?fa_s_NoText_NoText ?fa_s_NoWidth_NoText ?fa_s_Twice_NoText ?fa_s_MillError_NoText ?fa_i_NoWidth ?fa_se_NoWidth ?fa_s_Full_NoWidth ?fa_s_NoDeed_NoWidth ?fa_s_NoLine_NoWidth ?fa_s_NoMachine_NoWidth ?fa_s_NoName_NoWidth ?fa_s_NoPaper_NoWidth ?fa_s_NoSize_NoWidth ?fa_s_NoSuch_NoWidth ?fa_s_NoText_NoWidth ?fa_s_NoWidth_NoWidth ?fa_s_Twice_NoWidth ?fa_s_MillError_NoWidth ?fa_i_Twice ?fa_se_Twice ?fa_s_Full_Twice ?fa_s_NoDeed_Twice ?fa_s_NoLine_Twice ?fa_s_NoMachine_Twice ?fa_s_NoName_Twice ?fa_s_NoPaper_Twice ?fa_s_NoSize_Twice ?fa_s_NoSuch_Twice ?fa_s_NoText_Twice ?fa_s_NoWidth_Twice ?fa_s_Twice_Twice ?fa_s_MillError_Twice ?fa_i_MillError ?fa_se_MillError ?fa_s_Full_ValueError ?fa_s_NoDeed_ValueError ?fa_s_NoLine_ValueError ?fa_s_NoMachine_ValueError ?fa_s_NoName_ValueError ?fa_s_NoPaper_ValueError ?fa_s_NoSize_ValueError ?fa_s_NoSuch_ValueError ?fa_s_NoText_ValueError ?fa_s_NoWidth_ValueError ?fa_s_Twice_ValueError ?fa_s_MillError_ValueError
    (case n_NoMachine => k_is); (case n_Full => k_is); (case n_NoDeed => k_is); (case n_NoLine => k_is); (case n_NoName => k_is); (case n_NoPaper => k_is); (case n_NoSize => k_is); (case n_NoSuch => k_is)
    (case n_NoText => k_is); (case n_NoWidth => k_is); (case n_Twice => k_is); (case n_MillError => k_is); (case n_L_mixed => k_is); (case l_L_mixed => k_is); (case c_L_mixed => k_is); (case k_L_mixed => k_is)
    (case n_L_purse => k_is); (case l_L_purse => k_is); (case c_L_purse => k_is); (case k_L_purse => k_is); (case n_is_entry => k_is); (case l_is_entry => k_is); (case c_is_entry => k_is); (case k_is_entry => k_is)
    (case n_is_machine => k_is); (case l_is_machine => k_is); (case c_is_machine => k_is); (case k_is_machine => k_is); (case n_must_machine => k_is); (case l_must_machine => k_is); (case c_must_machine => k_is); (case k_must_machine => k_is)
    (case n_run => k_is); (case l_run => k_is); (case c_run => k_is); (case k_run => k_is); (case n_L_kinds => k_is); (case l_L_kinds => k_is); (case c_L_kinds => k_is); (case k_L_kinds => k_is)
    (case n_L_draw => k_is); (case l_L_draw => k_is); (case c_L_draw => k_is); (case k_L_draw => k_is); (case n_law => k_is); (case l_law => k_is); (case c_law => k_is); (case k_law => k_is)
    (case n_MOST_ROWS => k_is); (case n_MOST_SIGNS => k_is); (case z_range => k_is); (case z_len => k_is); (case z_abs => k_is); (case z_all => k_is); (case z_isinstance => k_is); (case z_enumerate => k_is)
    (case z_ValueError => k_is); (case fa_x_Full => k_exc); (case fa_x_NoDeed => k_exc); (case fa_x_NoLine => k_exc); (case fa_x_NoMachine => k_exc); (case fa_x_NoName => k_exc); (case fa_x_NoPaper => k_exc); (case fa_x_NoSize => k_exc)
    (case fa_x_NoSuch => k_exc); (case fa_x_NoText => k_exc); (case fa_x_NoWidth => k_exc); (case fa_x_Twice => k_exc); (case fa_x_MillError => k_exc); (case fa_k_Full => k_is); (case fa_b_Full => k_is); (case fa_t_Full => k_is)
    (case fa_h_Full => k_is); (case fa_k_NoDeed => k_is); (case fa_b_NoDeed => k_is); (case fa_t_NoDeed => k_is); (case fa_h_NoDeed => k_is); (case fa_k_NoLine => k_is); (case fa_b_NoLine => k_is); (case fa_t_NoLine => k_is)
    (case fa_h_NoLine => k_is); (case fa_k_NoMachine => k_is); (case fa_b_NoMachine => k_is); (case fa_t_NoMachine => k_is); (case fa_h_NoMachine => k_is); (case fa_k_NoName => k_is); (case fa_b_NoName => k_is); (case fa_t_NoName => k_is)
    (case fa_h_NoName => k_is); (case fa_k_NoPaper => k_is); (case fa_b_NoPaper => k_is); (case fa_t_NoPaper => k_is); (case fa_h_NoPaper => k_is); (case fa_k_NoSize => k_is); (case fa_b_NoSize => k_is); (case fa_t_NoSize => k_is)
    (case fa_h_NoSize => k_is); (case fa_k_NoSuch => k_is); (case fa_b_NoSuch => k_is); (case fa_t_NoSuch => k_is); (case fa_h_NoSuch => k_is); (case fa_k_NoText => k_is); (case fa_b_NoText => k_is); (case fa_t_NoText => k_is)
    (case fa_h_NoText => k_is); (case fa_k_NoWidth => k_is); (case fa_b_NoWidth => k_is); (case fa_t_NoWidth => k_is); (case fa_h_NoWidth => k_is); (case fa_k_Twice => k_is); (case fa_b_Twice => k_is); (case fa_t_Twice => k_is)
    (case fa_h_Twice => k_is); (case fa_k_MillError => k_is); (case fa_b_MillError => k_is); (case fa_t_MillError => k_is); (case fa_h_MillError => k_is); (case fa_hg_Full => k_is); (case fa_hk_Full => k_is); (case fa_ha_Full => k_is)
    (case fa_hm_Full => k_is); (case fa_s_Full_MillError => first | rfl | k_is); (case fa_hg_NoDeed => k_is); (case fa_hk_NoDeed => k_is); (case fa_ha_NoDeed => k_is); (case fa_hm_NoDeed => k_is); (case fa_s_NoDeed_MillError => first | rfl | k_is); (case fa_hg_NoLine => k_is)
    (case fa_hk_NoLine => k_is); (case fa_ha_NoLine => k_is); (case fa_hm_NoLine => k_is); (case fa_s_NoLine_MillError => first | rfl | k_is); (case fa_hg_NoMachine => k_is); (case fa_hk_NoMachine => k_is); (case fa_ha_NoMachine => k_is); (case fa_hm_NoMachine => k_is)
    (case fa_s_NoMachine_MillError => first | rfl | k_is); (case fa_hg_NoName => k_is); (case fa_hk_NoName => k_is); (case fa_ha_NoName => k_is); (case fa_hm_NoName => k_is); (case fa_s_NoName_MillError => first | rfl | k_is); (case fa_hg_NoPaper => k_is); (case fa_hk_NoPaper => k_is)
    (case fa_ha_NoPaper => k_is); (case fa_hm_NoPaper => k_is); (case fa_s_NoPaper_MillError => first | rfl | k_is); (case fa_hg_NoSize => k_is); (case fa_hk_NoSize => k_is); (case fa_ha_NoSize => k_is); (case fa_hm_NoSize => k_is); (case fa_s_NoSize_MillError => first | rfl | k_is)
    (case fa_hg_NoSuch => k_is); (case fa_hk_NoSuch => k_is); (case fa_ha_NoSuch => k_is); (case fa_hm_NoSuch => k_is); (case fa_s_NoSuch_MillError => first | rfl | k_is); (case fa_hg_NoText => k_is); (case fa_hk_NoText => k_is); (case fa_ha_NoText => k_is)
    (case fa_hm_NoText => k_is); (case fa_s_NoText_MillError => first | rfl | k_is); (case fa_hg_NoWidth => k_is); (case fa_hk_NoWidth => k_is); (case fa_ha_NoWidth => k_is); (case fa_hm_NoWidth => k_is); (case fa_s_NoWidth_MillError => first | rfl | k_is); (case fa_hg_Twice => k_is)
    (case fa_hk_Twice => k_is); (case fa_ha_Twice => k_is); (case fa_hm_Twice => k_is); (case fa_s_Twice_MillError => first | rfl | k_is); (case fa_hg_MillError => k_is); (case fa_hk_MillError => k_is); (case fa_ha_MillError => k_is); (case fa_hm_MillError => k_is)
    (case fa_s_MillError_MillError => first | rfl | k_is); (case fa_hn_ => k_is); (case fa_ht_ => k_is); (case fa_i_Full => k_is); (case fa_se_Full => first | rfl | k_is); (case fa_s_Full_Full => first | rfl | k_is); (case fa_s_NoDeed_Full => first | rfl | k_is); (case fa_s_NoLine_Full => first | rfl | k_is)
    (case fa_s_NoMachine_Full => first | rfl | k_is); (case fa_s_NoName_Full => first | rfl | k_is); (case fa_s_NoPaper_Full => first | rfl | k_is); (case fa_s_NoSize_Full => first | rfl | k_is); (case fa_s_NoSuch_Full => first | rfl | k_is); (case fa_s_NoText_Full => first | rfl | k_is); (case fa_s_NoWidth_Full => first | rfl | k_is); (case fa_s_Twice_Full => first | rfl | k_is)
    (case fa_s_MillError_Full => first | rfl | k_is); (case fa_i_NoDeed => k_is); (case fa_se_NoDeed => first | rfl | k_is); (case fa_s_Full_NoDeed => first | rfl | k_is); (case fa_s_NoDeed_NoDeed => first | rfl | k_is); (case fa_s_NoLine_NoDeed => first | rfl | k_is); (case fa_s_NoMachine_NoDeed => first | rfl | k_is); (case fa_s_NoName_NoDeed => first | rfl | k_is)
    (case fa_s_NoPaper_NoDeed => first | rfl | k_is); (case fa_s_NoSize_NoDeed => first | rfl | k_is); (case fa_s_NoSuch_NoDeed => first | rfl | k_is); (case fa_s_NoText_NoDeed => first | rfl | k_is); (case fa_s_NoWidth_NoDeed => first | rfl | k_is); (case fa_s_Twice_NoDeed => first | rfl | k_is); (case fa_s_MillError_NoDeed => first | rfl | k_is); (case fa_i_NoLine => k_is)
    (case fa_se_NoLine => first | rfl | k_is); (case fa_s_Full_NoLine => first | rfl | k_is); (case fa_s_NoDeed_NoLine => first | rfl | k_is); (case fa_s_NoLine_NoLine => first | rfl | k_is); (case fa_s_NoMachine_NoLine => first | rfl | k_is); (case fa_s_NoName_NoLine => first | rfl | k_is); (case fa_s_NoPaper_NoLine => first | rfl | k_is); (case fa_s_NoSize_NoLine => first | rfl | k_is)
    (case fa_s_NoSuch_NoLine => first | rfl | k_is); (case fa_s_NoText_NoLine => first | rfl | k_is); (case fa_s_NoWidth_NoLine => first | rfl | k_is); (case fa_s_Twice_NoLine => first | rfl | k_is); (case fa_s_MillError_NoLine => first | rfl | k_is); (case fa_i_NoMachine => k_is); (case fa_se_NoMachine => first | rfl | k_is); (case fa_s_Full_NoMachine => first | rfl | k_is)
    (case fa_s_NoDeed_NoMachine => first | rfl | k_is); (case fa_s_NoLine_NoMachine => first | rfl | k_is); (case fa_s_NoMachine_NoMachine => first | rfl | k_is); (case fa_s_NoName_NoMachine => first | rfl | k_is); (case fa_s_NoPaper_NoMachine => first | rfl | k_is); (case fa_s_NoSize_NoMachine => first | rfl | k_is); (case fa_s_NoSuch_NoMachine => first | rfl | k_is); (case fa_s_NoText_NoMachine => first | rfl | k_is)
    (case fa_s_NoWidth_NoMachine => first | rfl | k_is); (case fa_s_Twice_NoMachine => first | rfl | k_is); (case fa_s_MillError_NoMachine => first | rfl | k_is); (case fa_i_NoName => k_is); (case fa_se_NoName => first | rfl | k_is); (case fa_s_Full_NoName => first | rfl | k_is); (case fa_s_NoDeed_NoName => first | rfl | k_is); (case fa_s_NoLine_NoName => first | rfl | k_is)
    (case fa_s_NoMachine_NoName => first | rfl | k_is); (case fa_s_NoName_NoName => first | rfl | k_is); (case fa_s_NoPaper_NoName => first | rfl | k_is); (case fa_s_NoSize_NoName => first | rfl | k_is); (case fa_s_NoSuch_NoName => first | rfl | k_is); (case fa_s_NoText_NoName => first | rfl | k_is); (case fa_s_NoWidth_NoName => first | rfl | k_is); (case fa_s_Twice_NoName => first | rfl | k_is)
    (case fa_s_MillError_NoName => first | rfl | k_is); (case fa_i_NoPaper => k_is); (case fa_se_NoPaper => first | rfl | k_is); (case fa_s_Full_NoPaper => first | rfl | k_is); (case fa_s_NoDeed_NoPaper => first | rfl | k_is); (case fa_s_NoLine_NoPaper => first | rfl | k_is); (case fa_s_NoMachine_NoPaper => first | rfl | k_is); (case fa_s_NoName_NoPaper => first | rfl | k_is)
    (case fa_s_NoPaper_NoPaper => first | rfl | k_is); (case fa_s_NoSize_NoPaper => first | rfl | k_is); (case fa_s_NoSuch_NoPaper => first | rfl | k_is); (case fa_s_NoText_NoPaper => first | rfl | k_is); (case fa_s_NoWidth_NoPaper => first | rfl | k_is); (case fa_s_Twice_NoPaper => first | rfl | k_is); (case fa_s_MillError_NoPaper => first | rfl | k_is); (case fa_i_NoSize => k_is)
    (case fa_se_NoSize => first | rfl | k_is); (case fa_s_Full_NoSize => first | rfl | k_is); (case fa_s_NoDeed_NoSize => first | rfl | k_is); (case fa_s_NoLine_NoSize => first | rfl | k_is); (case fa_s_NoMachine_NoSize => first | rfl | k_is); (case fa_s_NoName_NoSize => first | rfl | k_is); (case fa_s_NoPaper_NoSize => first | rfl | k_is); (case fa_s_NoSize_NoSize => first | rfl | k_is)
    (case fa_s_NoSuch_NoSize => first | rfl | k_is); (case fa_s_NoText_NoSize => first | rfl | k_is); (case fa_s_NoWidth_NoSize => first | rfl | k_is); (case fa_s_Twice_NoSize => first | rfl | k_is); (case fa_s_MillError_NoSize => first | rfl | k_is); (case fa_i_NoSuch => k_is); (case fa_se_NoSuch => first | rfl | k_is); (case fa_s_Full_NoSuch => first | rfl | k_is)
    (case fa_s_NoDeed_NoSuch => first | rfl | k_is); (case fa_s_NoLine_NoSuch => first | rfl | k_is); (case fa_s_NoMachine_NoSuch => first | rfl | k_is); (case fa_s_NoName_NoSuch => first | rfl | k_is); (case fa_s_NoPaper_NoSuch => first | rfl | k_is); (case fa_s_NoSize_NoSuch => first | rfl | k_is); (case fa_s_NoSuch_NoSuch => first | rfl | k_is); (case fa_s_NoText_NoSuch => first | rfl | k_is)
    (case fa_s_NoWidth_NoSuch => first | rfl | k_is); (case fa_s_Twice_NoSuch => first | rfl | k_is); (case fa_s_MillError_NoSuch => first | rfl | k_is); (case fa_i_NoText => k_is); (case fa_se_NoText => first | rfl | k_is); (case fa_s_Full_NoText => first | rfl | k_is); (case fa_s_NoDeed_NoText => first | rfl | k_is); (case fa_s_NoLine_NoText => first | rfl | k_is)
    (case fa_s_NoMachine_NoText => first | rfl | k_is); (case fa_s_NoName_NoText => first | rfl | k_is); (case fa_s_NoPaper_NoText => first | rfl | k_is); (case fa_s_NoSize_NoText => first | rfl | k_is); (case fa_s_NoSuch_NoText => first | rfl | k_is); (case fa_s_NoText_NoText => first | rfl | k_is); (case fa_s_NoWidth_NoText => first | rfl | k_is); (case fa_s_Twice_NoText => first | rfl | k_is)
    (case fa_s_MillError_NoText => first | rfl | k_is); (case fa_i_NoWidth => k_is); (case fa_se_NoWidth => first | rfl | k_is); (case fa_s_Full_NoWidth => first | rfl | k_is); (case fa_s_NoDeed_NoWidth => first | rfl | k_is); (case fa_s_NoLine_NoWidth => first | rfl | k_is); (case fa_s_NoMachine_NoWidth => first | rfl | k_is); (case fa_s_NoName_NoWidth => first | rfl | k_is)
    (case fa_s_NoPaper_NoWidth => first | rfl | k_is); (case fa_s_NoSize_NoWidth => first | rfl | k_is); (case fa_s_NoSuch_NoWidth => first | rfl | k_is); (case fa_s_NoText_NoWidth => first | rfl | k_is); (case fa_s_NoWidth_NoWidth => first | rfl | k_is); (case fa_s_Twice_NoWidth => first | rfl | k_is); (case fa_s_MillError_NoWidth => first | rfl | k_is); (case fa_i_Twice => k_is)
    (case fa_se_Twice => first | rfl | k_is); (case fa_s_Full_Twice => first | rfl | k_is); (case fa_s_NoDeed_Twice => first | rfl | k_is); (case fa_s_NoLine_Twice => first | rfl | k_is); (case fa_s_NoMachine_Twice => first | rfl | k_is); (case fa_s_NoName_Twice => first | rfl | k_is); (case fa_s_NoPaper_Twice => first | rfl | k_is); (case fa_s_NoSize_Twice => first | rfl | k_is)
    (case fa_s_NoSuch_Twice => first | rfl | k_is); (case fa_s_NoText_Twice => first | rfl | k_is); (case fa_s_NoWidth_Twice => first | rfl | k_is); (case fa_s_Twice_Twice => first | rfl | k_is); (case fa_s_MillError_Twice => first | rfl | k_is); (case fa_i_MillError => k_is); (case fa_se_MillError => first | rfl | k_is); (case fa_s_Full_ValueError => k_is)
    (case fa_s_NoDeed_ValueError => k_is); (case fa_s_NoLine_ValueError => k_is); (case fa_s_NoMachine_ValueError => k_is); (case fa_s_NoName_ValueError => k_is); (case fa_s_NoPaper_ValueError => k_is); (case fa_s_NoSize_ValueError => k_is); (case fa_s_NoSuch_ValueError => k_is); (case fa_s_NoText_ValueError => k_is)
    (case fa_s_NoWidth_ValueError => k_is); (case fa_s_Twice_ValueError => k_is); (case fa_s_MillError_ValueError => k_is)
#print axioms PySem.Challenge.cw_endnever_k07_refusals_made_holds
