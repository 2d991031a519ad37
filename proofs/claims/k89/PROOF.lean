import PyProof.Rows.All
import Wide.All
import OpenK.AllK
import Wide.FinOn
import HandS.ForMost
import HandS.TupAny
import HandS.TupMul
import PyProof.StrOps2
import HandS.ForExc
import HandS.ExcInit
import HandS.CallSlots
import HandS.TryMany
import HandS.Wide
import HandS.IsInst
import HandS.Flow
import HandS.ExcField
import HandS.ExcIs
import HandS.ExcValue
import HandS.Defaults
import HandS.Ends
import HandS.SortInts
import HandS.Conv
import HandS.SetFor
import HandS.Strs
import HandS.Text
import HandS.More
import HandS.Small
import HandS.Set
import HandS.Iter
import PyProof.ListOps
import PyProof.AutoSeq1
import KE.DataMinMax
import HandS.TupSets
import KE.SortData
import PyProof.Rows.RowBridgeK
import PyProof.Rows.Nodes
import PyProof.StrLawsChain
import PyProof.Rows.StrItems
import PyProof.Rows.StrSplitCount
import PySem.Challenge.RW_firstandlast_k89_whole_looks_loops
set_option Elab.async false
set_option linter.all false
set_option maxRecDepth 100000
set_option maxHeartbeats 4000000
/-! Fl, part 0: tuples whose object is known to have no dict (so that their methods may be called). -/
namespace Fl
open PySem L2
/-- a tuple that stays, its object without a dict -/
def SqN (K : PySem.W.Frag) (H : Hp) (a : Addr) (xs : List V) : Prop := (∃ o : Obj, o.cls = .type "tuple" ∧ o.dict = none ∧ H a = some (.frz o (.tup xs))) ∨
  ∃ (o : Obj) (its : Array Value) (n : Nat), K.lookup a = some o ∧ o.cls = .type "tuple" ∧ o.dict = none ∧ o.data = .seq its n ∧ its.size ≤ sizeLine ∧ Vals xs its.toList
/-- the object of a new tuple -/
abbrev tObj (its : Array Value) : Obj := { cls := .type "tuple", data := .seq its }
section
variable {K : PySem.W.Frag} {H : Hp} {a : Addr} {xs : List V}
theorem SqN.t (h : SqN K H a xs) : SqT K H a xs := by
  rcases h with ⟨o, _, _, e⟩ | ⟨o, its, n, e1, e2, _, e3, e4, e5⟩
  · exact .inl (.inr ⟨o, e⟩)
  · exact .inr ⟨o, its, n, e1, e2, e3, e4, e5⟩
theorem SqN.new {p : Addr} {o : Obj} (c : o.cls = .type "tuple") (d : o.dict = none) : SqN K (upd H p (.frz o (.tup xs))) p xs := .inl ⟨o, c, d, upd_same⟩
end
theorem tup_new {P : Program} {w : World} {h : Heap} {xs : List V} {its : List Value} (z : xs.length ≤ sizeLine) (r : Vals xs its) {G : Hp} :
    ObjOk P w G (h.push (tObj its.toArray)) h.objs.size (.frz (tObj its.toArray) (.tup xs)) := ⟨Heap.get?_push_size _ rfl, z, its, r, ⟨_, Heap.get?_push_size _ rfl, rfl, _, rfl⟩⟩
/-- what is asked behind a new tuple -/
def NewT (xs : List V) (H : Hp) (Q : VK) : Prop := ∀ p o, H p = none → o.cls = .type "tuple" → o.dict = none → Q (.ref p) (upd H p (.frz o (.tup xs)))
section
variable {X : Cx} {es : List Expr} {t : TA} {pos : Pos}
theorem laidT {pins : List (Addr × Obj)} {σ : St} {H : Hp} {s : Shared} {xs : List V} {its : List Value} {Q : VK} (I : Inv X pins σ H s) (z : xs.length ≤ sizeLine) (r : Vals xs its) (q : NewT xs H Q) :
    EP X pins σ Q (.ref s.heap.objs.size) { s with heap := s.heap.push (tObj its.toArray) } :=
  ⟨.ref s.heap.objs.size, upd H s.heap.objs.size (.frz (tObj its.toArray) (.tup xs)), I.laid (t' := s.toks) (fun b u e => Heap.get?_push_of_some _ e) (Nat.le_refl _) (tup_new z r), rfl, q _ _ (I.hok.fresh (Nat.le_refl _)) rfl rfl⟩
def tTupN (t : TA) : TE := fun σ H Q => t σ H fun xs H1 => xs.length ≤ sizeLine ∧ NewT xs H1 Q
theorem pe_tupN {x1} (h : PA X es t) : PE X (.Tuple es x1 pos) (tTupN t) := by
  refine ⟨fun pins s σ H Q I hq => wpAny_Tuple_spliced (thn (h.run pos pins s σ H _ I hq) fun us s1 got => ?_)⟩
  obtain ⟨xs, H1, I1, r, z, q⟩ := got
  exact ⟨by rw [← r.length]; exact z, laidT I1 z r q⟩
def rCatN (K : PySem.W.Frag) : R2 := fun x y H Q => ∃ a b xs ys, x = .ref a ∧ y = .ref b ∧ SqT K H a xs ∧ SqT K H b ys ∧ xs.length + ys.length ≤ sizeLine ∧
  (xs = [] → Q (.ref b) H) ∧ (xs ≠ [] → ys = [] → Q (.ref a) H) ∧ (xs ≠ [] → ys ≠ [] → NewT (xs ++ ys) H Q)
theorem op_catN : OpR X (binaryOp .Add) (rCatN X.K) := by
  intro pins s σ H x y v u Q I rx ry want
  obtain ⟨a, b, xs, ys, rfl, rfl, ha, hb, hz, q0, q1, q2⟩ := want
  by_cases hx : xs = []
  · exact op_catA pins s σ H _ _ v u Q I rx ry ⟨a, b, xs, ys, rfl, rfl, ha, hb, hz, q0, fun z => absurd hx z, fun z => absurd hx z⟩
  · by_cases hy : ys = []
    · exact op_catA pins s σ H _ _ v u Q I rx ry ⟨a, b, xs, ys, rfl, rfl, ha, hb, hz, q0, q1, fun _ z => absurd hy z⟩
    · cases rx
      cases ry
      obtain ⟨its, r1, p1, _⟩ := I.tuple ha
      obtain ⟨its2, r2, p2, _⟩ := I.tuple hb
      refine HT.cat_tup p1 p2 (fun z => hx (r1.nil_iff.mp z)) (fun z => absurd (r2.nil_iff.mp z) hy) (fun z => ?_) (by rw [← r1.length, ← r2.length]; exact hz)
      exact laidT I (by rw [List.length_append]; exact hz) (r1.append r2) (q2 hx hy)
def rSlN (K : PySem.W.Frag) : V → Option Int → Option Int → Hp → VK → Prop := fun x lo hi H Q => ∃ a xs, x = .ref a ∧ SqT K H a xs ∧
  (HT.sIx xs.length 0 lo = 0 ∧ HT.sIx xs.length xs.length hi = xs.length → Q (.ref a) H) ∧ (¬ (HT.sIx xs.length 0 lo = 0 ∧ HT.sIx xs.length xs.length hi = xs.length) → NewT (cutV xs lo hi) H Q)
theorem sl_tupN : SlR X (rSlN X.K) := by
  intro pins s σ H x v vl vu lo hi sl Q I rx hs pl pu want
  obtain ⟨a, xs, rfl, hx, q1, q2⟩ := want
  by_cases hw : HT.sIx xs.length 0 lo = 0 ∧ HT.sIx xs.length xs.length hi = xs.length
  · exact sl_tupA pins s σ H _ v vl vu lo hi sl Q I rx hs pl pu ⟨a, xs, rfl, hx, q1, fun z => absurd hw z⟩
  · cases rx
    obtain ⟨its, r, ht, hz⟩ := I.tuple hx
    have hlen : its.toArray.size = xs.length := by rw [List.size_toArray]; exact r.length.symm
    refine ⟨"tuple", _, PyProof.Rows.slot_tuple_getitem.lookup, ht.typeIs, HT.getItem_tuple_cut ht hs pl pu (by rw [hlen]; exact hw) ?_ (by rw [hlen]; exact hz)⟩
    rw [hlen]
    exact laidT I (Nat.le_trans (cutV_length xs lo hi) hz) ((r.drop (HT.sIx xs.length 0 lo)).take (HT.sIx xs.length xs.length hi - HT.sIx xs.length 0 lo)) (q2 hw)
theorem call_tupN : CallR X (.type "tuple") (fun xs H Q => ∃ p ys, xs = [.ref p] ∧ ((SqL X.K H p ys ∧ NewT ys H Q) ∨ (SqT X.K H p ys ∧ Q (.ref p) H))) := by
  intro pins s σ H xs us Q I r want
  obtain ⟨p, ys, rfl, want⟩ := want
  rcases want with ⟨hq, q⟩ | ⟨hq, q⟩
  · obtain ⟨u, rfl, rx⟩ := vals1 r
    cases rx
    obtain ⟨its, r2, pl, hz⟩ := I.list hq
    have hlen := r2.length
    refine call_tuple_list pl.isList (fun h' kp => ?_) (by simp only [List.size_toArray] <;> omega)
    have I1 : Inv X pins σ H { s with heap := h' } := I.kept (t' := s.toks) kp
    exact laidT I1 hz r2 q
  · exact call_tuple_of pins s σ H _ us Q I r ⟨p, ys, rfl, .inr ⟨hq, q⟩⟩
end
/-! t * n -/
end Fl
namespace PySem.FlX
open PySem PySem.Spec PySem.Calls PyProof.Rows L2
theorem mul_same (l : Addr) (items : Array Value) (n : Nat) (dd : Option Addr) (sl : Array (Option Value)) (x : Int) (u : Tok) (c0 : (decide (x < -(2 ^ 63)) || decide (x ≥ 2 ^ 63)) = false) (c1 : (items.isEmpty || x == 1) = true) :
    Meets (Builtin.«tuple.__mul__» ⟨[.ref l, .int x u], []⟩) (fun _ R s => s.heap.get? l = some { cls := .type "tuple", dict := dd, data := .seq items n, slots := sl } ∧ R (.ok (.ret (Value.ref l))) s) :=
  .of_wp fun prog w A R s h => by
    obtain ⟨hp, g, d, tk, os⟩ := s
    obtain ⟨hl, h⟩ := h
    have f1 := AutoSeq1.idx_int
    wp_walk using AutoSeq1.wpAny_loadPart' hl
    repeat (first
      | (refine wpAny_ite_false (decide_eq_false (by rw [c0]; exact Bool.false_ne_true)) ?_; wp_walk using AutoSeq1.wpAny_loadPart' hl)
      | (refine wpAny_ite_true (decide_eq_true c1) ?_; wp_walk using AutoSeq1.wpAny_loadPart' hl))
    exact ⟨_, rfl, h⟩
theorem mul_none (l : Addr) (items : Array Value) (n : Nat) (dd : Option Addr) (sl : Array (Option Value)) (x : Int) (u : Tok) (c0 : (decide (x < -(2 ^ 63)) || decide (x ≥ 2 ^ 63)) = false) (c1 : (items.isEmpty || x == 1) = false) (c2 : (decide (x ≤ 0) || items.isEmpty) = true) :
    Meets (Builtin.«tuple.__mul__» ⟨[.ref l, .int x u], []⟩) (fun _ R s => s.heap.get? l = some { cls := .type "tuple", dict := dd, data := .seq items n, slots := sl } ∧
      R (.ok (.ret (Value.ref s.heap.objs.size))) { s with heap := s.heap.push { cls := Value.type "tuple", data := Data.seq #[] } }) :=
  .of_wp fun prog w A R s h => by
    obtain ⟨hp, g, d, tk, os⟩ := s
    obtain ⟨hl, h⟩ := h
    have f1 := AutoSeq1.idx_int
    wp_walk using AutoSeq1.wpAny_loadPart' hl
    repeat (first
      | (refine wpAny_ite_false (decide_eq_false (by rw [c0]; exact Bool.false_ne_true)) ?_; wp_walk using AutoSeq1.wpAny_loadPart' hl)
      | (refine wpAny_ite_false (decide_eq_false (by rw [c1]; exact Bool.false_ne_true)) ?_; wp_walk using AutoSeq1.wpAny_loadPart' hl)
      | (refine wpAny_ite_true (decide_eq_true c2) ?_; wp_walk using AutoSeq1.wpAny_loadPart' hl))
    exact ⟨_, rfl, h⟩
end PySem.FlX
namespace Fl
open PySem L2
/-- t * n: t itself, nothing, or a new tuple -/
def rRepN (K : PySem.W.Frag) : R2 := fun x y H Q => ∃ l k xs, x = .ref l ∧ y = .int k ∧ SqT K H l xs ∧ -(2 ^ 63) ≤ k ∧ k ≤ 1000 ∧ xs.length ≤ 1000 ∧
  ((xs = [] ∨ k = 1) → Q (.ref l) H) ∧ (¬ (xs = [] ∨ k = 1) → k ≤ 0 → NewT [] H Q) ∧ (¬ (xs = [] ∨ k = 1) → 2 ≤ k → NewT (List.replicate k.toNat xs).flatten H Q)
section
variable {X : Cx}
theorem op_repN : OpR X (binaryOp .Mult) (rRepN X.K) := by
  intro pins s σ H x y v u Q I rx ry want
  obtain ⟨l, k, xs, rfl, rfl, hT, h0, h1, hz, q1, q2, q3⟩ := want
  cases rx
  obtain ⟨t, rfl⟩ := ry
  obtain ⟨its, r, ⟨⟨cls, dd, data, sl⟩, ho, hc, n, hd⟩, hs⟩ := I.tuple hT
  simp only at hc hd
  subst hc hd
  have hle : its.length = xs.length := r.length.symm
  have hsz0 : its.toArray.size = xs.length := by rw [List.size_toArray, hle]
  have em : its.toArray.isEmpty = decide (xs = []) := by
    cases its with
    | nil =>
      have e : xs = [] := List.eq_nil_of_length_eq_zero hle.symm
      rw [e]
      rfl
    | cons a b =>
      have e : xs ≠ [] := fun z => by rw [z] at hle; cases hle
      rw [decide_eq_false e]
      rfl
  have c0 : (decide (k < -(2 ^ 63)) || decide (k ≥ 2 ^ 63)) = false := by
    rw [decide_eq_false (show ¬ k < -(2 ^ 63) by omega), decide_eq_false (show ¬ k ≥ 2 ^ 63 by omega)] <;> rfl
  have ent : ∀ {Q2 : Value → Shared → Prop}, wpAny (model X.prog X.w) X.A (call (.builtin "tuple.__mul__") [.ref l, .int k t]) Q2 X.xe s → wpAny (model X.prog X.w) X.A (binaryOp .Mult (.ref l) (.int k t)) Q2 X.xe s := fun {Q2} w =>
    wpAny_binaryOp_repeat_ref (T := "tuple") (U := "int") (by decide) ⟨_, ho, rfl⟩ (fun s' => typeIs_int s' k t) noFill_tuple_mul PySem.F.fills_int_mul PySem.F.slot_int_rmul repeat_tuple PySem.F.slot_int_index.lookup
      (call_meets PySem.F.slot_int_rmul (typeIs_int s k t) PySem.F.entry_int_rmul (PySem.F.args_int_rmul_2 _ _) (int_rmul_tuple k t l its.toArray n dd sl) ⟨ho, rfl, ⟨_, ho, rfl⟩, w⟩)
  refine ent ?_
  by_cases hsame : xs = [] ∨ k = 1
  · have c1 : (its.toArray.isEmpty || k == 1) = true := by
      rw [em]
      rcases hsame with e | e
      · rw [decide_eq_true e]; rfl
      · rw [e]; simp
    exact call_meets PySem.F.slot_tuple_mul ⟨_, ho, rfl⟩ PySem.F.entry_tuple_mul (PySem.F.args_tuple_mul_2 _ _) (PySem.FlX.mul_same l its.toArray n dd sl k t c0 c1) ⟨ho, ⟨.ref l, H, I, rfl, q1 hsame⟩⟩
  · have hne : xs ≠ [] := fun z => hsame (.inl z)
    have k1 : k ≠ 1 := fun z => hsame (.inr z)
    have ei : its.toArray.isEmpty = false := by rw [em, decide_eq_false hne]
    have c1 : (its.toArray.isEmpty || k == 1) = false := by rw [ei, Bool.false_or]; exact beq_eq_false_iff_ne.mpr k1
    by_cases hk : k ≤ 0
    · have c2 : (decide (k ≤ 0) || its.toArray.isEmpty) = true := by rw [decide_eq_true hk]; rfl
      exact call_meets PySem.F.slot_tuple_mul ⟨_, ho, rfl⟩ PySem.F.entry_tuple_mul (PySem.F.args_tuple_mul_2 _ _) (PySem.FlX.mul_none l its.toArray n dd sl k t c0 c1 c2) ⟨ho, laidT (its := []) I (Nat.zero_le _) .nil (q2 hsame hk)⟩
    · have c2 : (decide (k ≤ 0) || its.toArray.isEmpty) = false := by rw [decide_eq_false hk, ei]; rfl
      have hm : ((its.toArray.size : Nat) : Int) * k ≤ 1000000 := by
        rw [hsz0]
        have a1 : ((xs.length : Nat) : Int) * k ≤ 1000 * k := Int.mul_le_mul_of_nonneg_right (by omega) (by omega)
        omega
      have fl2 : (List.replicate k.toNat xs).flatten.length ≤ sizeLine := by
        rw [PyProof.Rows.lm_len_rep_flat, sizeLine_eq]
        have a1 : k.toNat * xs.length ≤ 1000 * 1000 := Nat.mul_le_mul (by omega) hz
        omega
      have fl1 : (List.replicate k.toNat its).flatten.length ≤ sizeLine := by
        rw [PyProof.Rows.lm_len_rep_flat, hle, sizeLine_eq]
        have a1 : k.toNat * xs.length ≤ 1000 * 1000 := Nat.mul_le_mul (by omega) hz
        omega
      have c4 : Builtin.Tuple.tupleTooMany (((its.toArray.size : Nat) : Int) * k) = false := by
        unfold Builtin.Tuple.tupleTooMany
        rw [sizeLine_eq]
        exact decide_eq_false (by omega)
      refine call_meets PySem.F.slot_tuple_mul ⟨_, ho, rfl⟩ PySem.F.entry_tuple_mul (PySem.F.args_tuple_mul_2 _ _) (tuple_mulW l its.toArray n dd sl k t c0 c1 c2 (by omega) c4 (by rw [size_rep, List.size_toArray]; exact fl1)) ⟨ho, ?_⟩
      rw [size_rep]
      exact laidT I fl2 (r.rep k.toNat) (q3 hsame (by omega))
end
/-- a text n times -/
def repS (x : Str) (k : Int) : Str := if k < 1 then Str.empty else if (k == 1 || x.length == 0) = true then x else ⟨(List.replicate k.toNat x.cps).foldl (· ++ ·) #[]⟩
def rRepS (x y : V) (H : Hp) (Q : VK) : Prop := ∃ (z : Str) (k : Int), x = .str z ∧ y = .int k ∧ z.length ≤ 1000 ∧ -1000 ≤ k ∧ k ≤ 1000 ∧ (repS z k).length ≤ sizeLine ∧ Q (.str (repS z k)) H
section
variable {X : Cx}
theorem op_repS : OpR X (binaryOp .Mult) rRepS := by
  intro pins s σ H x y v u Q I rx ry want
  obtain ⟨z, k, rfl, rfl, hz, h0, h1, hl, q⟩ := want
  obtain ⟨t, rfl⟩ := rx
  obtain ⟨t2, rfl⟩ := ry
  refine PySem.P.mul_str ?_ ?_ ?_ ?_
  · rw [decide_eq_false (show ¬ k < -(2 ^ 63) by omega), decide_eq_false (show ¬ k ≥ 2 ^ 63 by omega)] <;> rfl
  · intro a b c
    have d : (2 ^ 63 - 1) / k ≥ 1000 := (Int.le_ediv_iff_mul_le (by omega)).mpr (by omega)
    omega
  · intro a b
    have m : z.length * k.toNat ≤ 1000 * 1000 := Nat.mul_le_mul hz (by omega)
    unfold PySem.Builtin.Str.tooLong
    rw [decide_eq_false]
    rw [sizeLine_eq]
    omega
  · unfold repS at q hl
    split
    · rename_i c
      rw [if_pos c] at q hl
      exact ⟨hl, .str _, H, I.tok _, ⟨s.toks, rfl⟩, q⟩
    · rename_i c
      rw [if_neg c] at q hl
      split
      · rename_i c2
        rw [if_pos c2] at q
        exact ⟨.str _, H, I, ⟨t, rfl⟩, q⟩
      · rename_i c2
        rw [if_neg c2] at q hl
        exact ⟨hl, .str _, H, I.tok _, ⟨s.toks, rfl⟩, q⟩
end
end Fl
/-! Fl, part 1: plain values, the plain heap, how they stand in the abstract heap of the hand layer. -/
namespace Fl
open PySem L2
/-- plain values: tuples (and lists that nobody may change) are data, all other things are places of the plain heap -/
inductive D where
  | non | bl (b : Bool) | int (i : Int) | str (s : Str) | tup (l : List D) | fls (l : List D) | ref (n : Nat)
/-- what stands at a place: a list, a dict, an instance, an exception (classes by numbers) -/
inductive HB where
  | lst (l : List D) | dic (kvs : List (Key × D)) | ins (c : Nat) (fs : List (Str × D)) | exc (c : Nat) (fs : List (Str × D))
abbrev IH := List HB
abbrev Lc := List (Option D)
section
variable (K : PySem.W.Frag)
/-- a list that stays for ever -/
def SqF (H : Hp) (a : Addr) (xs : List V) : Prop := (∃ o, H a = some (.frz o (.lst xs))) ∨
  ∃ (o : Obj) (its : Array Value) (n : Nat), K.lookup a = some o ∧ o.cls = .type "list" ∧ o.dict = none ∧ o.data = .seq its n ∧ its.size ≤ sizeLine ∧ Vals xs its.toList
mutual
def VR (ws : List Addr) (H : Hp) : D → V → Prop
  | .non, v => v = .non
  | .bl b, v => v = .bl b
  | .int i, v => v = .int i
  | .str s, v => v = .str s
  | .tup l, v => ∃ a xs, v = .ref a ∧ SqN K H a xs ∧ VRs ws H l xs
  | .fls l, v => ∃ a xs, v = .ref a ∧ SqF K H a xs ∧ VRs ws H l xs
  | .ref n, v => ∃ a, v = .ref a ∧ ws[n]? = some a
def VRs (ws : List Addr) (H : Hp) : List D → List V → Prop
  | [], xs => xs = []
  | d :: ds, xs => ∃ x r, xs = x :: r ∧ VR ws H d x ∧ VRs ws H ds r
end
/-- what never changes is kept -/
def Le (H H' : Hp) : Prop := (∀ a xs, SqN K H a xs → SqN K H' a xs) ∧ ∀ a xs, SqF K H a xs → SqF K H' a xs
end
section
variable {K : PySem.W.Frag} {ws ws' ws2 : List Addr} {H H' H2 : Hp}
theorem Le.refl : Le K H H := ⟨fun _ _ h => h, fun _ _ h => h⟩
theorem Le.trans (p : Le K H H') (q : Le K H' H2) : Le K H H2 := ⟨fun a xs h => q.1 a xs (p.1 a xs h), fun a xs h => q.2 a xs (p.2 a xs h)⟩
theorem pre_get {a : Addr} {n : Nat} (p : ws <+: ws') (h : ws[n]? = some a) : ws'[n]? = some a := by
  obtain ⟨t, rfl⟩ := p
  rw [List.getElem?_append_left (List.getElem?_eq_some_iff.mp h).1]
  exact h
mutual
theorem VR.mono (p : ws <+: ws') (l : Le K H H') : ∀ {d : D} {v : V}, VR K ws H d v → VR K ws' H' d v
  | .non, _, h => h
  | .bl _, _, h => h
  | .int _, _, h => h
  | .str _, _, h => h
  | .tup _, _, h => by
    obtain ⟨a, xs, e, s, r⟩ := h
    exact ⟨a, xs, e, l.1 _ _ s, VRs.mono p l r⟩
  | .fls _, _, h => by
    obtain ⟨a, xs, e, s, r⟩ := h
    exact ⟨a, xs, e, l.2 _ _ s, VRs.mono p l r⟩
  | .ref _, _, h => by
    obtain ⟨a, e, s⟩ := h
    exact ⟨a, e, pre_get p s⟩
theorem VRs.mono (p : ws <+: ws') (l : Le K H H') : ∀ {ds : List D} {xs : List V}, VRs K ws H ds xs → VRs K ws' H' ds xs
  | [], _, h => h
  | _ :: _, _, h => by
    obtain ⟨x, r, e, h1, h2⟩ := h
    exact ⟨x, r, e, VR.mono p l h1, VRs.mono p l h2⟩
end
theorem VRs.cons {d : D} {ds : List D} {x : V} {xs : List V} (h : VR K ws H d x) (t : VRs K ws H ds xs) : VRs K ws H (d :: ds) (x :: xs) := ⟨x, xs, rfl, h, t⟩
theorem VRs.len : ∀ {ds : List D} {xs : List V}, VRs K ws H ds xs → xs.length = ds.length
  | [], _, h => by cases h; rfl
  | _ :: _, _, h => by
    obtain ⟨x, r, rfl, _, h2⟩ := h
    simp [VRs.len h2]
theorem VRs.get : ∀ {ds : List D} {xs : List V} {i : Nat} {d : D}, VRs K ws H ds xs → ds[i]? = some d → ∃ x, xs[i]? = some x ∧ VR K ws H d x
  | [], _, _, _, _, e => by simp at e
  | _ :: _, _, 0, _, h, e => by
    obtain ⟨x, r, rfl, h1, h2⟩ := h
    simp at e; subst e
    exact ⟨x, rfl, h1⟩
  | _ :: _, _, i + 1, d, h, e => by
    obtain ⟨x, r, rfl, h1, h2⟩ := h
    obtain ⟨y, e1, e2⟩ := VRs.get (i := i) (d := d) h2 (by simpa using e)
    exact ⟨y, by simpa using e1, e2⟩
theorem VRs.get' : ∀ {ds : List D} {xs : List V} {i : Nat} {x : V}, VRs K ws H ds xs → xs[i]? = some x → ∃ d, ds[i]? = some d ∧ VR K ws H d x
  | [], _, _, _, h, e => by cases h; simp at e
  | d :: _, _, 0, _, h, e => by
    obtain ⟨x, r, rfl, h1, h2⟩ := h
    simp at e; subst e
    exact ⟨d, rfl, h1⟩
  | _ :: _, _, i + 1, x, h, e => by
    obtain ⟨y, r, rfl, h1, h2⟩ := h
    obtain ⟨d, e1, e2⟩ := VRs.get' (i := i) (x := x) h2 (by simpa using e)
    exact ⟨d, by simpa using e1, e2⟩
theorem VRs.append : ∀ {ds es : List D} {xs ys : List V}, VRs K ws H ds xs → VRs K ws H es ys → VRs K ws H (ds ++ es) (xs ++ ys)
  | [], _, _, _, h, t => by cases h; exact t
  | _ :: _, _, _, _, h, t => by
    obtain ⟨x, r, rfl, h1, h2⟩ := h
    exact ⟨x, _, rfl, h1, VRs.append h2 t⟩
theorem VRs.take (n : Nat) : ∀ {ds : List D} {xs : List V} , VRs K ws H ds xs → VRs K ws H (ds.take n) (xs.take n) := by
  induction n with
  | zero => intro ds xs _; simp [VRs]
  | succ n ih =>
    intro ds xs h
    cases ds with
    | nil => cases h; simp [VRs]
    | cons d ds =>
      obtain ⟨x, r, rfl, h1, h2⟩ := h
      exact ⟨x, _, rfl, h1, ih h2⟩
theorem VRs.drop (n : Nat) : ∀ {ds : List D} {xs : List V} , VRs K ws H ds xs → VRs K ws H (ds.drop n) (xs.drop n) := by
  induction n with
  | zero => intro ds xs h; simpa using h
  | succ n ih =>
    intro ds xs h
    cases ds with
    | nil => cases h; simp [VRs]
    | cons d ds =>
      obtain ⟨x, r, rfl, h1, h2⟩ := h
      exact ih h2
theorem VRs.set {d : D} {x : V} (h0 : VR K ws H d x) : ∀ (i : Nat) {ds : List D} {xs : List V}, VRs K ws H ds xs → VRs K ws H (ds.set i d) (xs.set i x) := by
  intro i
  induction i with
  | zero =>
    intro ds xs h
    cases ds with
    | nil => cases h; simp [VRs]
    | cons e ds =>
      obtain ⟨y, r, rfl, h1, h2⟩ := h
      exact ⟨x, r, rfl, h0, h2⟩
  | succ i ih =>
    intro ds xs h
    cases ds with
    | nil => cases h; simp [VRs]
    | cons e ds =>
      obtain ⟨y, r, rfl, h1, h2⟩ := h
      exact ⟨y, _, rfl, h1, ih h2⟩
theorem VRs.eraseIdx : ∀ (i : Nat) {ds : List D} {xs : List V}, VRs K ws H ds xs → VRs K ws H (ds.eraseIdx i) (xs.eraseIdx i) := by
  intro i
  induction i with
  | zero =>
    intro ds xs h
    cases ds with
    | nil => cases h; simp [VRs]
    | cons e ds =>
      obtain ⟨y, r, rfl, h1, h2⟩ := h
      exact h2
  | succ i ih =>
    intro ds xs h
    cases ds with
    | nil => cases h; simp [VRs]
    | cons e ds =>
      obtain ⟨y, r, rfl, h1, h2⟩ := h
      exact ⟨y, _, rfl, h1, ih h2⟩
theorem VRs.dropLast {ds : List D} {xs : List V} (h : VRs K ws H ds xs) : VRs K ws H ds.dropLast xs.dropLast := by
  rw [List.dropLast_eq_take, List.dropLast_eq_take, h.len]
  exact VRs.take _ h
theorem VRs.reverse : ∀ {ds : List D} {xs : List V}, VRs K ws H ds xs → VRs K ws H ds.reverse xs.reverse
  | [], _, h => by cases h; simp [VRs]
  | _ :: _, _, h => by
    obtain ⟨x, r, rfl, h1, h2⟩ := h
    rw [List.reverse_cons, List.reverse_cons]
    exact VRs.append (VRs.reverse h2) ⟨x, [], rfl, h1, rfl⟩
theorem VRs.ints (is : List Int) : VRs K ws H (is.map D.int) (is.map V.int) := by
  induction is with
  | nil => rfl
  | cons i is ih => exact ⟨_, _, rfl, rfl, ih⟩
theorem VRs.of_ints : ∀ {is : List Int} {xs : List V}, VRs K ws H (is.map D.int) xs → xs = is.map V.int
  | [], _, h => h
  | _ :: _, _, h => by
    obtain ⟨x, r, rfl, h1, h2⟩ := h
    have h1' : x = V.int _ := h1
    rw [h1', VRs.of_ints h2]; rfl
theorem VRs.strs (is : List Str) : VRs K ws H (is.map D.str) (is.map V.str) := by
  induction is with
  | nil => rfl
  | cons i is ih => exact ⟨_, _, rfl, rfl, ih⟩
theorem VRs.of_strs : ∀ {is : List Str} {xs : List V}, VRs K ws H (is.map D.str) xs → xs = is.map V.str
  | [], _, h => h
  | _ :: _, _, h => by
    obtain ⟨x, r, rfl, h1, h2⟩ := h
    have h1' : x = V.str _ := h1
    rw [h1', VRs.of_strs h2]; rfl
end
/-! ### the heap -/
/-- an exception object of the class at C, with its dict at dd -/
def exT (a C dd : Addr) : HO := .ext fun h => ∃ (oe : Obj) (vs : Array Value), h.get? a = some oe ∧ oe.cls = .ref C ∧ oe.dict = some dd ∧ oe.data = .fields vs
theorem exT_lst {a C dd : Addr} {xs : List V} : exT a C dd ≠ .lst xs := fun z => by
  have z' : HO.ext _ = HO.lst xs := z
  cases z'
theorem exT_tup {a C dd : Addr} {xs : List V} : exT a C dd ≠ .tup xs := fun z => by
  have z' : HO.ext _ = HO.tup xs := z
  cases z'
/-- fields, in their order -/
def FR (K : PySem.W.Frag) (ws : List Addr) (H : Hp) : List (Str × D) → List (Str × V) → Prop
  | [], xs => xs = []
  | p :: ps, xs => ∃ x r, xs = (p.1, x) :: r ∧ VR K ws H p.2 x ∧ FR K ws H ps r
def KR (K : PySem.W.Frag) (ws : List Addr) (H : Hp) : List (Key × D) → List (Key × V) → Prop
  | [], xs => xs = []
  | p :: ps, xs => ∃ x r, xs = (p.1, x) :: r ∧ VR K ws H p.2 x ∧ KR K ws H ps r
section
variable {K : PySem.W.Frag} {ws ws' : List Addr} {H H' : Hp}
theorem FR.mono (p : ws <+: ws') (l : Le K H H') : ∀ {fs : List (Str × D)} {xs : List (Str × V)}, FR K ws H fs xs → FR K ws' H' fs xs
  | [], _, h => h
  | _ :: _, _, h => by
    obtain ⟨x, r, e, h1, h2⟩ := h
    exact ⟨x, r, e, VR.mono p l h1, FR.mono p l h2⟩
theorem KR.mono (p : ws <+: ws') (l : Le K H H') : ∀ {fs : List (Key × D)} {xs : List (Key × V)}, KR K ws H fs xs → KR K ws' H' fs xs
  | [], _, h => h
  | _ :: _, _, h => by
    obtain ⟨x, r, e, h1, h2⟩ := h
    exact ⟨x, r, e, VR.mono p l h1, KR.mono p l h2⟩
theorem FR.len : ∀ {fs : List (Str × D)} {xs : List (Str × V)}, FR K ws H fs xs → xs.length = fs.length
  | [], _, h => by cases h; rfl
  | _ :: _, _, h => by
    obtain ⟨x, r, rfl, _, h2⟩ := h
    simp [FR.len h2]
theorem KR.len : ∀ {fs : List (Key × D)} {xs : List (Key × V)}, KR K ws H fs xs → xs.length = fs.length
  | [], _, h => by cases h; rfl
  | _ :: _, _, h => by
    obtain ⟨x, r, rfl, _, h2⟩ := h
    simp [KR.len h2]
theorem FR.look {f : Str} : ∀ {fs : List (Str × D)} {xs : List (Str × V)} {d : D}, FR K ws H fs xs → fs.lookup f = some d → ∃ v, xs.lookup f = some v ∧ VR K ws H d v
  | [], _, _, _, e => by simp at e
  | (g, y) :: _, _, d, h, e => by
    obtain ⟨x, r, rfl, h1, h2⟩ := h
    cases hb : f == g with
    | true =>
      simp only [List.lookup, hb] at e ⊢
      cases e
      exact ⟨x, rfl, h1⟩
    | false =>
      simp only [List.lookup, hb] at e ⊢
      exact FR.look h2 e
theorem FR.look_none {f : Str} : ∀ {fs : List (Str × D)} {xs : List (Str × V)}, FR K ws H fs xs → fs.lookup f = none → xs.lookup f = none
  | [], _, h, _ => by cases h; rfl
  | (g, y) :: _, _, h, e => by
    obtain ⟨x, r, rfl, h1, h2⟩ := h
    cases hb : f == g with
    | true => simp only [List.lookup, hb] at e; cases e
    | false =>
      simp only [List.lookup, hb] at e ⊢
      exact FR.look_none h2 e
end
section
variable (K : PySem.W.Frag) (cl : Nat → Addr)
/-- the object at a is o -/
def OR (ws : List Addr) (H : Hp) (a : Addr) : HB → Prop
  | .lst l => ∃ xs, H a = some (.lst xs) ∧ VRs K ws H l xs
  | .dic kvs => ∃ xs, H a = some (.dK xs) ∧ KR K ws H kvs xs
  | .ins c fs => ∃ dx xs, H a = some (.ins (cl c) dx xs) ∧ FR K ws H fs xs
  | .exc c fs => ∃ dd xs, H a = some (exT a (cl c) dd) ∧ H dd = some (.xd xs) ∧ FR K ws H fs xs
/-- the plain heap h stands in H, its places at the addresses ws -/
structure HR (ws : List Addr) (h : IH) (H : Hp) : Prop where
  len : ws.length = h.length
  nd : ws.Nodup
  ob : ∀ (n : Nat) (o : HB) (a : Addr), h[n]? = some o → ws[n]? = some a → OR K cl ws H a o
end
/-- what may be written -/
def Wr : HO → Prop
  | .lst _ => True
  | .dK _ => True
  | .dT _ => True
  | .set _ _ => True
  | .ins _ _ _ => True
  | _ => False
/-- kept but at x -/
def Kept (x : Addr) (H H' : Hp) : Prop := (∀ b u, b ≠ x → H b = some u → H' b = some u) ∧ ∀ u, H x = some u → Wr u
section
variable {K : PySem.W.Frag} {cl : Nat → Addr} {ws ws' : List Addr} {h : IH} {H H' : Hp} {a x p : Addr} {o : HO}
theorem Kept.new (hp : H p = none) : Kept p H (upd H p o) := ⟨fun b u hb e => by rw [upd_ne hb]; exact e, fun u e => by rw [hp] at e; cases e⟩
theorem Kept.wr {u : HO} (e : H x = some u) (w : Wr u) : Kept x H (upd H x o) := ⟨fun b u hb e => by rw [upd_ne hb]; exact e, fun v e' => by rw [e] at e'; cases e'; exact w⟩
theorem Kept.at (k : Kept x H H') {b : Addr} {u : HO} (e : H b = some u) (n : ¬ Wr u) : H' b = some u :=
  k.1 b u (fun z => by rw [z] at e; exact n (k.2 u e)) e
theorem Kept.rd (k : Kept x H H') {u : HO} (r : Rd H a u) (n : ¬ Wr u) : Rd H' a u := by
  rcases r with r | ⟨o, r⟩
  · exact .inl (k.at r n)
  · exact .inr ⟨o, k.at r (fun z => z)⟩
theorem Kept.le (k : Kept x H H') : Le K H H' := by
  refine ⟨fun a xs s => ?_, fun a xs s => ?_⟩
  · rcases s with ⟨o, c, d, r⟩ | r
    · exact .inl ⟨o, c, d, k.at r (fun z => z)⟩
    · exact .inr r
  · rcases s with ⟨o, r⟩ | r
    · exact .inl ⟨o, k.at r (fun z => z)⟩
    · exact .inr r
theorem SqF.sq {xs : List V} (h : SqF K H a xs) : SqL K H a xs := by
  rcases h with ⟨o, h⟩ | h
  · exact .inl (.inr ⟨o, h⟩)
  · exact .inr h
/-- an object that is not at x stays -/
theorem OR.keep (p : ws <+: ws') (k : Kept x H H') (hx : a ≠ x) : ∀ {o : HB}, OR K cl ws H a o → OR K cl ws' H' a o
  | .lst _, h => by
    obtain ⟨xs, e, r⟩ := h
    exact ⟨xs, k.1 a _ hx e, VRs.mono p k.le r⟩
  | .dic _, h => by
    obtain ⟨xs, e, r⟩ := h
    exact ⟨xs, k.1 a _ hx e, KR.mono p k.le r⟩
  | .ins _ _, h => by
    obtain ⟨dx, xs, e, r⟩ := h
    exact ⟨dx, xs, k.1 a _ hx e, FR.mono p k.le r⟩
  | .exc _ _, h => by
    obtain ⟨dd, xs, e, e2, r⟩ := h
    exact ⟨dd, xs, k.1 a _ hx e, k.at e2 (fun z => z), FR.mono p k.le r⟩
theorem OR.some : ∀ {o : HB}, OR K cl ws H a o → ∃ u, H a = some u
  | .lst _, h => let ⟨_, e, _⟩ := h; ⟨_, e⟩
  | .dic _, h => let ⟨_, e, _⟩ := h; ⟨_, e⟩
  | .ins _ _, h => let ⟨_, _, e, _⟩ := h; ⟨_, e⟩
  | .exc _ _, h => let ⟨_, _, e, _⟩ := h; ⟨_, e⟩
theorem HR.at (r : HR K cl ws h H) {n : Nat} {o : HB} (e : h[n]? = some o) : ∃ a, ws[n]? = some a ∧ OR K cl ws H a o := by
  have hn : n < ws.length := by rw [r.len]; exact (List.getElem?_eq_some_iff.mp e).1
  exact ⟨ws[n], List.getElem?_eq_getElem hn, r.ob n o _ e (List.getElem?_eq_getElem hn)⟩
theorem HR.has (r : HR K cl ws h H) {n : Nat} {a : Addr} (e : ws[n]? = some a) : ∃ o, h[n]? = some o ∧ OR K cl ws H a o := by
  have hn : n < h.length := by rw [← r.len]; exact (List.getElem?_eq_some_iff.mp e).1
  exact ⟨h[n], List.getElem?_eq_getElem hn, r.ob n _ a (List.getElem?_eq_getElem hn) e⟩
theorem HR.free (r : HR K cl ws h H) (hp : H p = none) : p ∉ ws := fun hm => by
  obtain ⟨n, hn, e⟩ := List.getElem_of_mem hm
  obtain ⟨o, _, q⟩ := r.has (n := n) (a := p) (by rw [List.getElem?_eq_getElem hn, e])
  obtain ⟨u, z⟩ := q.some
  rw [hp] at z; cases z
/-- a new thing that no place shows -/
theorem HR.keep (r : HR K cl ws h H) (k : Kept p H H') (hp : p ∉ ws) : HR K cl ws h H' :=
  ⟨r.len, r.nd, fun n o a e1 e2 => (r.ob n o a e1 e2).keep (List.prefix_refl _) k (fun z => hp (z ▸ List.mem_of_getElem? e2))⟩
/-- a new place -/
theorem HR.new {no : HO} {o : HB} (r : HR K cl ws h H) (hp : H p = none) (ob : OR K cl (ws ++ [p]) (upd H p no) p o) : HR K cl (ws ++ [p]) (h ++ [o]) (upd H p no) := by
  have np := r.free hp
  have nd : (ws ++ [p]).Nodup := by
    refine List.nodup_append.mpr ⟨r.nd, by simp, fun a ha b hb => ?_⟩
    have e : b = p := by simpa using hb
    rw [e]
    exact fun z => np (z ▸ ha)
  refine ⟨by simp [r.len], nd, fun n u a e1 e2 => ?_⟩
  by_cases hn : n < h.length
  · rw [List.getElem?_append_left hn] at e1
    rw [List.getElem?_append_left (by rw [r.len]; exact hn)] at e2
    exact (r.ob n u a e1 e2).keep (List.prefix_append _ _) (Kept.new hp) (fun z => np (z ▸ List.mem_of_getElem? e2))
  · have hn' : n = h.length := by
      have := (List.getElem?_eq_some_iff.mp e1).1
      simp at this; omega
    subst hn'
    have e1' : o = u := by simpa using e1
    have e2' : p = a := by
      rw [← r.len] at e2
      simpa using e2
    subst e1' e2'
    exact ob
/-- a place written -/
theorem HR.set {n : Nat} {u ho : HO} {o : HB} (r : HR K cl ws h H) (ea : ws[n]? = some a) (eu : H a = some u) (w : Wr u) (no : OR K cl ws (upd H a ho) a o) : HR K cl ws (h.set n o) (upd H a ho) := by
  refine ⟨by simp [r.len], r.nd, fun m v b e1 e2 => ?_⟩
  by_cases hm : n = m
  · subst hm
    rw [ea] at e2; cases e2
    have hl := (List.getElem?_eq_some_iff.mp e1).1
    rw [List.getElem?_set_self (by simpa using hl)] at e1
    cases e1
    exact no
  · rw [List.getElem?_set_ne hm] at e1
    refine (r.ob m v b e1 e2).keep (List.prefix_refl _) (Kept.wr eu w) fun z => hm ?_
    subst z
    obtain ⟨h1, e1'⟩ := List.getElem?_eq_some_iff.mp ea
    obtain ⟨h2, e2'⟩ := List.getElem?_eq_some_iff.mp e2
    exact (List.getElem_inj r.nd).mp (e1'.trans e2'.symm)
end
end Fl
/-! Fl, part 2: what a plain step gives back, and the judgements: this node of the text does what this plain function does. -/
namespace Fl
open PySem L2
inductive R (α : Type) where
  | ok (a : α) (h : IH) | ex (c : Nat) (fs : List (Str × D)) (h : IH) | bad
def R.bind {α β : Type} (r : R α) (k : α → IH → R β) : R β := match r with
  | .ok a h => k a h
  | .ex c fs h => .ex c fs h
  | .bad => .bad
inductive RS where
  | nx (e : Lc) (h : IH) | rt (d : D) (h : IH) | bk (e : Lc) (h : IH) | ct (e : Lc) (h : IH) | ex (c : Nat) (fs : List (Str × D)) (e : Lc) (h : IH) | bad
abbrev SE := Lc → IH → R D
abbrev ST := Lc → IH → R Bool
abbrev SA := Lc → IH → R (List D)
abbrev SS := Lc → IH → RS
section
variable (K : PySem.W.Frag) (cl : Nat → Addr) (W : WX)
/-- the slots -/
def LR (ws : List Addr) (H : Hp) (e : Lc) (σ : St) : Prop := e.length = σ.length ∧ ∀ (i : Nat) (d : D), e[i]? = some (some d) → ∃ v, σ[i]? = some (some v) ∧ VR K ws H d v
/-- what is wanted behind r -/
def rd {α β : Type} (rel : List Addr → Hp → α → β → Prop) (r : R α) (ws : List Addr) (H : Hp) (σ : St) (Q : β → Hp → Prop) : Prop := match r with
  | .ok a h' => ∀ ws' H' v, ws <+: ws' → Le K H H' → HR K cl ws' h' H' → rel ws' H' a v → Q v H'
  | .ex c fs h' => ∀ ws' H' dd xs, ws <+: ws' → Le K H H' → HR K cl ws' h' H' → H' dd = some (.xd xs) → FR K ws' H' fs xs → W (.ref (cl c)) (some dd) σ H'
  | .bad => False
/-- .. behind a statement -/
def rdS (r : RS) (ws : List Addr) (H : Hp) (E : Ends) : Prop := match r with
  | .nx e h => ∀ ws' H' σ', ws <+: ws' → Le K H H' → HR K cl ws' h H' → LR K ws' H' e σ' → E.nx σ' H'
  | .bk e h => ∀ ws' H' σ', ws <+: ws' → Le K H H' → HR K cl ws' h H' → LR K ws' H' e σ' → E.bk σ' H'
  | .ct e h => ∀ ws' H' σ', ws <+: ws' → Le K H H' → HR K cl ws' h H' → LR K ws' H' e σ' → E.ct σ' H'
  | .rt d h => ∀ ws' H' v, ws <+: ws' → Le K H H' → HR K cl ws' h H' → VR K ws' H' d v → E.rt v H'
  | .ex c fs e h => ∀ ws' H' σ' dd xs, ws <+: ws' → Le K H H' → HR K cl ws' h H' → LR K ws' H' e σ' → H' dd = some (.xd xs) → FR K ws' H' fs xs → W (.ref (cl c)) (some dd) σ' H'
  | .bad => False
abbrev relB : List Addr → Hp → Bool → Bool → Prop := fun _ _ a b => a = b
def tE (f : SE) : TE := fun σ H Q => ∃ ws e h, HR K cl ws h H ∧ LR K ws H e σ ∧ rd K cl W (VR K) (f e h) ws H σ Q
def tT (f : ST) : TT := fun σ H Q => ∃ ws e h, HR K cl ws h H ∧ LR K ws H e σ ∧ rd K cl W relB (f e h) ws H σ Q
def tA (f : SA) : TA := fun σ H Q => ∃ ws e h, HR K cl ws h H ∧ LR K ws H e σ ∧ rd K cl W (VRs K) (f e h) ws H σ Q
def tS (f : SS) : TS := fun E σ H => ∃ ws e h, HR K cl ws h H ∧ LR K ws H e σ ∧ rdS K cl W (f e h) ws H E
end
structure DE (X : Cx) (cl : Nat → Addr) (W : WX) (e : Expr) (f : SE) : Prop where
  p : PE X e (tE X.K cl W f)
structure DT (X : Cx) (cl : Nat → Addr) (W : WX) (e : Expr) (f : ST) : Prop where
  p : PT X e (tT X.K cl W f)
structure DW (X : Cx) (cl : Nat → Addr) (W : WX) (e : Expr) (f : ST) : Prop where
  p : PW X e (tT X.K cl W f)
structure DA (X : Cx) (cl : Nat → Addr) (W : WX) (es : List Expr) (f : SA) : Prop where
  p : PA X es (tA X.K cl W f)
structure DS (X : Cx) (cl : Nat → Addr) (W : WX) (s : Stmt) (f : SS) : Prop where
  p : PS X s (tS X.K cl W f)
structure DSs (X : Cx) (cl : Nat → Addr) (W : WX) (ss : List Stmt) (f : SS) : Prop where
  p : PSs X ss (tS X.K cl W f)
section
variable {X : Cx} {e : Expr} {es : List Expr} {s : Stmt} {ss : List Stmt}
theorem peImp {t u : TE} (h : PE X e t) (i : ∀ σ H Q, u σ H Q → t σ H Q) : PE X e u := ⟨fun pins s σ H Q I q => h.run pins s σ H Q I (i σ H Q q)⟩
theorem ptImp {t u : TT} (h : PT X e t) (i : ∀ σ H Q, u σ H Q → t σ H Q) : PT X e u := ⟨fun pins s σ H Q I q => h.run pins s σ H Q I (i σ H Q q)⟩
theorem pwImp {t u : TT} (h : PW X e t) (i : ∀ σ H Q, u σ H Q → t σ H Q) : PW X e u := ⟨fun wh pins s σ H Q I q => h.run wh pins s σ H Q I (i σ H Q q)⟩
theorem paImp {t u : TA} (h : PA X es t) (i : ∀ σ H Q, u σ H Q → t σ H Q) : PA X es u := ⟨fun pos pins s σ H Q I q => h.run pos pins s σ H Q I (i σ H Q q)⟩
theorem psImp {t u : TS} (h : PS X s t) (i : ∀ D σ H, u D σ H → t D σ H) : PS X s u := ⟨fun pins z σ H D I q => h.run pins z σ H D I (i D σ H q)⟩
theorem pssImp {t u : TS} (h : PSs X ss t) (i : ∀ D σ H, u D σ H → t D σ H) : PSs X ss u := ⟨fun pins z σ H D I q => h.run pins z σ H D I (i D σ H q)⟩
end
section
variable {K : PySem.W.Frag} {cl : Nat → Addr} {W : WX} {ws ws' : List Addr} {h : IH} {H H' : Hp} {e : Lc} {σ : St}
theorem LR.mono (p : ws <+: ws') (l : Le K H H') (r : LR K ws H e σ) : LR K ws' H' e σ := ⟨r.1, fun i d q => by
  obtain ⟨v, a, b⟩ := r.2 i d q
  exact ⟨v, a, b.mono p l⟩⟩
theorem LR.set {d : D} {v : V} (r : LR K ws H e σ) (i : Nat) (q : VR K ws H d v) : LR K ws H (e.set i (some d)) (σ.set i (some v)) := by
  refine ⟨by simp [r.1], fun j d' hj => ?_⟩
  by_cases hi : i = j
  · subst hi
    have hl := (List.getElem?_eq_some_iff.mp hj).1
    rw [List.length_set] at hl
    rw [List.getElem?_set_self hl] at hj
    cases hj
    exact ⟨v, List.getElem?_set_self (by rw [← r.1]; exact hl), q⟩
  · rw [List.getElem?_set_ne hi] at hj
    obtain ⟨w, a, b⟩ := r.2 j d' hj
    exact ⟨w, by rw [List.getElem?_set_ne hi]; exact a, b⟩
theorem LR.none (r : LR K ws H e σ) (i : Nat) (x : Option V) : LR K ws H (e.set i none) (σ.set i x) := by
  refine ⟨by simp [r.1], fun j d' hj => ?_⟩
  by_cases hi : i = j
  · subst hi
    have hl := (List.getElem?_eq_some_iff.mp hj).1
    rw [List.length_set] at hl
    rw [List.getElem?_set_self hl] at hj
    cases hj
  · rw [List.getElem?_set_ne hi] at hj
    obtain ⟨w, a, b⟩ := r.2 j d' hj
    exact ⟨w, by rw [List.getElem?_set_ne hi]; exact a, b⟩
theorem rd.mono {α β : Type} {rel : List Addr → Hp → α → β → Prop} {r : R α} {Q : β → Hp → Prop} (p : ws <+: ws') (l : Le K H H') (q : rd K cl W rel r ws H σ Q) : rd K cl W rel r ws' H' σ Q := by
  cases r with
  | ok a h' => exact fun ws2 H2 v p2 l2 => q ws2 H2 v (p.trans p2) (l.trans l2)
  | ex c fs h' => exact fun ws2 H2 dd xs p2 l2 => q ws2 H2 dd xs (p.trans p2) (l.trans l2)
  | bad => exact q
theorem rdS.mono {r : RS} {E : Ends} (p : ws <+: ws') (l : Le K H H') (q : rdS K cl W r ws H E) : rdS K cl W r ws' H' E := by
  cases r with
  | nx e h' => exact fun ws2 H2 v p2 l2 => q ws2 H2 v (p.trans p2) (l.trans l2)
  | bk e h' => exact fun ws2 H2 v p2 l2 => q ws2 H2 v (p.trans p2) (l.trans l2)
  | ct e h' => exact fun ws2 H2 v p2 l2 => q ws2 H2 v (p.trans p2) (l.trans l2)
  | rt e h' => exact fun ws2 H2 v p2 l2 => q ws2 H2 v (p.trans p2) (l.trans l2)
  | ex c fs e h' => exact fun ws2 H2 s dd xs p2 l2 => q ws2 H2 s dd xs (p.trans p2) (l.trans l2)
  | bad => exact q
/-- one step, then the rest -/
theorem rd.seq {α β γ δ : Type} {rel1 : List Addr → Hp → α → γ → Prop} {rel2 : List Addr → Hp → β → δ → Prop} {r : R α} {k : α → IH → R β} {Q : δ → Hp → Prop} {T : γ → Hp → Prop}
    (q : rd K cl W rel2 (r.bind k) ws H σ Q)
    (hk : ∀ ws1 a h1 H1 v, ws <+: ws1 → Le K H H1 → HR K cl ws1 h1 H1 → rel1 ws1 H1 a v → rd K cl W rel2 (k a h1) ws1 H1 σ Q → T v H1) : rd K cl W rel1 r ws H σ T := by
  cases r with
  | ok a h' => exact fun ws1 H1 v p l hr rel => hk ws1 a h' H1 v p l hr rel (rd.mono p l q)
  | ex c fs h' => exact q
  | bad => exact q
theorem rd.imp {α γ : Type} {rel1 : List Addr → Hp → α → γ → Prop} {r : R α} {Q T : γ → Hp → Prop}
    (q : rd K cl W rel1 r ws H σ Q) (hk : ∀ v H1, Q v H1 → T v H1) : rd K cl W rel1 r ws H σ T := by
  cases r with
  | ok a h' => exact fun ws1 H1 v p l hr rel => hk v H1 (q ws1 H1 v p l hr rel)
  | ex c fs h' => exact q
  | bad => exact q
/-- an answer at once -/
theorem rd.now {α γ : Type} {rel : List Addr → Hp → α → γ → Prop} {a : α} {Q : γ → Hp → Prop} {v : γ} (q : rd K cl W rel (.ok a h) ws H σ Q) (hr : HR K cl ws h H) (r : rel ws H a v) : Q v H :=
  q ws H v (List.prefix_refl _) Le.refl hr r
/-- .. a new thing that no place shows (a tuple) -/
theorem rd.fresh {α γ : Type} {rel : List Addr → Hp → α → γ → Prop} {a : α} {Q : γ → Hp → Prop} {v : γ} {p : Addr} {o : HO} (q : rd K cl W rel (.ok a h) ws H σ Q) (hr : HR K cl ws h H) (hp : H p = none)
    (r : Le K H (upd H p o) → rel ws (upd H p o) a v) : Q v (upd H p o) :=
  have k : Kept p H (upd H p o) := Kept.new hp
  q ws _ v (List.prefix_refl _) k.le (hr.keep k (hr.free hp)) (r k.le)
/-- .. a new list -/
theorem rd.newList {γ : Type} {rel : List Addr → Hp → D → γ → Prop} {l : List D} {xs : List V} {Q : γ → Hp → Prop} {v : γ} {p : Addr} (q : rd K cl W rel (.ok (.ref h.length) (h ++ [.lst l])) ws H σ Q) (hr : HR K cl ws h H) (hp : H p = none)
    (hl : VRs K ws H l xs) (r : (ws ++ [p])[h.length]? = some p → rel (ws ++ [p]) (upd H p (.lst xs)) (.ref h.length) v) : Q v (upd H p (.lst xs)) := by
  have k : Kept p H (upd H p (.lst xs)) := Kept.new hp
  refine q (ws ++ [p]) _ v (List.prefix_append _ _) k.le (hr.new hp ⟨xs, upd_same, hl.mono (List.prefix_append _ _) k.le⟩) (r ?_)
  rw [← hr.len]
  simp
theorem VR.refI {n : Nat} {a : Addr} (h : ws[n]? = some a) : VR K ws H (.ref n) (.ref a) := ⟨a, rfl, h⟩
theorem VR.tupI {l : List D} {a : Addr} {xs : List V} (h : SqN K H a xs) (r : VRs K ws H l xs) : VR K ws H (.tup l) (.ref a) := ⟨a, xs, rfl, h, r⟩
end
/-! ### expressions -/
section
variable {X : Cx} {cl : Nat → Addr} {W : WX}
def eC (d : D) : SE := fun _ h => .ok d h
def eV (i : Nat) : SE := fun e h => match e[i]? with
  | some (some d) => .ok d h
  | _ => .bad
theorem de_int {i : Int} {j pos} : DE X cl W (.Constant (.int i) j pos) (eC (.int i)) := ⟨peImp pe_int fun σ H Q ⟨ws, e, h, hr, lr, q⟩ => q.now hr rfl⟩
theorem de_bl {b j pos} : DE X cl W (.Constant (.bool b) j pos) (eC (.bl b)) := ⟨peImp pe_bl fun σ H Q ⟨ws, e, h, hr, lr, q⟩ => q.now hr rfl⟩
theorem de_non {j pos} : DE X cl W (.Constant .none j pos) (eC .non) := ⟨peImp pe_non fun σ H Q ⟨ws, e, h, hr, lr, q⟩ => q.now hr rfl⟩
theorem de_str {x : Str} {j pos} : DE X cl W (.Constant (.str x) j pos) (eC (.str x)) := ⟨peImp pe_str fun σ H Q ⟨ws, e, h, hr, lr, q⟩ => q.now hr rfl⟩
theorem de_v (i : Nat) {x : Str} {pos : Pos} (hN : X.N[i]? = some x := by rfl) (hv : Vis X.env.scope x := by first | exact Or.inl rfl | exact Or.inr (Or.inl rfl) | exact Or.inr (Or.inr rfl))
    (hd : (x == ("__debug__" : Str)) = false := by decide) (hc : (x == ("__classdict__" : Str)) = false := by decide) : DE X cl W (.Name x pos) (eV i) := by
  refine ⟨peImp (pe_var hN hv hd hc) fun σ H Q ⟨ws, e, h, hr, lr, q⟩ => ?_⟩
  unfold eV at q
  split at q
  · rename_i d he
    obtain ⟨v, h1, h2⟩ := lr.2 i d he
    exact ⟨v, h1, q.now hr h2⟩
  · exact q.elim
/-- a constant of the module: an int, a text -/
theorem de_g {x : Str} {u : Value} {v : V} {d : D} {pos : Pos} (hg : Gl X x) (hm : X.mg x = some u) (r : RelV v u) (hd : ∀ ws H, VR X.K ws H d v) (hdb : (x == ("__debug__" : Str)) = false := by decide) : DE X cl W (.Name x pos) (eC d) :=
  ⟨peImp (pe_glob hg hm r hdb) fun σ H Q ⟨ws, e, h, hr, lr, q⟩ => q.now hr (hd ws H)⟩
/-! arguments, displays -/
def aNil : SA := fun _ h => .ok [] h
def aCons (f : SE) (g : SA) : SA := fun e h => (f e h).bind fun d h1 => (g e h1).bind fun ds h2 => .ok (d :: ds) h2
theorem da_nil : DA X cl W [] aNil := ⟨paImp pa_nil fun σ H Q ⟨ws, e, h, hr, lr, q⟩ => q.now hr rfl⟩
theorem da_cons {e : Expr} {es : List Expr} {f : SE} {g : SA} (h1 : DE X cl W e f) (h2 : DA X cl W es g) (hs : starEach (e :: es) X.env = (false, eval e X.env) :: starEach es X.env := by rfl) : DA X cl W (e :: es) (aCons f g) := by
  refine ⟨paImp (pa_cons h1.p h2.p hs) fun σ H Q ⟨ws, lc, h, hr, lr, q⟩ => ⟨ws, lc, h, hr, lr, ?_⟩⟩
  refine rd.seq q fun ws1 d h1 H1 v p1 l1 hr1 r1 q1 => ⟨ws1, lc, h1, hr1, lr.mono p1 l1, ?_⟩
  refine rd.seq q1 fun ws2 ds h2 H2 vs p2 l2 hr2 r2 q2 => ?_
  exact q2.now hr2 ⟨v, vs, rfl, r1.mono p2 l2, r2⟩
def eTup (g : SA) : SE := fun e h => (g e h).bind fun ds h1 => if ds.length ≤ sizeLine then .ok (.tup ds) h1 else .bad
def eLst (g : SA) : SE := fun e h => (g e h).bind fun ds h1 => if ds.length ≤ sizeLine then .ok (.ref h1.length) (h1 ++ [.lst ds]) else .bad
theorem de_tup {es : List Expr} {x1} {pos : Pos} {g : SA} (h1 : DA X cl W es g) : DE X cl W (.Tuple es x1 pos) (eTup g) := by
  refine ⟨peImp (pe_tupN h1.p) fun σ H Q ⟨ws, lc, h, hr, lr, q⟩ => ⟨ws, lc, h, hr, lr, ?_⟩⟩
  refine rd.seq q fun ws1 ds h1 H1 vs p1 l1 hr1 r1 q1 => ?_
  split at q1
  · rename_i hz
    refine ⟨by rw [r1.len]; exact hz, fun p o hp hc hd => q1.fresh hr1 hp fun le => VR.tupI (SqN.new hc hd) (r1.mono (List.prefix_refl _) le)⟩
  · exact q1.elim
theorem de_lst {es : List Expr} {pos : Pos} {g : SA} (h1 : DA X cl W es g) : DE X cl W (.List es pos) (eLst g) := by
  refine ⟨peImp (pe_lst h1.p) fun σ H Q ⟨ws, lc, h, hr, lr, q⟩ => ⟨ws, lc, h, hr, lr, ?_⟩⟩
  refine rd.seq q fun ws1 ds h1 H1 vs p1 l1 hr1 r1 q1 => ?_
  split at q1
  · rename_i hz
    refine ⟨by rw [r1.len]; exact hz, fun p hp => q1.newList hr1 hp r1 fun e => VR.refI e⟩
  · exact q1.elim
/-! operators -/
/-- the operation f does what F does -/
def Op2 (X : Cx) (cl : Nat → Addr) (W : WX) (f : Value → Value → Sem Value) (F : D → D → IH → R D) : Prop :=
  ∃ r : R2, OpR X f r ∧ ∀ ws h H σ a b x y Q, HR X.K cl ws h H → VR X.K ws H a x → VR X.K ws H b y → rd X.K cl W (VR X.K) (F a b h) ws H σ Q → r x y H Q
def eOp (F : D → D → IH → R D) (f g : SE) : SE := fun e h => (f e h).bind fun a h1 => (g e h1).bind fun b h2 => F a b h2
theorem op_bin {F : D → D → IH → R D} {r : R2} {f g : SE} (hF : ∀ ws h H σ a b x y Q, HR X.K cl ws h H → VR X.K ws H a x → VR X.K ws H b y → rd X.K cl W (VR X.K) (F a b h) ws H σ Q → r x y H Q) :
    ∀ σ H Q, tE X.K cl W (eOp F f g) σ H Q → tOp r (tE X.K cl W f) (tE X.K cl W g) σ H Q := by
  intro σ H Q ⟨ws, lc, h, hr, lr, q⟩
  refine ⟨ws, lc, h, hr, lr, ?_⟩
  refine rd.seq q fun ws1 d h1 H1 v p1 l1 hr1 r1 q1 => ⟨ws1, lc, h1, hr1, lr.mono p1 l1, ?_⟩
  refine rd.seq q1 fun ws2 ds h2 H2 vs p2 l2 hr2 r2 q2 => ?_
  exact hF _ _ _ _ _ _ _ _ _ hr2 (r1.mono p2 l2) r2 q2
theorem de_op {op : Operator} {a b : Expr} {pos : Pos} {F : D → D → IH → R D} {f g : SE} (o : Op2 X cl W (binaryOp op) F) (ha : DE X cl W a f) (hb : DE X cl W b g) : DE X cl W (.BinOp a op b pos) (eOp F f g) := by
  obtain ⟨r, ho, hF⟩ := o
  exact ⟨peImp (pe_op ho ha.p hb.p) (op_bin hF)⟩
theorem de_cmp {op : CmpOp} {a b : Expr} {pos : Pos} {F : D → D → IH → R D} {f g : SE} (o : Op2 X cl W (compareOp op) F) (ha : DE X cl W a f) (hb : DE X cl W b g) (hm : behindInMarks op b = false) : DE X cl W (.Compare a [op] [b] pos) (eOp F f g) := by
  obtain ⟨r, ho, hF⟩ := o
  exact ⟨peImp (pe_cmpR ho ha.p hb.p hm) (op_bin hF)⟩
/-- a test that is a True or False -/
def tB (f : SE) : ST := fun e h => (f e h).bind fun d h1 => match d with
  | .bl b => .ok b h1
  | _ => .bad
theorem tB_of {f : SE} : ∀ σ H Q, tT X.K cl W (tB f) σ H Q → tTest (tE X.K cl W f) σ H Q := by
  intro σ H Q ⟨ws, lc, h, hr, lr, q⟩
  refine ⟨ws, lc, h, hr, lr, ?_⟩
  refine rd.seq q fun ws1 d h1 H1 v p1 l1 hr1 r1 q1 => ?_
  split at q1
  · rename_i b
    exact ⟨b, r1, q1.now hr1 rfl⟩
  · exact q1.elim
theorem dt_cmp {op : CmpOp} {a b : Expr} {pos : Pos} {F : D → D → IH → R D} {f g : SE} (o : Op2 X cl W (compareOp op) F) (ha : DE X cl W a f) (hb : DE X cl W b g) (hm : behindInMarks op b = false) : DT X cl W (.Compare a [op] [b] pos) (tB (eOp F f g)) := by
  obtain ⟨r, ho, hF⟩ := o
  refine ⟨ptImp (pt_cmpR ho ha.p hb.p hm) fun σ H Q q => ?_⟩
  obtain ⟨ws, lc, h, hr, lr, q⟩ := tB_of σ H Q q
  exact op_bin hF σ H _ ⟨ws, lc, h, hr, lr, q⟩
end
end Fl
/-! Fl, part 3: operators, tests, subscripts, calls of built-ins. -/
namespace Fl
open PySem L2
/-! ### arithmetic -/
def fAdd : D → D → IH → R D
  | .int i, .int j, h => .ok (.int (i + j)) h
  | .str a, .str b, h => if a.length + b.length ≤ sizeLine then .ok (.str (a ++ b)) h else .bad
  | .tup a, .tup b, h => if a.length + b.length ≤ sizeLine then .ok (.tup (a ++ b)) h else .bad
  | .ref n, .ref m, h => match h[n]?, h[m]? with
    | some (.lst a), some (.lst b) => if a.length + b.length ≤ sizeLine then .ok (.ref h.length) (h ++ [.lst (a ++ b)]) else .bad
    | _, _ => .bad
  | _, _, _ => .bad
def fSub : D → D → IH → R D
  | .int i, .int j, h => .ok (.int (i - j)) h
  | _, _, _ => .bad
/-- a factor is small, or both are of some thousand bits -/
def MulOk (i j : Int) : Prop := (-(2 ^ 64) < i ∧ i < 2 ^ 64) ∨ (-(2 ^ 64) < j ∧ j < 2 ^ 64)
instance {i j : Int} : Decidable (MulOk i j) := by unfold MulOk; exact inferInstance
def fMul : D → D → IH → R D
  | .int i, .int j, h => if MulOk i j then .ok (.int (i * j)) h else .bad
  | .ref n, .int k, h => match h[n]? with
    | some (.lst a) => if -(2 ^ 63) ≤ k ∧ k < 2 ^ 63 ∧ a.length * k.toNat ≤ sizeLine then .ok (.ref h.length) (h ++ [.lst (List.replicate k.toNat a).flatten]) else .bad
    | _ => .bad
  | .tup a, .int k, h => if a.length ≤ 1000 ∧ -1000 ≤ k ∧ k ≤ 1000 then .ok (.tup (List.replicate k.toNat a).flatten) h else .bad
  | .str z, .int k, h => if z.length ≤ 1000 ∧ -1000 ≤ k ∧ k ≤ 1000 ∧ (repS z k).length ≤ sizeLine then .ok (.str (repS z k)) h else .bad
  | _, _, _ => .bad
def fMod : D → D → IH → R D
  | .int i, .int j, h => if 0 < j then .ok (.int (i % j)) h else .bad
  | _, _, _ => .bad
def fDiv : D → D → IH → R D
  | .int i, .int j, h => if 0 < j ∧ j < 1073741824 then .ok (.int (i / j)) h else .bad
  | _, _, _ => .bad
def fPow : D → D → IH → R D
  | .int i, .int j, h => if 0 ≤ j ∧ j ≤ 1000000 ∧ i.natAbs < 2 ^ 64 then .ok (.int (i ^ j.toNat)) h else .bad
  | _, _, _ => .bad
def fShl : D → D → IH → R D
  | .int i, .int j, h => if 0 ≤ j ∧ j ≤ 1000000 ∧ i.natAbs < 2 ^ 64 then .ok (.int (i * 2 ^ j.toNat)) h else .bad
  | _, _, _ => .bad
section
variable {X : Cx} {cl : Nat → Addr} {W : WX}
theorem VR.list {K : PySem.W.Frag} {ws : List Addr} {h : IH} {H : Hp} {n : Nat} {v : V} {l : List D} (hr : HR K cl ws h H) (r : VR K ws H (.ref n) v) (e : h[n]? = some (.lst l)) :
    ∃ a xs, v = .ref a ∧ ws[n]? = some a ∧ H a = some (.lst xs) ∧ VRs K ws H l xs := by
  obtain ⟨a, rfl, ea⟩ := r
  obtain ⟨xs, h1, h2⟩ := hr.ob n _ a e ea
  exact ⟨a, xs, rfl, ea, h1, h2⟩
theorem VR.dict {K : PySem.W.Frag} {ws : List Addr} {h : IH} {H : Hp} {n : Nat} {v : V} {l : List (Key × D)} (hr : HR K cl ws h H) (r : VR K ws H (.ref n) v) (e : h[n]? = some (.dic l)) :
    ∃ a xs, v = .ref a ∧ ws[n]? = some a ∧ H a = some (.dK xs) ∧ KR K ws H l xs := by
  obtain ⟨a, rfl, ea⟩ := r
  obtain ⟨xs, h1, h2⟩ := hr.ob n _ a e ea
  exact ⟨a, xs, rfl, ea, h1, h2⟩
theorem VRs.ne {K : PySem.W.Frag} {ws : List Addr} {H : Hp} {l : List D} {xs : List V} (r : VRs K ws H l xs) : xs = [] ↔ l = [] := by
  have e := r.len
  constructor
  · intro z; subst z; exact List.length_eq_zero_iff.mp e.symm
  · intro z; subst z; exact List.length_eq_zero_iff.mp e
theorem op_fAdd : Op2 X cl W (binaryOp .Add) fAdd := by
  refine ⟨_, op_add.or (op_add_str.or (op_catN.or op_cat)), fun ws h H σ a b x y Q hr ra rb q => ?_⟩
  cases a <;> cases b <;> first
    | exact q.elim
    | skip
  · rename_i i j
    exact .inl ⟨i, j, ra, rb, q.now hr rfl⟩
  · rename_i i j
    unfold fAdd at q
    dsimp only at q
    split at q
    · rename_i hz
      exact .inr (.inl ⟨i, j, ra, rb, hz, q.now hr rfl⟩)
    · exact q.elim
  · rename_i la lb
    unfold fAdd at q
    dsimp only at q
    split at q
    · rename_i hz
      obtain ⟨a, xs, ea, sa, r1⟩ := ra
      obtain ⟨b, ys, eb, sb, r2⟩ := rb
      refine .inr (.inr (.inl ⟨a, b, xs, ys, ea, eb, sa.t, sb.t, by rw [r1.len, r2.len]; exact hz, fun z => ?_, fun z1 z2 => ?_, fun z1 z2 p o hp hc hd => ?_⟩))
      · have z' := r1.ne.mp z
        subst z'
        exact q.now hr ⟨b, ys, rfl, sb, r2⟩
      · have z' := r2.ne.mp z2
        subst z'
        rw [List.append_nil] at q
        exact q.now hr ⟨a, xs, rfl, sa, r1⟩
      · exact q.fresh hr hp fun le => VR.tupI (SqN.new hc hd) ((r1.append r2).mono (List.prefix_refl _) le)
    · exact q.elim
  · rename_i n m
    unfold fAdd at q
    dsimp only at q
    split at q
    · rename_i l1 l2 h1 h2
      split at q
      · rename_i hz
        obtain ⟨a, xs, e1, _, e3, e4⟩ := ra.list hr h1
        obtain ⟨b, ys, f1, _, f3, f4⟩ := rb.list hr h2
        exact .inr (.inr (.inr ⟨a, b, xs, ys, e1, f1, e3, f3, by rw [e4.len, f4.len]; exact hz, fun p hp => q.newList hr hp (e4.append f4) fun e => VR.refI e⟩))
      · exact q.elim
    · exact q.elim
theorem op_fSub : Op2 X cl W (binaryOp .Sub) fSub := by
  refine ⟨_, op_sub, fun ws h H σ a b x y Q hr ra rb q => ?_⟩
  cases a <;> cases b <;> first
    | exact q.elim
    | skip
  rename_i i j
  exact ⟨i, j, ra, rb, q.now hr rfl⟩
theorem VRs.rep {K : PySem.W.Frag} {ws : List Addr} {H : Hp} {l : List D} {xs : List V} (r : VRs K ws H l xs) : ∀ k : Nat, VRs K ws H (List.replicate k l).flatten (List.replicate k xs).flatten
  | 0 => by simp [VRs]
  | k + 1 => by
    rw [List.replicate_succ, List.replicate_succ, List.flatten_cons, List.flatten_cons]
    exact r.append (VRs.rep r k)
theorem op_fMul : Op2 X cl W (binaryOp .Mult) fMul := by
  refine ⟨_, op_mul.or (op_rep.or (op_repN.or op_repS)), fun ws h H σ a b x y Q hr ra rb q => ?_⟩
  cases a <;> cases b <;> first
    | exact q.elim
    | skip
  · rename_i i j
    unfold fMul at q
    dsimp only at q
    split at q
    · rename_i hz
      exact .inl ⟨i, j, ra, rb, hz, q.now hr rfl⟩
    · exact q.elim
  · rename_i z k
    unfold fMul at q
    dsimp only at q
    split at q
    · rename_i hz
      exact .inr (.inr (.inr ⟨z, k, ra, rb, hz.1, hz.2.1, hz.2.2.1, hz.2.2.2, q.now hr rfl⟩))
    · exact q.elim
  · rename_i l k
    unfold fMul at q
    dsimp only at q
    split at q
    · rename_i hz
      obtain ⟨a, xs, ea, sa, r1⟩ := ra
      refine .inr (.inr (.inl ⟨a, k, xs, ea, rb, sa.t, by omega, hz.2.2, by rw [r1.len]; exact hz.1, fun z => ?_, fun z hk p o hp hc hd => ?_, fun z hk p o hp hc hd => ?_⟩))
      · have e : (List.replicate k.toNat l).flatten = l := by
          rcases z with z | z
          · obtain rfl := r1.ne.mp z
            induction k.toNat with
            | zero => rfl
            | succ m ih => rw [List.replicate_succ, List.flatten_cons, ih]; rfl
          · rw [z]
            simp
        rw [e] at q
        exact q.now hr ⟨a, xs, rfl, sa, r1⟩
      · have e : (List.replicate k.toNat l).flatten = [] := by
          rw [show k.toNat = 0 by omega]
          rfl
        rw [e] at q
        exact q.fresh hr hp fun le => VR.tupI (SqN.new hc hd) rfl
      · exact q.fresh hr hp fun le => VR.tupI (SqN.new hc hd) ((r1.rep _).mono (List.prefix_refl _) le)
    · exact q.elim
  · rename_i n k
    unfold fMul at q
    dsimp only at q
    split at q
    · rename_i l1 h1
      split at q
      · rename_i hz
        obtain ⟨a, xs, e1, _, e3, e4⟩ := ra.list hr h1
        exact .inr (.inl ⟨a, k, xs, e1, rb, e3, hz.1, hz.2.1, by rw [e4.len]; exact hz.2.2, fun p hp => q.newList hr hp (e4.rep _) fun e => VR.refI e⟩)
      · exact q.elim
    · exact q.elim
theorem op_fMod : Op2 X cl W (binaryOp .Mod) fMod := by
  refine ⟨_, op_mod, fun ws h H σ a b x y Q hr ra rb q => ?_⟩
  cases a <;> cases b <;> first
    | exact q.elim
    | skip
  rename_i i j
  unfold fMod at q
  dsimp only at q
  split at q
  · rename_i hz
    exact ⟨i, j, ra, rb, hz, q.now hr rfl⟩
  · exact q.elim
theorem op_fDiv : Op2 X cl W (binaryOp .FloorDiv) fDiv := by
  refine ⟨_, op_fdiv, fun ws h H σ a b x y Q hr ra rb q => ?_⟩
  cases a <;> cases b <;> first
    | exact q.elim
    | skip
  rename_i i j
  unfold fDiv at q
  dsimp only at q
  split at q
  · rename_i hz
    exact ⟨i, j, ra, rb, hz, q.now hr rfl⟩
  · exact q.elim
theorem op_fPow : Op2 X cl W (binaryOp .Pow) fPow := by
  refine ⟨_, op_pow, fun ws h H σ a b x y Q hr ra rb q => ?_⟩
  cases a <;> cases b <;> first
    | exact q.elim
    | skip
  rename_i i j
  unfold fPow at q
  dsimp only at q
  split at q
  · rename_i hz
    exact ⟨i, j, ra, rb, hz, q.now hr rfl⟩
  · exact q.elim
theorem op_fShl : Op2 X cl W (binaryOp .LShift) fShl := by
  refine ⟨_, op_shl, fun ws h H σ a b x y Q hr ra rb q => ?_⟩
  cases a <;> cases b <;> first
    | exact q.elim
    | skip
  rename_i i j
  unfold fShl at q
  dsimp only at q
  split at q
  · rename_i hz
    exact ⟨i, j, ra, rb, hz, q.now hr rfl⟩
  · exact q.elim
/-- -a -/
def eNeg (f : SE) : SE := fun e h => (f e h).bind fun a h1 => match a with
  | .int i => .ok (.int (-i)) h1
  | _ => .bad
theorem de_neg {a : Expr} {pos : Pos} {f : SE} (ha : DE X cl W a f) : DE X cl W (.UnaryOp .USub a pos) (eNeg f) := by
  refine ⟨peImp (pe_un un_neg ha.p) fun σ H Q ⟨ws, lc, h, hr, lr, q⟩ => ⟨ws, lc, h, hr, lr, ?_⟩⟩
  refine rd.seq q fun ws1 d h1 H1 v p1 l1 hr1 r1 q1 => ?_
  cases d <;> first
    | exact q1.elim
    | skip
  rename_i i
  exact ⟨i, r1, q1.now hr1 rfl⟩
/-! ### comparisons -/
/-- the data of a value -/
def pd : Nat → IH → D → Option PyData
  | 0, _, _ => none
  | _ + 1, _, .non => some .none
  | _ + 1, _, .bl b => some (.bool b)
  | _ + 1, _, .int i => some (.int i)
  | _ + 1, _, .str s => some (.str s)
  | n + 1, h, .tup l => (l.mapM (pd n h)).map .tuple
  | n + 1, h, .fls l => (l.mapM (pd n h)).map .list
  | n + 1, h, .ref r => match h[r]? with
    | some (.lst l) => (l.mapM (pd n h)).map .list
    | _ => none
theorem mapM_some {α β : Type} {f : α → Option β} : ∀ {l : List α} {ys : List β}, l.mapM f = some ys → ∀ {P : List α → List β → Prop}, P [] [] → (∀ a b l ys, f a = some b → P l ys → P (a :: l) (b :: ys)) → P l ys
  | [], ys, e, P, h0, _ => by
    simp at e; subst e; exact h0
  | a :: l, ys, e, P, h0, h1 => by
    rw [List.mapM_cons] at e
    cases ha : f a with
    | none => rw [ha] at e; cases e
    | some b =>
      rw [ha] at e
      cases hl : l.mapM f with
      | none =>
        have e' : (none : Option (List β)) = some ys := by simpa [hl] using e
        cases e'
      | some zs =>
        have e' : b :: zs = ys := by simpa [hl] using e
        subst e'
        exact h1 a b l zs ha (mapM_some hl h0 h1)
theorem pd_dp {K : PySem.W.Frag} {ws : List Addr} {h : IH} {H : Hp} (hr : HR K cl ws h H) : ∀ (n : Nat) (d : D) (v : V) (z : PyData), VR K ws H d v → pd n h d = some z → Dp K H v z := by
  intro n
  induction n with
  | zero => intro d v z _ e; cases e
  | succ n ih =>
    have all : ∀ (l : List D) (xs : List V) (zs : List PyData), VRs K ws H l xs → l.mapM (pd n h) = some zs → DpAll K H xs zs := fun l xs zs r e => by
      refine mapM_some e (P := fun l zs => ∀ xs, VRs K ws H l xs → DpAll K H xs zs) (fun xs r => ?_) (fun a b l ys ha hp xs r => ?_) xs r
      · cases r; exact .nil
      · obtain ⟨x, t, rfl, r1, r2⟩ := r
        exact .cons (ih a x b r1 ha) (hp t r2)
    intro d v z r e
    cases d with
    | non => cases e; cases r; exact .non
    | bl b => cases e; cases r; exact .bl b
    | int i => cases e; cases r; exact .int i
    | str s => cases e; cases r; exact .str s
    | tup l =>
      obtain ⟨a, xs, rfl, s, r⟩ := r
      obtain ⟨zs, e1, rfl⟩ := Option.map_eq_some_iff.mp (show (l.mapM (pd n h)).map PyData.tuple = some z from e)
      exact .tup s.t (all l xs zs r e1)
    | fls l =>
      obtain ⟨a, xs, rfl, s, r⟩ := r
      obtain ⟨zs, e1, rfl⟩ := Option.map_eq_some_iff.mp (show (l.mapM (pd n h)).map PyData.list = some z from e)
      exact .lst s.sq (all l xs zs r e1)
    | ref m =>
      unfold pd at e
      split at e
      · rename_i l hl
        obtain ⟨a, xs, rfl, _, e3, r⟩ := r.list hr hl
        obtain ⟨zs, e1, rfl⟩ := Option.map_eq_some_iff.mp e
        exact .lst (SqL.of e3) (all l xs zs r e1)
      · cases e
def fEq (neg : Bool) : D → D → IH → R D
  | .int i, .int j, h => .ok (.bl (neg != decide (i = j))) h
  | .str i, .str j, h => .ok (.bl (neg != decide (i = j))) h
  | .bl i, .bl j, h => .ok (.bl (neg != decide (i = j))) h
  | .non, .non, h => .ok (.bl (neg != true)) h
  | .non, .int _, h => .ok (.bl neg) h
  | .int _, .non, h => .ok (.bl neg) h
  | .non, .str _, h => .ok (.bl neg) h
  | .str _, .non, h => .ok (.bl neg) h
  | .int _, .str _, h => .ok (.bl neg) h
  | .str _, .int _, h => .ok (.bl neg) h
  | a, b, h => match pd 65 h a, pd 65 h b with
    | some x, some y => if SeqAt.shaped x = true ∧ SeqAt.shaped y = true then .ok (.bl (neg != PyData.eqv x y)) h else .bad
    | _, _ => .bad
theorem rEqOk {K : PySem.W.Frag} {ws : List Addr} {h : IH} {H : Hp} {σ : St} {a b : D} {x y : V} {Q : VK} (hr : HR K cl ws h H) (ra : VR K ws H a x) (rb : VR K ws H b y) (q : rd K cl W (VR K) (fEq false a b h) ws H σ Q) : rEq x y H Q ∨ rEqD K x y H Q := by
  unfold fEq at q
  split at q <;> first
    | (obtain rfl := (show x = _ from ra); obtain rfl := (show y = _ from rb); exact .inl ⟨rfl, q.now hr (by simp [VR])⟩)
    | skip
  split at q
  · rename_i dx dy h1 h2
    split at q
    · rename_i hs
      exact .inr ⟨dx, dy, pd_dp hr _ _ _ _ ra h1, pd_dp hr _ _ _ _ rb h2, hs.1, hs.2, q.now hr (by simp [VR])⟩
    · exact q.elim
  · exact q.elim
theorem rNeOk {K : PySem.W.Frag} {ws : List Addr} {h : IH} {H : Hp} {σ : St} {a b : D} {x y : V} {Q : VK} (hr : HR K cl ws h H) (ra : VR K ws H a x) (rb : VR K ws H b y) (q : rd K cl W (VR K) (fEq true a b h) ws H σ Q) : rNe x y H Q ∨ rNeD K x y H Q := by
  unfold fEq at q
  split at q <;> first
    | (obtain rfl := (show x = _ from ra); obtain rfl := (show y = _ from rb); exact .inl ⟨rfl, q.now hr (by simp [VR])⟩)
    | skip
  split at q
  · rename_i dx dy h1 h2
    split at q
    · rename_i hs
      exact .inr ⟨dx, dy, pd_dp hr _ _ _ _ ra h1, pd_dp hr _ _ _ _ rb h2, hs.1, hs.2, q.now hr (by simp [VR])⟩
    · exact q.elim
  · exact q.elim
theorem op_fEq (hu : X.A.units + 64 < cLine) : Op2 X cl W (compareOp .Eq) (fEq false) := ⟨_, op_eq.or (op_eqD hu), fun ws h H σ a b x y Q hr ra rb q => rEqOk hr ra rb q⟩
theorem op_fNe (hu : X.A.units + 64 < cLine) : Op2 X cl W (compareOp .NotEq) (fEq true) := ⟨_, op_ne.or (op_neD hu), fun ws h H σ a b x y Q hr ra rb q => rNeOk hr ra rb q⟩
/-- <, <=, >, >= of ints (and of texts) -/
def fLt : D → D → IH → R D
  | .int i, .int j, h => .ok (.bl (decide (i < j))) h
  | .str i, .str j, h => .ok (.bl (decide (i.cps.toList < j.cps.toList))) h
  | _, _, _ => .bad
def fLe : D → D → IH → R D
  | .int i, .int j, h => .ok (.bl (decide (i ≤ j))) h
  | _, _, _ => .bad
def fGt : D → D → IH → R D
  | .int i, .int j, h => .ok (.bl (decide (j < i))) h
  | _, _, _ => .bad
def fGe : D → D → IH → R D
  | .int i, .int j, h => .ok (.bl (decide (j ≤ i))) h
  | _, _, _ => .bad
theorem op_fLt : Op2 X cl W (compareOp .Lt) fLt := by
  refine ⟨_, op_lt.or op_lt_str, fun ws h H σ a b x y Q hr ra rb q => ?_⟩
  cases a <;> cases b <;> first
    | exact q.elim
    | skip
  · rename_i i j
    exact .inl ⟨i, j, ra, rb, q.now hr rfl⟩
  · rename_i i j
    exact .inr ⟨i, j, ra, rb, q.now hr rfl⟩
theorem op_fLe : Op2 X cl W (compareOp .LtE) fLe := by
  refine ⟨_, op_le, fun ws h H σ a b x y Q hr ra rb q => ?_⟩
  cases a <;> cases b <;> first
    | exact q.elim
    | skip
  rename_i i j
  exact ⟨i, j, ra, rb, q.now hr rfl⟩
theorem op_fGt : Op2 X cl W (compareOp .Gt) fGt := by
  refine ⟨_, op_gt, fun ws h H σ a b x y Q hr ra rb q => ?_⟩
  cases a <;> cases b <;> first
    | exact q.elim
    | skip
  rename_i i j
  exact ⟨i, j, ra, rb, q.now hr rfl⟩
theorem op_fGe : Op2 X cl W (compareOp .GtE) fGe := by
  refine ⟨_, op_ge, fun ws h H σ a b x y Q hr ra rb q => ?_⟩
  cases a <;> cases b <;> first
    | exact q.elim
    | skip
  rename_i i j
  exact ⟨i, j, ra, rb, q.now hr rfl⟩
/-! ### in, is -/
def flatD : D → Bool
  | .non => true
  | .bl _ => true
  | .int _ => true
  | .str _ => true
  | _ => false
/-- == of flat values -/
def eqF : D → D → Bool
  | .non, .non => true
  | .bl a, .bl b => decide (a = b)
  | .bl a, .int b => decide ((if a then 1 else 0) = b)
  | .int a, .bl b => decide (a = (if b then 1 else 0))
  | .int a, .int b => decide (a = b)
  | .str a, .str b => decide (a = b)
  | _, _ => false
def inF (x : D) (l : List D) : Bool := l.any fun y => eqF y x
def kvK (kvs : List (Key × D)) (k : Key) : Option D := (kvs.find? fun kv => decide (kv.1 = k)).map (·.2)
/-- x in a sequence of flat things, in a dict, a sign in a text -/
def fIn (neg : Bool) : D → D → IH → R D
  | x, .tup l, h => if flatD x && l.all flatD then .ok (.bl (neg != inF x l)) h else .bad
  | x, .fls l, h => if flatD x && l.all flatD then .ok (.bl (neg != inF x l)) h else .bad
  | .int i, .ref n, h => match h[n]? with
    | some (.lst l) => if l.all flatD then .ok (.bl (neg != inF (.int i) l)) h else .bad
    | some (.dic kvs) => .ok (.bl (neg != (kvK kvs (.inl i)).isSome)) h
    | _ => .bad
  | .str i, .ref n, h => match h[n]? with
    | some (.lst l) => if l.all flatD then .ok (.bl (neg != inF (.str i) l)) h else .bad
    | some (.dic kvs) => .ok (.bl (neg != (kvK kvs (.inr i)).isSome)) h
    | _ => .bad
  | x, .ref n, h => match h[n]? with
    | some (.lst l) => if flatD x && l.all flatD then .ok (.bl (neg != inF x l)) h else .bad
    | _ => .bad
  | .str x, .str z, h => match x.cps.toList with
    | [c] => .ok (.bl (neg != decide (c ∈ z.cps.toList))) h
    | _ => .bad
  | _, _, _ => .bad
theorem flat_of {K : PySem.W.Frag} {ws : List Addr} {H : Hp} {d : D} {v : V} (r : VR K ws H d v) (f : flatD d = true) : flatV v = true := by
  cases d <;> first
    | (obtain rfl := (show v = _ from r); rfl)
    | cases f
theorem eqF_of {K : PySem.W.Frag} {ws : List Addr} {H : Hp} {d e : D} {v w : V} (r : VR K ws H d v) (r' : VR K ws H e w) (f : flatD d = true) (f' : flatD e = true) : eqV v w = eqF d e := by
  cases d <;> first
    | (obtain rfl := (show v = _ from r)
       cases e <;> first
         | (obtain rfl := (show w = _ from r'); first | rfl | (simp [eqV, eqF, Bool.beq_eq_decide_eq]; done))
         | cases f')
    | cases f
theorem inF_of {K : PySem.W.Frag} {ws : List Addr} {H : Hp} {d : D} {v : V} (r : VR K ws H d v) (f : flatD d = true) : ∀ {l : List D} {xs : List V}, VRs K ws H l xs → l.all flatD = true → xs.all flatV = true ∧ inV v xs = inF d l
  | [], _, q, _ => by cases q; exact ⟨rfl, rfl⟩
  | e :: l, _, q, g => by
    obtain ⟨x, t, rfl, r1, r2⟩ := q
    rw [List.all_cons, Bool.and_eq_true] at g
    obtain ⟨h1, h2⟩ := inF_of r f r2 g.2
    refine ⟨by rw [List.all_cons, flat_of r1 g.1, h1]; rfl, ?_⟩
    unfold inV inF at h2 ⊢
    rw [List.any_cons, List.any_cons, h2, eqF_of r1 r g.1 f]
theorem kvK_of {K : PySem.W.Frag} {ws : List Addr} {H : Hp} {k : Key} : ∀ {kvs : List (Key × D)} {xs : List (Key × V)}, KR K ws H kvs xs → (∀ d, kvK kvs k = some d → ∃ v, valV xs k = some v ∧ VR K ws H d v) ∧ (kvK kvs k = none → valV xs k = none)
  | [], _, q => by
    cases q
    refine ⟨fun d e => ?_, fun _ => valV_nil⟩
    cases e
  | (j, e) :: l, _, q => by
    obtain ⟨x, t, rfl, r1, r2⟩ := q
    obtain ⟨h1, h2⟩ := kvK_of (k := k) r2
    by_cases hj : j = k
    · subst hj
      rw [valV_pos (p := (j, x)) rfl]
      have z : kvK ((j, e) :: l) j = some e := by simp [kvK]
      rw [z]
      exact ⟨fun d q => by cases q; exact ⟨x, rfl, r1⟩, fun q => by cases q⟩
    · rw [valV_neg (p := (j, x)) hj]
      have z : kvK ((j, e) :: l) k = kvK l k := by simp [kvK, hj]
      rw [z]
      exact ⟨h1, h2⟩
theorem kvK_some {K : PySem.W.Frag} {ws : List Addr} {H : Hp} {k : Key} {kvs : List (Key × D)} {xs : List (Key × V)} (q : KR K ws H kvs xs) : (valV xs k).isSome = (kvK kvs k).isSome := by
  obtain ⟨h1, h2⟩ := kvK_of (k := k) q
  cases e : kvK kvs k with
  | none => rw [h2 e]; rfl
  | some d => obtain ⟨v, e', _⟩ := h1 d e; rw [e']; rfl
theorem strOne {x : Str} {c : Nat} {P : Str → Prop} (h : x.cps.toList = [c]) (q : Unit → P ⟨#[c]⟩) : P x := by
  obtain ⟨⟨l⟩⟩ := x
  have h' : l = [c] := h
  subst h'
  exact q ()
def rSgnI : R2 := fun x y H Q => ∃ (c : Nat) (z : Str), x = .str ⟨#[c]⟩ ∧ y = .str z ∧ Q (.bl (decide (c ∈ z.cps.toList))) H
def rSgnN : R2 := fun x y H Q => ∃ (c : Nat) (z : Str), x = .str ⟨#[c]⟩ ∧ y = .str z ∧ Q (.bl (!decide (c ∈ z.cps.toList))) H
def rDin : R2 := fun x y H Q => ∃ a o, y = .ref a ∧ DGet H a x o ∧ Q (.bl o.isSome) H
def rDnotin : R2 := fun x y H Q => ∃ a o, y = .ref a ∧ DGet H a x o ∧ Q (.bl (!o.isSome)) H
theorem op_din (hu : X.A.units + 1 < cLine) : OpR X (compareOp .In) rDin := by
  rintro pins s σ H x y v u Q I rx ry ⟨a, o, rfl, g, q⟩
  obtain rfl : u = Value.ref a := ry
  exact d_in hu I g rx fun s' I' => ⟨.bl o.isSome, H, I', rfl, q⟩
theorem op_dnotin (hu : X.A.units + 1 < cLine) : OpR X (compareOp .NotIn) rDnotin := by
  rintro pins s σ H x y v u Q I rx ry ⟨a, o, rfl, g, q⟩
  obtain rfl : u = Value.ref a := ry
  exact d_notIn hu I g rx fun s' I' => ⟨.bl (!o.isSome), H, I', rfl, q⟩
section
variable {K : PySem.W.Frag} {ws : List Addr} {h : IH} {H : Hp} {σ : St} {x : D} {v y : V} {Q : VK} {neg : Bool}
theorem in_seq {l : List D} {a : Addr} {xs : List V} (hr : HR K cl ws h H) (rx : VR K ws H x v) (s : SqL K H a xs ∨ SqT K H a xs) (r : VRs K ws H l xs) (f : (flatD x && l.all flatD) = true)
    (q : rd K cl W (VR K) (.ok (.bl (neg != inF x l)) h) ws H σ Q) : rIn K neg v (.ref a) H Q := by
  rw [Bool.and_eq_true] at f
  obtain ⟨h1, h2⟩ := inF_of rx f.1 r f.2
  refine ⟨a, xs, rfl, s, flat_of rx f.1, h1, q.now hr ?_⟩
  rw [h2]
  cases neg <;> simp [VR]
theorem fIn_of {rD : R2} {rS : R2} (hr : HR K cl ws h H) {b : D} (ra : VR K ws H x v) (rb : VR K ws H b y)
    (hD : ∀ (a : Addr) (o : Option V), DGet H a v o → Q (.bl (neg != o.isSome)) H → rD v (.ref a) H Q)
    (hS : ∀ (c : Nat) (z : Str), Q (.bl (neg != decide (c ∈ z.cps.toList))) H → rS (.str ⟨#[c]⟩) (.str z) H Q)
    (q : rd K cl W (VR K) (fIn neg x b h) ws H σ Q) : rIn K neg v y H Q ∨ rD v y H Q ∨ rS v y H Q := by
  have lst : ∀ {n : Nat} {l : List D}, h[n]? = some (.lst l) → b = .ref n → (flatD x && l.all flatD) = true → rd K cl W (VR K) (.ok (.bl (neg != inF x l)) h) ws H σ Q → rIn K neg v y H Q := fun {n l} e hb f q1 => by
    subst hb
    obtain ⟨a, xs, rfl, _, e3, r⟩ := rb.list hr e
    exact in_seq hr ra (.inl (SqL.of e3)) r f q1
  have dct : ∀ {n : Nat} {l : List (Key × D)} {k : Key}, h[n]? = some (.dic l) → b = .ref n → v = kV k → rd K cl W (VR K) (.ok (.bl (neg != (kvK l k).isSome)) h) ws H σ Q → rD v y H Q := fun {n l k} e hb hv q1 => by
    subst hb hv
    obtain ⟨a, xs, rfl, _, e3, r⟩ := rb.dict hr e
    refine hD a _ (DGet.k e3) (q1.now hr ?_)
    rw [kvK_some r]
    rfl
  unfold fIn at q
  split at q
  · split at q
    · rename_i f
      obtain ⟨a, xs, rfl, s, r⟩ := rb
      exact .inl (in_seq hr ra (.inr s.t) r f q)
    · exact q.elim
  · split at q
    · rename_i f
      obtain ⟨a, xs, rfl, s, r⟩ := rb
      exact .inl (in_seq hr ra (.inl s.sq) r f q)
    · exact q.elim
  · split at q
    · rename_i e
      split at q
      · rename_i f
        exact .inl (lst e rfl (by simpa [flatD] using f) q)
      · exact q.elim
    · rename_i e
      exact .inr (.inl (dct (k := Sum.inl _) e rfl ra q))
    · exact q.elim
  · split at q
    · rename_i e
      split at q
      · rename_i f
        exact .inl (lst e rfl (by simpa [flatD] using f) q)
      · exact q.elim
    · rename_i e
      exact .inr (.inl (dct (k := Sum.inr _) e rfl ra q))
    · exact q.elim
  · split at q
    · rename_i e
      split at q
      · rename_i f
        exact .inl (lst e rfl f q)
      · exact q.elim
    · exact q.elim
  · split at q
    · rename_i hc
      have e1 := (show y = _ from rb)
      have e2 := (show v = _ from ra)
      rw [e1, e2]
      refine .inr (.inr (strOne (P := fun t => rS (.str t) _ H Q) hc fun _ => ?_))
      exact hS _ _ (q.now hr rfl)
    · exact q.elim
  · exact q.elim
end
theorem op_fIn (hu : X.A.units + 1 < cLine) : Op2 X cl W (compareOp .In) (fIn false) :=
  ⟨_, op_in_seq.or ((op_din hu).or (r' := rSgnI) op_in_sign), fun ws h H σ a b x y Q hr ra rb q => by
    refine fIn_of (rD := rDin) (rS := rSgnI) hr ra rb (fun a o g k => ?_) (fun c z k => ?_) q
    · exact ⟨a, o, rfl, g, by simpa using k⟩
    · exact ⟨c, z, rfl, rfl, by simpa using k⟩⟩
theorem op_fNotIn (hu : X.A.units + 1 < cLine) : Op2 X cl W (compareOp .NotIn) (fIn true) :=
  ⟨_, op_notIn_seq.or ((op_dnotin hu).or (r' := rSgnN) op_notIn_sign), fun ws h H σ a b x y Q hr ra rb q => by
    refine fIn_of (rD := rDnotin) (rS := rSgnN) hr ra rb (fun a o g k => ?_) (fun c z k => ?_) q
    · exact ⟨a, o, rfl, g, by simpa using k⟩
    · exact ⟨c, z, rfl, rfl, by simpa using k⟩⟩
@[simp] def isN : D → Bool
  | .non => true
  | _ => false
theorem isN_of {K : PySem.W.Frag} {ws : List Addr} {H : Hp} {d : D} {v : V} (r : VR K ws H d v) : decide (v = .non) = isN d := by
  cases d with
  | non => cases r; rfl
  | bl _ => cases r; rfl
  | int _ => cases r; rfl
  | str _ => cases r; rfl
  | tup _ => obtain ⟨a, xs, rfl, _⟩ := r; rfl
  | fls _ => obtain ⟨a, xs, rfl, _⟩ := r; rfl
  | ref _ => obtain ⟨a, rfl, _⟩ := r; rfl
/-- is None, is not None -/
def fIs (neg : Bool) : D → D → IH → R D
  | a, .non, h => .ok (.bl (neg != isN a)) h
  | _, _, _ => .bad
theorem op_fIs : Op2 X cl W (compareOp .Is) (fIs false) := by
  refine ⟨_, op_isN, fun ws h H σ a b x y Q hr ra rb q => ?_⟩
  cases b <;> first
    | exact q.elim
    | skip
  obtain rfl := (show y = _ from rb)
  exact ⟨rfl, by rw [isN_of ra]; exact q.now hr (by simp [VR])⟩
theorem op_fIsNot : Op2 X cl W (compareOp .IsNot) (fIs true) := by
  refine ⟨_, op_notN, fun ws h H σ a b x y Q hr ra rb q => ?_⟩
  cases b <;> first
    | exact q.elim
    | skip
  obtain rfl := (show y = _ from rb)
  exact ⟨rfl, by rw [isN_of ra]; exact q.now hr (by simp [VR])⟩
end
end Fl
/-! Fl, part 4: tests, subscripts, slices, calls of built-ins, methods of built-in types. -/
namespace Fl
open PySem L2
section
variable {X : Cx} {cl : Nat → Addr} {W : WX}
/-! ### truth -/
@[simp] def tru : D → IH → Option Bool
  | .non, _ => some false
  | .bl b, _ => some b
  | .int i, _ => some (i != 0)
  | .str s, _ => if s.length ≤ sizeLine then some ((s.length : Int) != 0) else none
  | .tup l, _ => some (!l.isEmpty)
  | .fls l, _ => some (!l.isEmpty)
  | .ref n, h => match h[n]? with
    | some (.lst l) => some (!l.isEmpty)
    | some (.dic l) => some (!l.isEmpty)
    | _ => none
theorem emp_of {K : PySem.W.Frag} {ws : List Addr} {H : Hp} {l : List D} {xs : List V} (r : VRs K ws H l xs) : xs.isEmpty = l.isEmpty := by
  cases l with
  | nil => cases r; rfl
  | cons d l => obtain ⟨x, t, rfl, _⟩ := r; rfl
theorem empK_of {K : PySem.W.Frag} {ws : List Addr} {H : Hp} {l : List (Key × D)} {xs : List (Key × V)} (r : KR K ws H l xs) : xs.isEmpty = l.isEmpty := by
  cases l with
  | nil => cases r; rfl
  | cons d l => obtain ⟨x, t, rfl, _⟩ := r; rfl
theorem tru_of {K : PySem.W.Frag} {ws : List Addr} {h : IH} {H : Hp} {d : D} {v : V} {b : Bool} (hr : HR K cl ws h H) (r : VR K ws H d v) (e : tru d h = some b) : TruV K v H b := by
  cases d with
  | non => cases r; cases e; rfl
  | bl _ => cases r; cases e; rfl
  | int _ => cases r; cases e; rfl
  | str s =>
    cases r
    unfold tru at e
    dsimp only at e
    split at e
    · rename_i hz
      cases e
      exact ⟨hz, rfl⟩
    · cases e
  | tup l =>
    obtain ⟨a, xs, rfl, s, r⟩ := r
    cases e
    exact .inr (.inl ⟨xs, s.t, by rw [emp_of r]⟩)
  | fls l =>
    obtain ⟨a, xs, rfl, s, r⟩ := r
    cases e
    exact .inl ⟨xs, s.sq, by rw [emp_of r]⟩
  | ref n =>
    unfold tru at e
    dsimp only at e
    split at e
    · rename_i l hl
      obtain ⟨a, xs, rfl, _, e3, r⟩ := r.list hr hl
      cases e
      exact .inl ⟨xs, SqL.of e3, by rw [emp_of r]⟩
    · rename_i l hl
      obtain ⟨a, xs, rfl, _, e3, r⟩ := r.dict hr hl
      cases e
      exact .inr (.inr ⟨xs, e3, by rw [empK_of r]⟩)
    · cases e
def tTr (f : SE) : ST := fun e h => (f e h).bind fun d h1 => match tru d h1 with
  | some b => .ok b h1
  | none => .bad
theorem dt_tr {a : Expr} {f : SE} (ha : DE X cl W a f) (he : ∀ whole, isTrue a X.env whole = (do let v ← whole; standAt a.pos; holding [v] (truthy v)) := by intro _; rfl) : DT X cl W a (tTr f) := by
  refine ⟨ptImp (pt_truth ha.p he) fun σ H Q ⟨ws, lc, h, hr, lr, q⟩ => ⟨ws, lc, h, hr, lr, ?_⟩⟩
  refine rd.seq q fun ws1 d h1 H1 v p1 l1 hr1 r1 q1 => ?_
  split at q1
  · rename_i b hb
    exact ⟨b, tru_of hr1 r1 hb, q1.now hr1 rfl⟩
  · exact q1.elim
def tNo (f : ST) : ST := fun e h => (f e h).bind fun b h1 => .ok (!b) h1
theorem dt_not {a : Expr} {pos : Pos} {f : ST} (ha : DT X cl W a f) : DT X cl W (.UnaryOp .Not a pos) (tNo f) := by
  refine ⟨ptImp (pt_not ha.p) fun σ H Q ⟨ws, lc, h, hr, lr, q⟩ => ⟨ws, lc, h, hr, lr, ?_⟩⟩
  refine rd.seq q fun ws1 d h1 H1 v p1 l1 hr1 r1 q1 => ?_
  obtain rfl := (show d = v from r1)
  exact q1.now hr1 rfl
def tAn (f g : ST) : ST := fun e h => (f e h).bind fun b h1 => if b = true then g e h1 else .ok false h1
def tOr' (f g : ST) : ST := fun e h => (f e h).bind fun b h1 => if b = true then .ok true h1 else g e h1
theorem dw_and1 {a : Expr} {pos : Pos} {f : ST} (ha : DT X cl W a f) : DW X cl W (.BoolOp .And [a] pos) f := ⟨pw_and1 ha.p⟩
theorem dw_or1 {a : Expr} {pos : Pos} {f : ST} (ha : DT X cl W a f) : DW X cl W (.BoolOp .Or [a] pos) f := ⟨pw_or1 ha.p⟩
theorem dw_and {a b : Expr} {rest : List Expr} {pos : Pos} {f g : ST} (ha : DT X cl W a f) (hb : DW X cl W (.BoolOp .And (b :: rest) pos) g) : DW X cl W (.BoolOp .And (a :: b :: rest) pos) (tAn f g) := by
  refine ⟨pwImp (pw_and ha.p hb.p) fun σ H Q ⟨ws, lc, h, hr, lr, q⟩ => ⟨ws, lc, h, hr, lr, ?_⟩⟩
  refine rd.seq q fun ws1 d h1 H1 v p1 l1 hr1 r1 q1 => ?_
  obtain rfl := (show d = v from r1)
  cases d with
  | true => exact iteT ⟨ws1, lc, h1, hr1, lr.mono p1 l1, q1⟩
  | false => exact iteF (q1.now hr1 rfl)
theorem dw_or {a b : Expr} {rest : List Expr} {pos : Pos} {f g : ST} (ha : DT X cl W a f) (hb : DW X cl W (.BoolOp .Or (b :: rest) pos) g) : DW X cl W (.BoolOp .Or (a :: b :: rest) pos) (tOr' f g) := by
  refine ⟨pwImp (pw_or ha.p hb.p) fun σ H Q ⟨ws, lc, h, hr, lr, q⟩ => ⟨ws, lc, h, hr, lr, ?_⟩⟩
  refine rd.seq q fun ws1 d h1 H1 v p1 l1 hr1 r1 q1 => ?_
  obtain rfl := (show d = v from r1)
  cases d with
  | true => exact iteT (q1.now hr1 rfl)
  | false => exact iteF ⟨ws1, lc, h1, hr1, lr.mono p1 l1, q1⟩
theorem DW.t {a : Expr} {f : ST} (h : DW X cl W a f) : DT X cl W a f := ⟨h.p.pt⟩
/-! and, or, not as values -/
def eAn (f g : SE) : SE := fun e h => (f e h).bind fun d h1 => match tru d h1 with
  | some true => g e h1
  | some false => .ok d h1
  | none => .bad
def eOr (f g : SE) : SE := fun e h => (f e h).bind fun d h1 => match tru d h1 with
  | some true => .ok d h1
  | some false => g e h1
  | none => .bad
def eNot (f : SE) : SE := fun e h => (f e h).bind fun d h1 => match tru d h1 with
  | some b => .ok (.bl (!b)) h1
  | none => .bad
theorem de_one {op : BoolOp} {a : Expr} {pos : Pos} {f : SE} (ha : DE X cl W a f) : DE X cl W (.BoolOp op [a] pos) f := ⟨pe_one ha.p⟩
theorem de_and {a b : Expr} {rest : List Expr} {pos : Pos} {f g : SE} (ha : DE X cl W a f) (hb : DE X cl W (.BoolOp .And (b :: rest) pos) g) : DE X cl W (.BoolOp .And (a :: b :: rest) pos) (eAn f g) := by
  refine ⟨peImp (pe_andT ha.p hb.p) fun σ H Q ⟨ws, lc, h, hr, lr, q⟩ => ⟨ws, lc, h, hr, lr, ?_⟩⟩
  refine rd.seq q fun ws1 d h1 H1 v p1 l1 hr1 r1 q1 => ?_
  split at q1
  · rename_i hb
    exact ⟨true, tru_of hr1 r1 hb, iteT ⟨ws1, lc, h1, hr1, lr.mono p1 l1, q1⟩⟩
  · rename_i hb
    exact ⟨false, tru_of hr1 r1 hb, iteF (q1.now hr1 r1)⟩
  · exact q1.elim
theorem de_or {a b : Expr} {rest : List Expr} {pos : Pos} {f g : SE} (ha : DE X cl W a f) (hb : DE X cl W (.BoolOp .Or (b :: rest) pos) g) : DE X cl W (.BoolOp .Or (a :: b :: rest) pos) (eOr f g) := by
  refine ⟨peImp (pe_orT ha.p hb.p) fun σ H Q ⟨ws, lc, h, hr, lr, q⟩ => ⟨ws, lc, h, hr, lr, ?_⟩⟩
  refine rd.seq q fun ws1 d h1 H1 v p1 l1 hr1 r1 q1 => ?_
  split at q1
  · rename_i hb
    exact ⟨true, tru_of hr1 r1 hb, iteT (q1.now hr1 r1)⟩
  · rename_i hb
    exact ⟨false, tru_of hr1 r1 hb, iteF ⟨ws1, lc, h1, hr1, lr.mono p1 l1, q1⟩⟩
  · exact q1.elim
theorem de_not {a : Expr} {pos : Pos} {f : SE} (ha : DE X cl W a f) : DE X cl W (.UnaryOp .Not a pos) (eNot f) := by
  refine ⟨peImp (pe_notT ha.p) fun σ H Q ⟨ws, lc, h, hr, lr, q⟩ => ⟨ws, lc, h, hr, lr, ?_⟩⟩
  refine rd.seq q fun ws1 d h1 H1 v p1 l1 hr1 r1 q1 => ?_
  split at q1
  · rename_i b hb
    exact ⟨b, tru_of hr1 r1 hb, q1.now hr1 rfl⟩
  · exact q1.elim
def eIf (c : ST) (f g : SE) : SE := fun e h => (c e h).bind fun b h1 => if b = true then f e h1 else g e h1
theorem de_if {c a b : Expr} {pos : Pos} {t : ST} {f g : SE} (hc : DT X cl W c t) (ha : DE X cl W a f) (hb : DE X cl W b g) : DE X cl W (.IfExp c a b pos) (eIf t f g) := by
  refine ⟨peImp (pe_ifExp hc.p ha.p hb.p) fun σ H Q ⟨ws, lc, h, hr, lr, q⟩ => ⟨ws, lc, h, hr, lr, ?_⟩⟩
  refine rd.seq q fun ws1 d h1 H1 v p1 l1 hr1 r1 q1 => ?_
  obtain rfl := (show d = v from r1)
  cases d with
  | true => exact iteT ⟨ws1, lc, h1, hr1, lr.mono p1 l1, q1⟩
  | false => exact iteF ⟨ws1, lc, h1, hr1, lr.mono p1 l1, q1⟩
/-! ### chains a op b op c -/
def eCh (F G : D → D → IH → R D) (f g k : SE) : SE := fun e h => (f e h).bind fun a h1 => (g e h1).bind fun b h2 => (F a b h2).bind fun z h3 => match z with
  | .bl true => (k e h3).bind fun c h4 => G b c h4
  | .bl false => .ok (.bl false) h3
  | _ => .bad
theorem ch_ok {F G : D → D → IH → R D} {r r' : R2} {f g k : SE}
    (hF : ∀ ws h H σ a b x y Q, HR X.K cl ws h H → VR X.K ws H a x → VR X.K ws H b y → rd X.K cl W (VR X.K) (F a b h) ws H σ Q → r x y H Q)
    (hG : ∀ ws h H σ a b x y Q, HR X.K cl ws h H → VR X.K ws H a x → VR X.K ws H b y → rd X.K cl W (VR X.K) (G a b h) ws H σ Q → r' x y H Q) :
    ∀ σ H Q, tE X.K cl W (eCh F G f g k) σ H Q → tChain r r' (tE X.K cl W f) (tE X.K cl W g) (tE X.K cl W k) σ H Q := by
  intro σ H Q ⟨ws, lc, h, hr, lr, q⟩
  refine ⟨ws, lc, h, hr, lr, ?_⟩
  refine rd.seq q fun ws1 a h1 H1 v p1 l1 hr1 r1 q1 => ⟨ws1, lc, h1, hr1, lr.mono p1 l1, ?_⟩
  refine rd.seq q1 fun ws2 b h2 H2 u p2 l2 hr2 r2 q2 => ?_
  refine hF _ _ _ _ _ _ _ _ _ hr2 (r1.mono p2 l2) r2 (rd.seq q2 fun ws3 z h3 H3 w p3 l3 hr3 r3 q3 => ?_)
  split at q3
  · refine ⟨true, r3, iteT ⟨ws3, lc, h3, hr3, lr.mono (p1.trans (p2.trans p3)) (l1.trans (l2.trans l3)), ?_⟩⟩
    refine rd.seq q3 fun ws4 c h4 H4 w4 p4 l4 hr4 r4 q4 => ?_
    exact hG _ _ _ _ _ _ _ _ _ hr4 (r2.mono (p3.trans p4) (l3.trans l4)) r4 q4
  · exact ⟨false, r3, iteF (q3.now hr3 rfl)⟩
  · exact q3.elim
theorem de_chain {op op' : CmpOp} {a b c : Expr} {pos : Pos} {F G : D → D → IH → R D} {f g k : SE} (o : Op2 X cl W (compareOp op) F) (o' : Op2 X cl W (compareOp op') G) (ha : DE X cl W a f) (hb : DE X cl W b g) (hc : DE X cl W c k)
    (hm : lastMarks [op, op'] [b, c] = false := by with_unfolding_all rfl) : DE X cl W (.Compare a [op, op'] [b, c] pos) (eCh F G f g k) := by
  obtain ⟨r, ho, hF⟩ := o
  obtain ⟨r', ho', hG⟩ := o'
  exact ⟨peImp (pe_chain ho ho' ha.p hb.p hc.p hm) (ch_ok hF hG)⟩
theorem dt_chain {op op' : CmpOp} {a b c : Expr} {pos : Pos} {F G : D → D → IH → R D} {f g k : SE} (o : Op2 X cl W (compareOp op) F) (o' : Op2 X cl W (compareOp op') G) (ha : DE X cl W a f) (hb : DE X cl W b g) (hc : DE X cl W c k)
    (hm : lastMarks [op, op'] [b, c] = false := by with_unfolding_all rfl) : DT X cl W (.Compare a [op, op'] [b, c] pos) (tB (eCh F G f g k)) := by
  obtain ⟨r, ho, hF⟩ := o
  obtain ⟨r', ho', hG⟩ := o'
  refine ⟨ptImp (pt_chain ho ho' ha.p hb.p hc.p hm) fun σ H Q q => ?_⟩
  obtain ⟨ws, lc, h, hr, lr, q⟩ := tB_of σ H Q q
  exact ch_ok hF hG σ H _ ⟨ws, lc, h, hr, lr, q⟩
/-! ### subscripts -/
def fIx : D → D → IH → R D
  | .tup l, .int i, h => match atI l i with
    | some d => .ok d h
    | none => .bad
  | .fls l, .int i, h => match atI l i with
    | some d => .ok d h
    | none => .bad
  | .str z, .int i, h => if z.length ≤ sizeLine then (match atI z.cps.toList i with
    | some c => .ok (.str ⟨#[c]⟩) h
    | none => .bad) else .bad
  | .ref n, .int i, h => match h[n]? with
    | some (.lst l) => (match atI l i with
      | some d => .ok d h
      | none => .bad)
    | _ => .bad
  | _, _, _ => .bad
theorem atI_of {K : PySem.W.Frag} {ws : List Addr} {H : Hp} {l : List D} {xs : List V} {i : Int} {d : D} (r : VRs K ws H l xs) (e : atI l i = some d) : ∃ v, atI xs i = some v ∧ VR K ws H d v := by
  unfold atI at e ⊢
  rw [r.len]
  cases h : ixN l.length i with
  | none => rw [h] at e; cases e
  | some j =>
    rw [h] at e
    exact r.get e
theorem de_ix {a b : Expr} {pos : Pos} {f g : SE} (ha : DE X cl W a f) (hb : DE X cl W b g) (hs : PlainIx b := by exact fun _ _ => rfl) : DE X cl W (.Subscript a b pos) (eOp fIx f g) := by
  refine ⟨peImp (pe_ix ix_seq ha.p hb.p hs) (op_bin (F := fIx) fun ws h H σ a b x y Q hr ra rb q => ?_)⟩
  cases a <;> cases b <;> first
    | exact q.elim
    | skip
  · rename_i z i
    unfold fIx at q
    dsimp only at q
    split at q
    · rename_i hz
      split at q
      · rename_i c hc
        exact .inr (.inr ⟨z, i, c, ra, rb, hz, hc, q.now hr rfl⟩)
      · exact q.elim
    · exact q.elim
  · rename_i l i
    unfold fIx at q
    dsimp only at q
    split at q
    · rename_i d hd
      obtain ⟨a, xs, rfl, s, r⟩ := ra
      obtain ⟨v, e1, e2⟩ := atI_of r hd
      exact .inr (.inl ⟨a, xs, i, v, rfl, rb, s.t, e1, q.now hr e2⟩)
    · exact q.elim
  · rename_i l i
    unfold fIx at q
    dsimp only at q
    split at q
    · rename_i d hd
      obtain ⟨a, xs, rfl, s, r⟩ := ra
      obtain ⟨v, e1, e2⟩ := atI_of r hd
      exact .inl ⟨a, xs, i, v, rfl, rb, s.sq, e1, q.now hr e2⟩
    · exact q.elim
  · rename_i n i
    unfold fIx at q
    dsimp only at q
    split at q
    · rename_i l hl
      split at q
      · rename_i d hd
        obtain ⟨a, xs, rfl, _, e3, r⟩ := ra.list hr hl
        obtain ⟨v, e1, e2⟩ := atI_of r hd
        exact .inl ⟨a, xs, i, v, rfl, rb, SqL.of e3, e1, q.now hr e2⟩
      · exact q.elim
    · exact q.elim
/-! slices -/
abbrev SO := Lc → IH → R (Option Int)
structure DO (X : Cx) (cl : Nat → Addr) (W : WX) (e : Option Expr) (f : SO) : Prop where
  p : PO X e (fun σ H Q => ∃ ws lc h, HR X.K cl ws h H ∧ LR X.K ws H lc σ ∧ rd X.K cl W (fun _ _ a b => a = b) (f lc h) ws H σ Q)
theorem poImp {e : Option Expr} {t u : TO} (h : PO X e t) (i : ∀ σ H Q, u σ H Q → t σ H Q) : PO X e u := ⟨fun pins s σ H Q I q => h.run pins s σ H Q I (i σ H Q q)⟩
def oN : SO := fun _ h => .ok none h
def oE (f : SE) : SO := fun e h => (f e h).bind fun d h1 => match d with
  | .int i => .ok (some i) h1
  | _ => .bad
theorem do_n : DO X cl W none oN := ⟨poImp po_none fun σ H Q ⟨ws, lc, h, hr, lr, q⟩ => q.now hr rfl⟩
theorem do_e {a : Expr} {f : SE} (ha : DE X cl W a f) : DO X cl W (some a) (oE f) := by
  refine ⟨poImp (po_some ha.p) fun σ H Q ⟨ws, lc, h, hr, lr, q⟩ => ⟨ws, lc, h, hr, lr, ?_⟩⟩
  refine rd.seq q fun ws1 d h1 H1 v p1 l1 hr1 r1 q1 => ?_
  cases d <;> first
    | exact q1.elim
    | skip
  rename_i i
  exact ⟨i, r1, q1.now hr1 rfl⟩
def cutD {α : Type} (l : List α) (lo hi : Option Int) : List α := (l.drop (HT.sIx l.length 0 lo)).take (HT.sIx l.length l.length hi - HT.sIx l.length 0 lo)
theorem cut_of {K : PySem.W.Frag} {ws : List Addr} {H : Hp} {l : List D} {xs : List V} (r : VRs K ws H l xs) (lo hi : Option Int) : VRs K ws H (cutD l lo hi) (cutV xs lo hi) := by
  unfold cutD cutV
  rw [r.len]
  exact (r.drop _).take _
theorem cut_all {α : Type} {l : List α} {lo hi : Option Int} (h : HT.sIx l.length 0 lo = 0 ∧ HT.sIx l.length l.length hi = l.length) : cutD l lo hi = l := by
  unfold cutD
  rw [h.1, h.2]
  simp
def fSl (lo hi : Option Int) : D → IH → R D
  | .tup l, h => .ok (.tup (cutD l lo hi)) h
  | .fls l, h => .ok (.ref h.length) (h ++ [.lst (cutD l lo hi)])
  | .str z, h => if z.length ≤ sizeLine then .ok (.str ⟨(cutD z.cps.toList lo hi).toArray⟩) h else .bad
  | .ref n, h => match h[n]? with
    | some (.lst l) => .ok (.ref h.length) (h ++ [.lst (cutD l lo hi)])
    | _ => .bad
  | _, _ => .bad
theorem cutS_eq (z : Str) (lo hi : Option Int) : (⟨(cutD z.cps.toList lo hi).toArray⟩ : Str) = cutS z lo hi := by
  unfold cutD cutS
  have e : z.cps.toList.length = z.length := Array.length_toList
  rw [e]
def eSl (f : SE) (lo hi : SO) : SE := fun e h => (f e h).bind fun a h1 => (lo e h1).bind fun l h2 => (hi e h2).bind fun u h3 => fSl l u a h3
theorem de_sl {a : Expr} {lo hi : Option Expr} {p2 pos : Pos} {f : SE} {l u : SO} (ha : DE X cl W a f) (hl : DO X cl W lo l) (hu : DO X cl W hi u) : DE X cl W (.Subscript a (.Slice lo hi none p2) pos) (eSl f l u) := by
  refine ⟨peImp (pe_slice (sl_list.or (sl_tupN.or sl_str)) ha.p hl.p hu.p) fun σ H Q ⟨ws, lc, h, hr, lr, q⟩ => ⟨ws, lc, h, hr, lr, ?_⟩⟩
  refine rd.seq q fun ws1 d h1 H1 v p1 l1 hr1 r1 q1 => ⟨ws1, lc, h1, hr1, lr.mono p1 l1, ?_⟩
  refine rd.seq q1 fun ws2 lo h2 H2 lo' p2 l2 hr2 r2 q2 => ⟨ws2, lc, h2, hr2, lr.mono (p1.trans p2) (l1.trans l2), ?_⟩
  refine rd.seq q2 fun ws3 hi h3 H3 hi' p3 l3 hr3 r3 q3 => ?_
  obtain rfl := (show lo = lo' from r2)
  obtain rfl := (show hi = hi' from r3)
  replace r1 := r1.mono (p2.trans p3) (l2.trans l3)
  clear r2 r3 q q1 q2
  cases d with
  | str z =>
    unfold fSl at q3
    dsimp only at q3
    split at q3
    · rename_i hz
      refine .inr (.inr ⟨z, r1, hz, q3.now hr3 ?_⟩)
      rw [cutS_eq z lo hi]
      rfl
    · exact q3.elim
  | tup l =>
    obtain ⟨a, xs, rfl, s, rs⟩ := r1
    refine .inr (.inl ⟨a, xs, rfl, s.t, fun z => ?_, fun _ p o hp hc hd => ?_⟩)
    · have z' : HT.sIx l.length 0 lo = 0 ∧ HT.sIx l.length l.length hi = l.length := by rw [← rs.len]; exact z
      refine q3.now hr3 ?_
      rw [cut_all z']
      exact ⟨a, xs, rfl, s, rs⟩
    · exact q3.fresh hr3 hp fun le => VR.tupI (SqN.new hc hd) ((cut_of rs lo hi).mono (List.prefix_refl _) le)
  | fls l =>
    obtain ⟨a, xs, rfl, s, rs⟩ := r1
    exact .inl ⟨a, xs, rfl, s.sq, fun p hp => q3.newList hr3 hp (cut_of rs lo hi) fun e => VR.refI e⟩
  | ref n =>
    unfold fSl at q3
    dsimp only at q3
    split at q3
    · rename_i l hl
      obtain ⟨a, xs, rfl, _, e3, rs⟩ := r1.list hr3 hl
      exact .inl ⟨a, xs, rfl, SqL.of e3, fun p hp => q3.newList hr3 hp (cut_of rs lo hi) fun e => VR.refI e⟩
    · exact q3.elim
  | _ => exact q3.elim
/-! ### calls of built-ins -/
def BCall (X : Cx) (cl : Nat → Addr) (W : WX) (f : Value) (F : List D → IH → R D) : Prop :=
  ∃ r, CallR X f r ∧ ∀ ws h H σ ds xs Q, HR X.K cl ws h H → VRs X.K ws H ds xs → rd X.K cl W (VR X.K) (F ds h) ws H σ Q → r xs H Q
def eB (F : List D → IH → R D) (g : SA) : SE := fun e h => (g e h).bind fun ds h1 => F ds h1
theorem cb_ok {F : List D → IH → R D} {g : SA} {r : List V → Hp → VK → Prop} (hF : ∀ ws h H σ ds xs Q, HR X.K cl ws h H → VRs X.K ws H ds xs → rd X.K cl W (VR X.K) (F ds h) ws H σ Q → r xs H Q) :
    ∀ σ H Q, tE X.K cl W (eB F g) σ H Q → tCB r (tA X.K cl W g) σ H Q := by
  intro σ H Q ⟨ws, lc, h, hr, lr, q⟩
  refine ⟨ws, lc, h, hr, lr, ?_⟩
  refine rd.seq q fun ws1 ds h1 H1 v p1 l1 hr1 r1 q1 => ?_
  exact hF _ _ _ _ _ _ _ hr1 r1 q1
theorem de_b {x : Str} {id : String} {p pos : Pos} {e : Expr} {es : List Expr} {F : List D → IH → R D} {g : SA} (o : BCall X cl W (.builtin id) F) (hg : Gl X x) (hm : X.mg x = none) (hv : bootBuiltins x = some (.builtin id)) (ha : DA X cl W (e :: es) g)
    (hn : x ≠ "__name__" := by decide) (hdb : (x == ("__debug__" : Str)) = false := by decide) (he : starEach (e :: es) X.env = (false, eval e X.env) :: starEach es X.env := by rfl) (hpl : (backTo pos (starEach es X.env)).any (·.1) = false := by rfl) :
    DE X cl W (.Call (.Name x p) (e :: es) [] pos) (eB F g) := by
  obtain ⟨r, hc, hF⟩ := o
  exact ⟨peImp (pe_callB hc hg hm hv ha.p hn hdb he hpl) (cb_ok hF)⟩
theorem de_ty {x : Str} {id : String} {p pos : Pos} {e : Expr} {es : List Expr} {F : List D → IH → R D} {g : SA} (o : BCall X cl W (.type id) F) (hg : Gl X x) (hm : X.mg x = none) (hv : bootBuiltins x = some (.type id)) (ha : DA X cl W (e :: es) g)
    (hn : x ≠ "__name__" := by decide) (hdb : (x == ("__debug__" : Str)) = false := by decide) (he : starEach (e :: es) X.env = (false, eval e X.env) :: starEach es X.env := by rfl) (hpl : (backTo pos (starEach es X.env)).any (·.1) = false := by rfl) :
    DE X cl W (.Call (.Name x p) (e :: es) [] pos) (eB F g) := by
  obtain ⟨r, hc, hF⟩ := o
  exact ⟨peImp (pe_callTy hc hg hm hv ha.p hn hdb he hpl) (cb_ok hF)⟩
theorem VRs.one {K : PySem.W.Frag} {ws : List Addr} {H : Hp} {d : D} {xs : List V} (r : VRs K ws H [d] xs) : ∃ x, xs = [x] ∧ VR K ws H d x := by
  obtain ⟨x, t, rfl, r1, r2⟩ := r
  cases r2
  exact ⟨x, rfl, r1⟩
def bLen : List D → IH → R D
  | [.tup l], h => .ok (.int l.length) h
  | [.fls l], h => .ok (.int l.length) h
  | [.str z], h => if z.length ≤ sizeLine then .ok (.int z.length) h else .bad
  | [.ref n], h => match h[n]? with
    | some (.lst l) => .ok (.int l.length) h
    | some (.dic l) => .ok (.int l.length) h
    | _ => .bad
  | _, _ => .bad
theorem b_len : BCall X cl W (.builtin "len") bLen := by
  refine ⟨_, call_len.or call_lenD, fun ws h H σ ds xs Q hr r q => ?_⟩
  unfold bLen at q
  split at q
  · obtain ⟨x, rfl, a, ys, rfl, s, rl⟩ := r.one
    exact .inl ⟨_, ys.length, rfl, .inr ⟨ys, s.t, rfl⟩, by rw [rl.len]; exact q.now hr rfl⟩
  · obtain ⟨x, rfl, a, ys, rfl, s, rl⟩ := r.one
    exact .inl ⟨_, ys.length, rfl, .inl ⟨ys, s.sq, rfl⟩, by rw [rl.len]; exact q.now hr rfl⟩
  · obtain ⟨x, rfl, rx⟩ := r.one
    obtain rfl := (show x = _ from rx)
    split at q
    · rename_i hz
      exact .inl ⟨_, _, rfl, ⟨hz, rfl⟩, q.now hr rfl⟩
    · exact q.elim
  · obtain ⟨x, rfl, rx⟩ := r.one
    split at q
    · rename_i hl
      obtain ⟨a, ys, rfl, _, e3, rl⟩ := rx.list hr hl
      exact .inl ⟨_, ys.length, rfl, .inl ⟨ys, SqL.of e3, rfl⟩, by rw [rl.len]; exact q.now hr rfl⟩
    · rename_i hl
      obtain ⟨a, ys, rfl, _, e3, rl⟩ := rx.dict hr hl
      exact .inr ⟨a, ys, rfl, e3, by rw [rl.len]; exact q.now hr rfl⟩
    · exact q.elim
  · exact q.elim
def bInt : List D → IH → R D
  | [.int i], h => .ok (.int i) h
  | [.bl b], h => .ok (.int (if b then 1 else 0)) h
  | [.str s], h => match PySem.intText? s with
    | some n => if s.length ≤ 640 then .ok (.int n) h else .bad
    | none => .bad
  | _, _ => .bad
theorem b_int : BCall X cl W (.type "int") bInt := by
  refine ⟨_, call_int1.or call_int_str, fun ws h H σ ds xs Q hr r q => ?_⟩
  unfold bInt at q
  split at q
  · obtain ⟨x, rfl, rx⟩ := r.one
    obtain rfl := (show x = _ from rx)
    exact .inl (.inl ⟨_, rfl, q.now hr rfl⟩)
  · obtain ⟨x, rfl, rx⟩ := r.one
    obtain rfl := (show x = _ from rx)
    exact .inl (.inr ⟨_, rfl, q.now hr rfl⟩)
  · obtain ⟨x, rfl, rx⟩ := r.one
    obtain rfl := (show x = _ from rx)
    split at q
    · rename_i n hn
      split at q
      · rename_i hz
        exact .inr ⟨_, n, rfl, hn, hz, q.now hr rfl⟩
      · exact q.elim
    · exact q.elim
  · exact q.elim
/-! isinstance -/
inductive Ty where
  | none | bool | int | str | tuple | list | dict
def tyNm : Ty → String
  | .none => "NoneType" | .bool => "bool" | .int => "int" | .str => "str" | .tuple => "tuple" | .list => "list" | .dict => "dict"
@[simp] def isT : Ty → Ty → Bool
  | .none, .none => true | .bool, .bool => true | .bool, .int => true | .int, .int => true | .str, .str => true | .tuple, .tuple => true | .list, .list => true | .dict, .dict => true
  | _, _ => false
@[simp] def tyD : D → IH → Option Ty
  | .non, _ => some .none
  | .bl _, _ => some .bool
  | .int _, _ => some .int
  | .str _, _ => some .str
  | .tup _, _ => some .tuple
  | .fls _, _ => some .list
  | .ref n, h => match h[n]? with
    | some (.lst _) => some .list
    | some (.dic _) => some .dict
    | _ => none
theorem kit_T : ∀ a b : Ty, kitB (tyNm a) (tyNm b) = some (isT a b) := by
  intro a b
  cases a <;> cases b <;> decide +kernel
theorem tyD_of {K : PySem.W.Frag} {ws : List Addr} {h : IH} {H : Hp} {d : D} {v : V} {t : Ty} (hr : HR K cl ws h H) (r : VR K ws H d v) (e : tyD d h = some t) : TyX K H v (.type (tyNm t)) := by
  cases d with
  | non => cases r; cases e; exact .base .non
  | bl b => cases r; cases e; exact .base (.bl b)
  | int i => cases r; cases e; exact .base (.int i)
  | str s => cases r; cases e; exact .base (.str s)
  | tup l =>
    obtain ⟨a, xs, rfl, s, r⟩ := r
    cases e
    rcases s with ⟨o, _, _, s⟩ | ⟨o, its, n, hk, hc, _⟩
    · exact .fTuple s
    · exact .kTuple hk hc
  | fls l =>
    obtain ⟨a, xs, rfl, s, r⟩ := r
    cases e
    rcases s with ⟨o, s⟩ | ⟨o, its, n, hk, hc, _⟩
    · exact .base (.frz s)
    · exact .kList hk hc
  | ref n =>
    unfold tyD at e
    dsimp only at e
    split at e
    · rename_i l hl
      obtain ⟨a, xs, rfl, _, e3, r⟩ := r.list hr hl
      cases e
      exact .base (.lst e3)
    · rename_i l hl
      obtain ⟨a, xs, rfl, _, e3, r⟩ := r.dict hr hl
      cases e
      exact .base (.dK e3)
    · cases e
def eIsi (T : Ty) (f : SE) : SE := fun e h => (f e h).bind fun d h1 => match tyD d h1 with
  | some t => .ok (.bl (isT t T)) h1
  | none => .bad
/-- isinstance(a, T), T a built-in class -/
theorem de_isi (T : Ty) {n : Str} {p p2 pos : Pos} {a : Expr} {f : SE} (hg : Gl X "isinstance") (hm : X.mg "isinstance" = none) (hg2 : Gl X n) (hm2 : X.mg n = none) (hv : bootBuiltins n = some (.type (tyNm T))) (ha : DE X cl W a f)
    (hn : n ≠ "__name__" := by decide) (hdb : (n == ("__debug__" : Str)) = false := by decide) (he : starEach (a :: [.Name n p2]) X.env = (false, eval a X.env) :: starEach [.Name n p2] X.env := by rfl) (hpl : (backTo pos (starEach [.Name n p2] X.env)).any (·.1) = false := by rfl) :
    DE X cl W (.Call (.Name "isinstance" p) [a, .Name n p2] [] pos) (eIsi T f) := by
  have hp : PE X (.Name n p2) (tC (.ty (tyNm T))) := pe_bltn hg2 hm2 hv rfl hn hdb
  refine ⟨peImp (pe_callB call_isi hg hm (by decide +kernel) (pa_cons ha.p (pa_cons hp pa_nil) he) (by decide) (by decide) he hpl) fun σ H Q ⟨ws, lc, h, hr, lr, q⟩ => ⟨ws, lc, h, hr, lr, ?_⟩⟩
  refine rd.seq q fun ws1 d h1 H1 v p1 l1 hr1 r1 q1 => ?_
  split at q1
  · rename_i t ht
    exact ⟨v, .ty (tyNm T), _, _, isT t T, rfl, .ty _, tyD_of hr1 r1 ht, kit_ty (kit_T t T), q1.now hr1 rfl⟩
  · exact q1.elim
def eIsi2 (T U : Ty) (f : SE) : SE := fun e h => (f e h).bind fun d h1 => match tyD d h1 with
  | some t => .ok (.bl (isT t T || isT t U)) h1
  | none => .bad
/-- isinstance(a, (T, U)) -/
theorem de_isi2 (T U : Ty) {n m : Str} {p p2 p3 p4 pos : Pos} {x1} {a : Expr} {f : SE} (hg : Gl X "isinstance") (hm : X.mg "isinstance" = none) (hg2 : Gl X n) (hm2 : X.mg n = none) (hv : bootBuiltins n = some (.type (tyNm T)))
    (hg3 : Gl X m) (hm3 : X.mg m = none) (hv3 : bootBuiltins m = some (.type (tyNm U))) (ha : DE X cl W a f)
    (hn : n ≠ "__name__" := by decide) (hdb : (n == ("__debug__" : Str)) = false := by decide) (hn3 : m ≠ "__name__" := by decide) (hdb3 : (m == ("__debug__" : Str)) = false := by decide)
    (he : starEach (a :: [.Tuple [.Name n p2, .Name m p3] x1 p4]) X.env = (false, eval a X.env) :: starEach [.Tuple [.Name n p2, .Name m p3] x1 p4] X.env := by rfl) (hpl : (backTo pos (starEach [.Tuple [.Name n p2, .Name m p3] x1 p4] X.env)).any (·.1) = false := by rfl) :
    DE X cl W (.Call (.Name "isinstance" p) [a, .Tuple [.Name n p2, .Name m p3] x1 p4] [] pos) (eIsi2 T U f) := by
  have hp : PE X (.Name n p2) (tC (.ty (tyNm T))) := pe_bltn hg2 hm2 hv rfl hn hdb
  have hp3 : PE X (.Name m p3) (tC (.ty (tyNm U))) := pe_bltn hg3 hm3 hv3 rfl hn3 hdb3
  have ht : PE X (.Tuple [.Name n p2, .Name m p3] x1 p4) (tTup (tCons (tC (.ty (tyNm T))) (tCons (tC (.ty (tyNm U))) tNil))) := pe_tup (pa_cons hp (pa_cons hp3 pa_nil))
  refine ⟨peImp (pe_callB call_isiT hg hm (by decide +kernel) (pa_cons ha.p (pa_cons ht pa_nil) he) (by decide) (by decide) he hpl) fun σ H Q ⟨ws, lc, h, hr, lr, q⟩ => ⟨ws, lc, h, hr, lr, ?_⟩⟩
  refine rd.seq q fun ws1 d h1 H1 v p1 l1 hr1 r1 q1 => ?_
  split at q1
  · rename_i t ht
    refine ⟨(by show 2 ≤ sizeLine; decide), fun tp hp => ?_⟩
    have kk : Kept tp H1 (upd H1 tp (.tup [.ty (tyNm T), .ty (tyNm U)])) := Kept.new hp
    have hr2 := hr1.keep kk (hr1.free hp)
    refine ⟨v, tp, [.ty (tyNm T), .ty (tyNm U)], _, [.type (tyNm T), .type (tyNm U)], (isT t T || isT t U), rfl, upd_same, .cons (.ty _) (.cons (.ty _) .nil), tyD_of hr2 (r1.mono (List.prefix_refl _) kk.le) ht, ?_, q1.fresh hr1 hp fun _ => rfl⟩
    refine kitAny_cons (kit_ty (kit_T t T)) (fun z => ?_) (fun z => by rw [z]; rfl)
    rw [z, Bool.false_or]
    refine kitAny_cons (kit_ty (kit_T t U)) (fun z => ?_) (fun z => z)
    rw [z]
    rfl
  · exact q1.elim
/-! ### methods of built-in types -/
/-- a list stands there -/
@[simp] def isLst : D → IH → Bool
  | .ref n, h => match h[n]? with
    | some (.lst _) => true
    | _ => false
  | .fls _, _ => true
  | _, _ => false
@[simp] def isStr : D → IH → Bool
  | .str _, _ => true
  | _, _ => false
def MtOk (X : Cx) (cl : Nat → Addr) (W : WX) (id : String) (F : D → List D → IH → R D) : Prop :=
  ∃ r, MtR X id r ∧ ∀ ws h H σ d ds x xs Q, HR X.K cl ws h H → VR X.K ws H d x → VRs X.K ws H ds xs → rd X.K cl W (VR X.K) (F d ds h) ws H σ Q → r x xs H Q
def eMt (ty : D → IH → Bool) (F : D → List D → IH → R D) (f : SE) (g : SA) : SE := fun e h => (f e h).bind fun d h1 => if ty d h1 = true then (g e h1).bind fun ds h2 => F d ds h2 else .bad
/-- the test tells the type -/
def TyTest (K : PySem.W.Frag) (cl : Nat → Addr) (T : String) (ty : D → IH → Bool) : Prop := ∀ ws h H d x, HR K cl ws h H → VR K ws H d x → ty d h = true → tyV K T x H
theorem ty_list {K : PySem.W.Frag} : TyTest K cl "list" isLst := by
  intro ws h H d x hr r e
  cases d <;> first
    | cases e
    | skip
  · obtain ⟨a, xs, rfl, s, r⟩ := r
    exact .inl ⟨rfl, xs, s.sq⟩
  · unfold isLst at e
    dsimp only at e
    split at e
    · rename_i l hl
      obtain ⟨a, xs, rfl, _, e3, r⟩ := r.list hr hl
      exact .inl ⟨rfl, xs, SqL.of e3⟩
    · cases e
theorem ty_str {K : PySem.W.Frag} : TyTest K cl "str" isStr := by
  intro ws h H d x hr r e
  cases d <;> first
    | cases e
    | skip
  cases r
  rfl
theorem de_mt {T id : String} {name : Str} {o e : Expr} {es : List Expr} {apos cpos : Pos} {ty : D → IH → Bool} {F : D → List D → IH → R D} {f : SE} {g : SA} (pa : PlainAttrs T) (slot : Slot T name id) (hty : typeOf (.builtin id) = pure (.type "method_descriptor"))
    (m : MtOk X cl W id F) (tt : TyTest X.K cl T ty) (ho : DE X cl W o f) (ha : DA X cl W (e :: es) g) (hbase : attributeBase o name X.env (eval o X.env) = eval o X.env := by rfl)
    (hfew : ((backTo cpos (starEach (e :: es) X.env)).all (fun x => !x.1) && (backToKw cpos (keywordEach [] X.env)).all (fun x => x.1.isSome)
      && decide ((e :: es).length + ([] : List Keyword).length + (if ([] : List Keyword).isEmpty then 0 else 1) < 30)) = true := by rfl)
    (hline : (apos.endLine == cpos.line) = true := by rfl) (hs : starEach (e :: es) X.env = (false, eval e X.env) :: starEach es X.env := by rfl) (hplain : (backTo cpos (starEach es X.env)).any (·.1) = false := by rfl) :
    DE X cl W (.Call (.Attribute o name apos) (e :: es) [] cpos) (eMt ty F f g) := by
  obtain ⟨r, hm, hF⟩ := m
  refine ⟨peImp (pe_bm pa slot hty hm ho.p ha.p hbase hfew hline hs hplain) fun σ H Q ⟨ws, lc, h, hr, lr, q⟩ => ⟨ws, lc, h, hr, lr, ?_⟩⟩
  refine rd.seq q fun ws1 d h1 H1 v p1 l1 hr1 r1 q1 => ?_
  split at q1
  · rename_i ht
    refine ⟨tt _ _ _ _ _ hr1 r1 ht, ws1, lc, h1, hr1, lr.mono p1 l1, ?_⟩
    refine rd.seq q1 fun ws2 ds h2 H2 vs p2 l2 hr2 r2 q2 => ?_
    exact hF _ _ _ _ _ _ _ _ _ hr2 (r1.mono p2 l2) r2 q2
  · exact q1.elim
theorem de_mt0 {T id : String} {name : Str} {o : Expr} {apos cpos : Pos} {ty : D → IH → Bool} {F : D → List D → IH → R D} {f : SE} (pa : PlainAttrs T) (slot : Slot T name id) (hty : typeOf (.builtin id) = pure (.type "method_descriptor"))
    (m : MtOk X cl W id F) (tt : TyTest X.K cl T ty) (ho : DE X cl W o f) (hbase : attributeBase o name X.env (eval o X.env) = eval o X.env := by rfl) (hline : (apos.endLine == cpos.line) = true := by rfl) :
    DE X cl W (.Call (.Attribute o name apos) [] [] cpos) (eMt ty F f aNil) := by
  obtain ⟨r, hm, hF⟩ := m
  refine ⟨peImp (pe_bm0 pa slot hty hm ho.p hbase hline) fun σ H Q ⟨ws, lc, h, hr, lr, q⟩ => ⟨ws, lc, h, hr, lr, ?_⟩⟩
  refine rd.seq q fun ws1 d h1 H1 v p1 l1 hr1 r1 q1 => ?_
  split at q1
  · rename_i ht
    exact ⟨tt _ _ _ _ _ hr1 r1 ht, hF _ _ _ _ _ [] _ [] _ hr1 r1 rfl q1⟩
  · exact q1.elim
def mAppend : D → List D → IH → R D
  | .ref n, [d], h => match h[n]? with
    | some (.lst l) => if l.length < sizeLine then .ok .non (h.set n (.lst (l ++ [d]))) else .bad
    | _ => .bad
  | _, _, _ => .bad
theorem m_append : MtOk X cl W "list.append" mAppend := by
  refine ⟨_, mt_append, fun ws h H σ d ds x xs Q hr rx rs q => ?_⟩
  unfold mAppend at q
  split at q
  · split at q
    · rename_i hl
      split at q
      · rename_i hz
        obtain ⟨a, ys, rfl, ea, e3, r⟩ := rx.list hr hl
        obtain ⟨y, rfl, ry⟩ := rs.one
        refine ⟨a, ys, y, rfl, rfl, e3, by rw [r.len]; exact hz, ?_⟩
        have kk : Kept a H (upd H a (.lst (ys ++ [y]))) := Kept.wr e3 True.intro
        refine q ws _ _ (List.prefix_refl _) kk.le (hr.set ea e3 True.intro ⟨_, upd_same, (r.append (es := [_]) (ys := [_]) ⟨_, [], rfl, ry, rfl⟩).mono (List.prefix_refl _) kk.le⟩) rfl
      · exact q.elim
    · exact q.elim
  · exact q.elim
def mExtend : D → List D → IH → R D
  | .ref n, [.ref m], h => match h[n]?, h[m]? with
    | some (.lst l), some (.lst k) => if l.length + k.length ≤ sizeLine then .ok .non (h.set n (.lst (l ++ k))) else .bad
    | _, _ => .bad
  | _, _, _ => .bad
theorem m_extend : MtOk X cl W "list.extend" mExtend := by
  refine ⟨_, mt_extend, fun ws h H σ d ds x xs Q hr rx rs q => ?_⟩
  unfold mExtend at q
  split at q
  · split at q
    · rename_i hl hk
      split at q
      · rename_i hz
        obtain ⟨a, ys, rfl, ea, e3, r⟩ := rx.list hr hl
        obtain ⟨y, rfl, ry⟩ := rs.one
        obtain ⟨b, zs, rfl, _, f3, r2⟩ := ry.list hr hk
        refine ⟨a, b, ys, zs, rfl, rfl, e3, f3, by rw [r.len, r2.len]; exact hz, ?_⟩
        have kk : Kept a H (upd H a (.lst (ys ++ zs))) := Kept.wr e3 True.intro
        refine q ws _ _ (List.prefix_refl _) kk.le (hr.set ea e3 True.intro ⟨_, upd_same, (r.append r2).mono (List.prefix_refl _) kk.le⟩) rfl
      · exact q.elim
    · exact q.elim
  · exact q.elim
def mPop : D → List D → IH → R D
  | .ref n, [], h => match h[n]? with
    | some (.lst l) => (match l[l.length - 1]? with
      | some d => .ok d (h.set n (.lst l.dropLast))
      | none => .bad)
    | _ => .bad
  | _, _, _ => .bad
theorem m_pop : MtOk X cl W "list.pop" mPop := by
  refine ⟨_, mt_pop, fun ws h H σ d ds x xs Q hr rx rs q => ?_⟩
  unfold mPop at q
  split at q
  · split at q
    · rename_i l hl
      split at q
      · rename_i hd
        obtain ⟨a, ys, rfl, ea, e3, r⟩ := rx.list hr hl
        obtain rfl := (show xs = [] from rs)
        obtain ⟨y, ey, ry⟩ := r.get hd
        refine ⟨a, ys, y, rfl, rfl, e3, by rw [r.len]; exact ey, ?_⟩
        have kk : Kept a H (upd H a (.lst ys.dropLast)) := Kept.wr e3 True.intro
        refine q ws _ _ (List.prefix_refl _) kk.le (hr.set ea e3 True.intro ⟨_, upd_same, r.dropLast.mono (List.prefix_refl _) kk.le⟩) (ry.mono (List.prefix_refl _) kk.le)
      · exact q.elim
    · exact q.elim
  · exact q.elim
end
end Fl
/-! Fl, part 5: statements, loops, comprehensions, defs and their calls. -/
namespace Fl
open PySem L2
def R.st {α : Type} (r : R α) (e : Lc) (k : α → IH → RS) : RS := match r with
  | .ok a h => k a h
  | .ex c fs h => .ex c fs e h
  | .bad => .bad
/-- .. where no exception may come -/
def R.bindN {α β : Type} (r : R α) (k : α → IH → R β) : R β := match r with
  | .ok a h => k a h
  | _ => .bad
abbrev WN : WX := fun _ _ _ _ => False
section
variable {K : PySem.W.Frag} {cl : Nat → Addr} {W : WX} {ws ws' : List Addr} {h : IH} {H H' : Hp} {e : Lc} {σ : St}
theorem rdS.seq {α γ : Type} {rel1 : List Addr → Hp → α → γ → Prop} {r : R α} {k : α → IH → RS} {E : Ends} {T : γ → Hp → Prop} (q : rdS K cl W (r.st e k) ws H E) (lr : LR K ws H e σ)
    (hk : ∀ ws1 a h1 H1 v, ws <+: ws1 → Le K H H1 → HR K cl ws1 h1 H1 → rel1 ws1 H1 a v → rdS K cl W (k a h1) ws1 H1 E → T v H1) : rd K cl W rel1 r ws H σ T := by
  cases r with
  | ok a h' => exact fun ws1 H1 v p l hr rel => hk ws1 a h' H1 v p l hr rel (rdS.mono p l q)
  | ex c fs h' => exact fun ws1 H1 dd xs p l hr e1 fr => q ws1 H1 σ dd xs p l hr (lr.mono p l) e1 fr
  | bad => exact q
theorem rd.seqN {α β γ δ : Type} {rel1 : List Addr → Hp → α → γ → Prop} {rel2 : List Addr → Hp → β → δ → Prop} {r : R α} {k : α → IH → R β} {Q : δ → Hp → Prop} {T : γ → Hp → Prop} {σ2 : St}
    (q : rd K cl W rel2 (r.bindN k) ws H σ Q)
    (hk : ∀ ws1 a h1 H1 v, ws <+: ws1 → Le K H H1 → HR K cl ws1 h1 H1 → rel1 ws1 H1 a v → rd K cl W rel2 (k a h1) ws1 H1 σ Q → T v H1) : rd K cl WN rel1 r ws H σ2 T := by
  cases r with
  | ok a h' => exact fun ws1 H1 v p l hr rel => hk ws1 a h' H1 v p l hr rel (rd.mono p l q)
  | ex c fs h' => exact q.elim
  | bad => exact q
end
section
variable {X : Cx} {cl : Nat → Addr} {W : WX}
/-! ### small statements -/
def sNx : SS := fun e h => .nx e h
def sSeq (f g : SS) : SS := fun e h => match f e h with
  | .nx e1 h1 => g e1 h1
  | r => r
theorem dss_nil : DSs X cl W [] sNx := ⟨pssImp pss_nil fun D σ H ⟨ws, lc, h, hr, lr, q⟩ => q ws H σ (List.prefix_refl _) Le.refl hr lr⟩
theorem dss_cons {s : Stmt} {ss : List Stmt} {f g : SS} (h1 : DS X cl W s f) (h2 : DSs X cl W ss g) : DSs X cl W (s :: ss) (sSeq f g) := by
  refine ⟨pssImp (pss_cons h1.p h2.p) fun D σ H ⟨ws, lc, h, hr, lr, q⟩ => ⟨ws, lc, h, hr, lr, ?_⟩⟩
  unfold sSeq at q
  cases hf : f lc h with
  | nx e1 h1 =>
    rw [hf] at q
    exact fun ws' H' σ' p l hr' lr' => ⟨ws', e1, h1, hr', lr', rdS.mono p l q⟩
  | rt d h1 => rw [hf] at q; exact q
  | bk e1 h1 => rw [hf] at q; exact q
  | ct e1 h1 => rw [hf] at q; exact q
  | ex c fs e1 h1 => rw [hf] at q; exact q
  | bad => rw [hf] at q; exact q
theorem dss_one {s : Stmt} {f : SS} (h1 : DS X cl W s f) : DSs X cl W [s] f := ⟨pss_one h1.p⟩
theorem ds_pass {pos : Pos} : DS X cl W (.Pass pos) sNx := ⟨psImp ps_pass fun D σ H ⟨ws, lc, h, hr, lr, q⟩ => q ws H σ (List.prefix_refl _) Le.refl hr lr⟩
def sBk : SS := fun e h => .bk e h
def sCt : SS := fun e h => .ct e h
theorem ds_break {pos : Pos} : DS X cl W (.Break pos) sBk := ⟨psImp ps_break fun D σ H ⟨ws, lc, h, hr, lr, q⟩ => q ws H σ (List.prefix_refl _) Le.refl hr lr⟩
theorem ds_continue {pos : Pos} : DS X cl W (.Continue pos) sCt := ⟨psImp ps_continue fun D σ H ⟨ws, lc, h, hr, lr, q⟩ => q ws H σ (List.prefix_refl _) Le.refl hr lr⟩
def sEx (f : SE) : SS := fun e h => (f e h).st e fun _ h1 => .nx e h1
theorem ds_expr {a : Expr} {pos : Pos} {f : SE} (ha : DE X cl W a f) (hs : swapsWith a none pos.line X.env = pure false := by rfl) : DS X cl W (.Expr a pos) (sEx f) := by
  refine ⟨psImp (ps_expr ha.p hs) fun D σ H ⟨ws, lc, h, hr, lr, q⟩ => ⟨ws, lc, h, hr, lr, ?_⟩⟩
  exact rdS.seq q lr fun ws1 d h1 H1 v p1 l1 hr1 r1 q1 => q1 ws1 H1 σ (List.prefix_refl _) Le.refl hr1 (lr.mono p1 l1)
def sRt (f : SE) : SS := fun e h => (f e h).st e fun d h1 => .rt d h1
theorem ds_ret {a : Expr} {pos : Pos} {f : SE} (ha : DE X cl W a f) : DS X cl W (.Return (some a) pos) (sRt f) := by
  refine ⟨psImp (ps_ret ha.p) fun D σ H ⟨ws, lc, h, hr, lr, q⟩ => ⟨ws, lc, h, hr, lr, ?_⟩⟩
  exact rdS.seq q lr fun ws1 d h1 H1 v p1 l1 hr1 r1 q1 => q1 ws1 H1 v (List.prefix_refl _) Le.refl hr1 r1
def sRtN : SS := fun _ h => .rt .non h
theorem ds_retN {pos : Pos} : DS X cl W (.Return none pos) sRtN := ⟨psImp ps_retN fun D σ H ⟨ws, lc, h, hr, lr, q⟩ => q ws H .non (List.prefix_refl _) Le.refl hr rfl⟩
def sIf (c : ST) (f g : SS) : SS := fun e h => (c e h).st e fun b h1 => if b = true then f e h1 else g e h1
theorem ds_if {c : Expr} {a b : List Stmt} {pos : Pos} {t : ST} {f g : SS} (hc : DT X cl W c t) (ha : DSs X cl W a f) (hb : DSs X cl W b g) : DS X cl W (.If c a b pos) (sIf t f g) := by
  refine ⟨psImp (ps_if hc.p ha.p hb.p) fun D σ H ⟨ws, lc, h, hr, lr, q⟩ => ⟨ws, lc, h, hr, lr, ?_⟩⟩
  refine rdS.seq q lr fun ws1 d h1 H1 v p1 l1 hr1 r1 q1 => ?_
  obtain rfl := (show d = v from r1)
  cases d with
  | true => exact iteT ⟨ws1, lc, h1, hr1, lr.mono p1 l1, q1⟩
  | false => exact iteF ⟨ws1, lc, h1, hr1, lr.mono p1 l1, q1⟩
/-! ### targets -/
inductive Tg where
  | n (i : Nat) | t (l : List Nat)
@[simp] def setAll : List Nat → List D → Lc → Lc
  | i :: l, d :: ds, e => setAll l ds (e.set i (some d))
  | _, _, e => e
def tgS : Tg → D → Lc → Option Lc
  | .n i, d, e => some (e.set i (some d))
  | .t l, .tup ds, e => if ds.length = l.length then some (setAll l ds e) else none
  | _, _, _ => none
def gNs : List Nat → TGs
  | [] => gNil
  | i :: l => gCons (gName i) (gNs l)
def gOf (K : PySem.W.Frag) : Tg → TG
  | .n i => gName i
  | .t l => gTup K l.length (gNs l)
structure DG (X : Cx) (tg : Expr) (t : Tg) : Prop where
  p : PG X tg (gOf X.K t)
structure DGs (X : Cx) (tg : List Expr) (l : List Nat) : Prop where
  p : PGs X tg (gNs l)
  l : (assignEach tg X.env).length = l.length
  s : (assignEach tg X.env).findIdx? (·.1) = none
theorem dg_n (i : Nat) {x : Str} {pos : Pos} (hN : X.N.Nodup) (hi : X.N[i]? = some x := by rfl) (hx : Loc X.env.scope x := by first | exact Or.inl rfl | exact Or.inr rfl)
    (hf : X.fn x = true ∨ X.env.scope.names.lookup x = some .local := by first | exact Or.inl rfl | exact Or.inr rfl | assumption) : DG X (.Name x pos) (.n i) := ⟨pg_name hN hi hx hf⟩
theorem dgs_nil : DGs X [] [] := ⟨pgs_nil, rfl, rfl⟩
theorem dgs_cons {e : Expr} {es : List Expr} {i : Nat} {l : List Nat} (h1 : DG X e (.n i)) (h2 : DGs X es l) (hs : (assignEach (e :: es) X.env).map (·.2) = assign e X.env :: (assignEach es X.env).map (·.2) := by rfl)
    (hl : (assignEach (e :: es) X.env).length = (i :: l).length := by rfl) (hf : (assignEach (e :: es) X.env).findIdx? (·.1) = none := by rfl) : DGs X (e :: es) (i :: l) := ⟨pgs_cons h1.p h2.p hs, hl, hf⟩
theorem dg_t {es : List Expr} {k : Nat} {pos : Pos} {l : List Nat} (hc : X.calm = true) (h : DGs X es l) : DG X (.Tuple es k pos) (.t l) := ⟨pg_tup hc h.p h.l h.s⟩
section
variable {K : PySem.W.Frag} {ws : List Addr} {H : Hp} {e e' : Lc} {σ : St}
/-- both lists of slots are alike but at vs -/
def But (vs : List Nat) (σ σ' : St) : Prop := σ'.length = σ.length ∧ ∀ j, j ∉ vs → σ'[j]? = σ[j]?
theorem But.refl {vs : List Nat} : But vs σ σ := ⟨rfl, fun _ _ => rfl⟩
theorem But.set {vs : List Nat} {σ' : St} {i : Nat} {x : Option V} (b : But vs σ σ') (hi : i ∈ vs) : But vs σ (σ'.set i x) := by
  refine ⟨by simp [b.1], fun j hj => ?_⟩
  rw [List.getElem?_set_ne (fun z : i = j => hj (z ▸ hi))]
  exact b.2 j hj
theorem But.wider {vs us : List Nat} {σ' : St} (b : But vs σ σ') (h : ∀ i ∈ vs, i ∈ us) : But us σ σ' := ⟨b.1, fun j hj => b.2 j fun z => hj (h j z)⟩
def tgL : Tg → List Nat
  | .n i => [i]
  | .t l => l
theorem gNs_ok {Q : St → Hp → Prop} : ∀ {l : List Nat} {ds : List D} {xs : List V} {e : Lc} {σ σ0 : St} {us : List Nat}, ds.length = l.length → VRs K ws H ds xs → LR K ws H e σ → But us σ0 σ → (∀ i ∈ l, i ∈ us) →
    (∀ σ', LR K ws H (setAll l ds e) σ' → But us σ0 σ' → Q σ' H) → gNs l xs σ H Q
  | [], [], _, e, σ, σ0, us, _, r, lr, b, _, k => by
    cases r
    exact ⟨rfl, k σ lr b⟩
  | i :: l, d :: ds, _, e, σ, σ0, us, hl, r, lr, b, hu, k => by
    obtain ⟨x, t, rfl, r1, r2⟩ := r
    refine ⟨x, t, rfl, ?_⟩
    exact gNs_ok (l := l) (ds := ds) (by simpa using hl) r2 (lr.set i r1) (b.set (hu i List.mem_cons_self)) (fun j hj => hu j (List.mem_cons_of_mem _ hj)) k
  | [], _ :: _, _, _, _, _, _, hl, _, _, _, _, _ => by simp at hl
  | _ :: _, [], _, _, _, _, _, hl, _, _, _, _, _ => by simp at hl
theorem gOf_ok {t : Tg} {d : D} {v : V} {Q : St → Hp → Prop} (ht : tgS t d e = some e') (r : VR K ws H d v) (lr : LR K ws H e σ) (k : ∀ σ', LR K ws H e' σ' → But (tgL t) σ σ' → Q σ' H) : gOf K t v σ H Q := by
  cases t with
  | n i =>
    cases ht
    exact k _ (lr.set i r) (But.refl.set (by simp [tgL]))
  | t l =>
    unfold tgS at ht
    cases d <;> first
      | cases ht
      | skip
    rename_i ds
    dsimp only at ht
    split at ht
    · rename_i hl
      cases ht
      obtain ⟨a, xs, rfl, s, r⟩ := r
      exact ⟨a, xs, rfl, s.t, by rw [r.len, hl], gNs_ok hl r lr But.refl (fun _ z => z) k⟩
    · cases ht
end
def sAs (t : Tg) (f : SE) : SS := fun e h => (f e h).st e fun d h1 => match tgS t d e with
  | some e1 => .nx e1 h1
  | none => .bad
theorem as_ok {t : Tg} {f : SE} : ∀ D σ H, tS X.K cl W (sAs t f) D σ H → tAsg (tE X.K cl W f) (gOf X.K t) D σ H := by
  intro D σ H ⟨ws, lc, h, hr, lr, q⟩
  refine ⟨ws, lc, h, hr, lr, ?_⟩
  refine rdS.seq q lr fun ws1 d h1 H1 v p1 l1 hr1 r1 q1 => ?_
  split at q1
  · rename_i e1 he
    exact gOf_ok he r1 (lr.mono p1 l1) fun σ' lr' _ => q1 ws1 H1 σ' (List.prefix_refl _) Le.refl hr1 lr'
  · exact q1.elim
theorem ds_as {tg e : Expr} {pos : Pos} {t : Tg} {f : SE} (he : DE X cl W e f) (hg : DG X tg t) (hs : swapsWithSole [tg] e pos.line X.env = pure false := by rfl) (hw : swappedStores [tg] e X.env = pure none := by rfl)
    (h1 : (assignEach [tg] X.env).map (·.2) = [assign tg X.env] := by rfl) : DS X cl W (.Assign [tg] e pos) (sAs t f) := ⟨psImp (ps_asg he.p hg.p hs hw h1) as_ok⟩
theorem ds_set (i : Nat) {x : Str} {e : Expr} {pos' pos : Pos} {f : SE} (hN : X.N.Nodup) (he : DE X cl W e f) (hi : X.N[i]? = some x := by rfl) (hx : Loc X.env.scope x := by first | exact Or.inl rfl | exact Or.inr rfl)
    (hs : swapsWith e (some (.Name x pos')) pos.line X.env = pure false := by rfl) (hf : X.fn x = true ∨ X.env.scope.names.lookup x = some .local := by first | exact Or.inl rfl | exact Or.inr rfl | assumption) :
    DS X cl W (.Assign [.Name x pos'] e pos) (sAs (.n i) f) := ⟨psImp (ps_set hN hi hx he.p hs hf) as_ok⟩
/-- a, b = x, y: no tuple is kept -/
def sPar (i j : Nat) (g : SA) : SS := fun e h => (g e h).st e fun ds h1 => match ds with
  | [a, b] => .nx ((e.set i (some a)).set j (some b)) h1
  | _ => .bad
theorem ds_par (i j : Nat) {x y : Str} {a b : Expr} {g : SA} {px py pt : Pos} {kt k2 pt2} {pos : Pos} (hc : X.calm = true) (hN : X.N.Nodup) (ha : DA X cl W [a, b] g) (hi : X.N[i]? = some x := by rfl) (hj : X.N[j]? = some y := by rfl) (hij : i ≠ j := by decide)
    (hx : X.env.scope.names.lookup x = some .local := by rfl) (hy : X.env.scope.names.lookup y = some .local := by rfl)
    (hw : swappedStores [.Tuple [.Name x px, .Name y py] kt pt] (.Tuple [a, b] k2 pt2) X.env = pure (some [x, y]) := by rfl)
    (hs : swapsWithSole [.Tuple [.Name x px, .Name y py] kt pt] (.Tuple [a, b] k2 pt2) pos.line X.env = pure false := by rfl) :
    DS X cl W (.Assign [.Tuple [.Name x px, .Name y py] kt pt] (.Tuple [a, b] k2 pt2) pos) (sPar i j g) := by
  refine ⟨psImp (ps_par hc hN hi hj hij hx hy ha.p hw hs) fun D σ H ⟨ws, lc, h, hr, lr, q⟩ => ⟨ws, lc, h, hr, lr, ?_⟩⟩
  refine rdS.seq q lr fun ws1 ds h1 H1 vs p1 l1 hr1 r1 q1 => ?_
  split at q1
  · obtain ⟨v, t, rfl, r1, w, t2, rfl, r2, r3⟩ := r1
    cases r3
    exact ⟨v, w, rfl, q1 ws1 H1 _ (List.prefix_refl _) Le.refl hr1 (((lr.mono p1 l1).set i r1).set j r2)⟩
  · exact q1.elim
/-- o[i] = e -/
def fPut : D → D → D → IH → Option IH
  | .ref n, .int k, d, h => match h[n]? with
    | some (.lst l) => (match ixN l.length k with
      | some j => some (h.set n (.lst (l.set j d)))
      | none => none)
    | _ => none
  | _, _, _, _ => none
def sPut (fo fi f : SE) : SS := fun e h => (f e h).st e fun d h1 => (fo e h1).st e fun o h2 => (fi e h2).st e fun i h3 => match fPut o i d h3 with
  | some h4 => .nx e h4
  | none => .bad
theorem ds_put {o i e : Expr} {p pos : Pos} {fo fi f : SE} (he : DE X cl W e f) (ho : DE X cl W o fo) (hi : DE X cl W i fi)
    (ha : ∀ v, assign (.Subscript o i p) X.env v = (do
      let ov ← holding [v] (eval o X.env)
      let iv ← holding [v, ov] (eval i X.env)
      standAt p
      holding [v, ov, iv] (setItem ov iv v)
      release [v, ov, iv] []) := by intro _; rfl)
    (hs : swapsWithSole [.Subscript o i p] e pos.line X.env = pure false := by rfl) (hw : swappedStores [.Subscript o i p] e X.env = pure none := by rfl)
    (h1 : (assignEach [.Subscript o i p] X.env).map (·.2) = [assign (.Subscript o i p) X.env] := by rfl) : DS X cl W (.Assign [.Subscript o i p] e pos) (sPut fo fi f) := by
  refine ⟨psImp (ps_asg he.p (pg_sub ho.p hi.p set_list ha) hs hw h1) fun D σ H ⟨ws, lc, h, hr, lr, q⟩ => ⟨ws, lc, h, hr, lr, ?_⟩⟩
  refine rdS.seq q lr fun ws1 d h1 H1 v p1 l1 hr1 r1 q1 => ⟨ws1, lc, h1, hr1, lr.mono p1 l1, ?_⟩
  refine rdS.seq q1 (lr.mono p1 l1) fun ws2 o h2 H2 vo p2 l2 hr2 r2 q2 => ⟨ws2, lc, h2, hr2, lr.mono (p1.trans p2) (l1.trans l2), ?_⟩
  refine rdS.seq q2 (lr.mono (p1.trans p2) (l1.trans l2)) fun ws3 i h3 H3 vi p3 l3 hr3 r3 q3 => ?_
  split at q3
  · rename_i h4 he4
    have lr3 := lr.mono (p1.trans (p2.trans p3)) (l1.trans (l2.trans l3))
    have rd := r1.mono (p2.trans p3) (l2.trans l3)
    have ro := r2.mono p3 l3
    unfold fPut at he4
    split at he4
    · split at he4
      · rename_i l hl
        split at he4
        · rename_i j hj
          cases he4
          obtain ⟨a, xs, rfl, ea, e3, rs⟩ := ro.list hr3 hl
          refine ⟨a, xs, _, j, rfl, r3, e3, by rw [rs.len]; exact hj, ?_⟩
          have kk : Kept a H3 (upd H3 a (.lst (xs.set j v))) := Kept.wr e3 True.intro
          exact q3 ws3 _ σ (List.prefix_refl _) kk.le (hr3.set ea e3 True.intro ⟨_, upd_same, (VRs.set rd j rs).mono (List.prefix_refl _) kk.le⟩) (lr3.mono (List.prefix_refl _) kk.le)
        · cases he4
      · cases he4
    · cases he4
  · exact q3.elim
/-! ### what a loop walks -/
def rgV (lo : Int) (n : Nat) : List V := (List.range n).map fun i => V.int (lo + (i : Nat))
def rgD (lo : Int) (n : Nat) : List D := (List.range n).map fun i => D.int (lo + (i : Nat))
theorem rg_vr {K : PySem.W.Frag} {ws : List Addr} {H : Hp} (lo : Int) (n : Nat) : VRs K ws H (rgD lo n) (rgV lo n) := by
  unfold rgD rgV
  generalize List.range n = l
  induction l with
  | nil => rfl
  | cons i l ih => exact ⟨_, _, rfl, rfl, ih⟩
/-- the items, and what must stay -/
abbrev Src := Lc → IH → R (List D × (IH → Prop))
/-- this iterator walks these items, as long as what must stay stays -/
def relI (K : PySem.W.Frag) (cl : Nat → Addr) (ws : List Addr) (H : Hp) (p : List D × (IH → Prop)) (J : It) : Prop :=
  ∀ ws2 h2 H2, ws <+: ws2 → Le K H H2 → HR K cl ws2 h2 H2 → p.2 h2 → ∀ i : Nat,
    (∀ d, p.1[i]? = some d → J.go i H2 ∧ ∀ y H', J.yld i H2 y H' → H' = H2 ∧ VR K ws2 H2 d y) ∧ (p.1.length ≤ i → J.stop i H2)
theorem relI_list {K : PySem.W.Frag} {cl : Nat → Addr} {ws : List Addr} {H : Hp} {l : List D} {c : IH → Prop} {a : Addr}
    (k : ∀ ws2 h2 H2, ws <+: ws2 → Le K H H2 → HR K cl ws2 h2 H2 → c h2 → ∃ ys, SqL K H2 a ys ∧ VRs K ws2 H2 l ys) : relI K cl ws H (l, c) (Itl K a) := by
  intro ws2 h2 H2 p2 l2 hr2 c2 i
  obtain ⟨ys, s, r⟩ := k ws2 h2 H2 p2 l2 hr2 c2
  refine ⟨fun d hd => ?_, fun hi => ⟨ys, s, by rw [r.len]; exact hi⟩⟩
  obtain ⟨y, ey, ry⟩ := r.get hd
  refine ⟨⟨ys, y, s, ey⟩, fun z H' q => ⟨q.1, ?_⟩⟩
  have e := q.2 ys s
  rw [ey] at e
  cases e
  exact ry
theorem relI_tup {K : PySem.W.Frag} {cl : Nat → Addr} {ws : List Addr} {H : Hp} {l : List D} {c : IH → Prop} {a : Addr}
    (k : ∀ ws2 h2 H2, ws <+: ws2 → Le K H H2 → HR K cl ws2 h2 H2 → c h2 → ∃ ys, SqT K H2 a ys ∧ VRs K ws2 H2 l ys) : relI K cl ws H (l, c) (Itt K a) := by
  intro ws2 h2 H2 p2 l2 hr2 c2 i
  obtain ⟨ys, s, r⟩ := k ws2 h2 H2 p2 l2 hr2 c2
  refine ⟨fun d hd => ?_, fun hi => ⟨ys, s, by rw [r.len]; exact hi⟩⟩
  obtain ⟨y, ey, ry⟩ := r.get hd
  refine ⟨⟨ys, y, s, ey⟩, fun z H' q => ⟨q.1, ?_⟩⟩
  have e := q.2 ys s
  rw [ey] at e
  cases e
  exact ry
theorem relI_rng {K : PySem.W.Frag} {cl : Nat → Addr} {ws : List Addr} {H : Hp} {c : IH → Prop} (lo : Int) (n : Nat) : relI K cl ws H (rgD lo n, c) (Itr lo n) := by
  intro ws2 h2 H2 p2 l2 hr2 c2 i
  refine ⟨fun d hd => ?_, fun hi => ?_⟩
  · unfold rgD at hd
    rw [List.getElem?_map] at hd
    cases hi : (List.range n)[i]? with
    | none => rw [hi] at hd; cases hd
    | some j =>
      rw [hi] at hd
      obtain ⟨h1, h2⟩ := List.getElem?_eq_some_iff.mp hi
      simp at h1 h2
      subst h2
      cases hd
      exact ⟨h1, fun y H' q => ⟨q.1, q.2⟩⟩
  · show n ≤ i
    simpa [rgD] using hi
def tI (K : PySem.W.Frag) (cl : Nat → Addr) (W : WX) (f : Src) : TI := fun σ H Q => ∃ ws e h, HR K cl ws h H ∧ LR K ws H e σ ∧ rd K cl W (relI K cl) (f e h) ws H σ Q
structure DI (X : Cx) (cl : Nat → Addr) (W : WX) (iter : Expr) (f : Src) : Prop where
  p : ∀ tg, PI X tg iter (tI X.K cl W f)
theorem piImp {tg iter : Expr} {t u : TI} (h : PI X tg iter t) (i : ∀ σ H Q, u σ H Q → t σ H Q) : PI X tg iter u := ⟨fun pins s σ H Q I q => h.run pins s σ H Q I (i σ H Q q)⟩
theorem piOr {tg iter : Expr} {t u : TI} (h : PI X tg iter t) (k : PI X tg iter u) : PI X tg iter (fun σ H Q => t σ H Q ∨ u σ H Q) :=
  ⟨fun pins s σ H Q I q => q.elim (fun q => h.run pins s σ H Q I q) (fun q => k.run pins s σ H Q I q)⟩
def itS : D → IH → Option (List D × (IH → Prop))
  | .tup l, _ => some (l, fun _ => True)
  | .fls l, _ => some (l, fun _ => True)
  | .ref n, h => match h[n]? with
    | some (.lst l) => some (l, fun h' => h'[n]? = some (.lst l))
    | _ => none
  | _, _ => none
def iE (f : SE) : Src := fun e h => (f e h).bind fun d h1 => match itS d h1 with
  | some p => .ok p h1
  | none => .bad
theorem di_e {iter : Expr} {f : SE} (ha : DE X cl W iter f) : DI X cl W iter (iE f) := by
  refine ⟨fun tg => piImp (piOr (pi_list ha.p) (pi_tup ha.p)) fun σ H Q ⟨ws, lc, h, hr, lr, q⟩ => ?_⟩
  have key : (∃ l h1, f lc h = .ok (.tup l) h1) ∨ ¬ ∃ l h1, f lc h = .ok (.tup l) h1 := Classical.em _
  rcases key with ⟨l, h1, ef⟩ | nf
  · refine .inr ⟨ws, lc, h, hr, lr, ?_⟩
    unfold iE at q
    rw [ef] at q ⊢
    intro ws1 H1 v p1 l1 hr1 r1
    obtain ⟨a, xs, rfl, s, r⟩ := r1
    exact ⟨a, rfl, ⟨xs, s.t⟩, q ws1 H1 _ p1 l1 hr1 (relI_tup fun ws2 h2 H2 p2 l2 _ _ => ⟨xs, (l2.1 _ _ s).t, r.mono p2 l2⟩)⟩
  · refine .inl ⟨ws, lc, h, hr, lr, ?_⟩
    unfold iE at q
    cases ef : f lc h with
    | bad => rw [ef] at q; exact q
    | ex c fs h1 => rw [ef] at q; exact q
    | ok d h1 =>
      rw [ef] at q
      intro ws1 H1 v p1 l1 hr1 r1
      cases d with
      | tup l => exact (nf ⟨l, h1, ef⟩).elim
      | fls l =>
        obtain ⟨a, xs, rfl, s, r⟩ := r1
        exact ⟨a, rfl, ⟨xs, s.sq⟩, q ws1 H1 _ p1 l1 hr1 (relI_list fun ws2 h2 H2 p2 l2 _ _ => ⟨xs, (l2.2 _ _ s).sq, r.mono p2 l2⟩)⟩
      | ref n =>
        change rd X.K cl W (relI X.K cl) (match itS (.ref n) h1 with
          | some p => .ok p h1
          | none => .bad) ws H σ Q at q
        unfold itS at q
        dsimp only at q
        cases hn : h1[n]? with
        | none => rw [hn] at q; exact q.elim
        | some o =>
          cases o with
          | lst l =>
            rw [hn] at q
            obtain ⟨a, xs, rfl, ea, e3, r⟩ := r1.list hr1 hn
            refine ⟨a, rfl, ⟨xs, SqL.of e3⟩, q ws1 H1 _ p1 l1 hr1 (relI_list fun ws2 h2 H2 p2 l2 hr2 e2 => ?_)⟩
            obtain ⟨ys, f1, f2⟩ := hr2.ob n _ a e2 (pre_get p2 ea)
            exact ⟨ys, SqL.of f1, f2⟩
          | _ => rw [hn] at q; exact q.elim
      | _ => exact q.elim
def iR1 (f : SA) : Src := fun e h => (f e h).bind fun ds h1 => match ds with
  | [.int j] => if -(2 ^ 62) ≤ j ∧ j < 2 ^ 62 then .ok (rgD 0 j.toNat, fun _ => True) h1 else .bad
  | _ => .bad
def iR2 (f : SA) : Src := fun e h => (f e h).bind fun ds h1 => match ds with
  | [.int i, .int j] => if -(2 ^ 62) ≤ i ∧ i < 2 ^ 62 ∧ -(2 ^ 62) ≤ j ∧ j < 2 ^ 62 then .ok (rgD i (j - i).toNat, fun _ => True) h1 else .bad
  | _ => .bad
theorem di_r1 {a : Expr} {f : SA} {p pos : Pos} (hg : Gl X "range") (hm : X.mg "range" = none) (ha : DA X cl W [a] f) (hs : starEach [a] X.env = [(false, eval a X.env)] := by rfl) : DI X cl W (.Call (.Name "range" p) [a] [] pos) (iR1 f) := by
  refine ⟨fun tg => piImp (pi_range1 hg hm ha.p hs) fun σ H Q ⟨ws, lc, h, hr, lr, q⟩ => ⟨ws, lc, h, hr, lr, ?_⟩⟩
  refine rd.seq q fun ws1 ds h1 H1 vs p1 l1 hr1 r1 q1 => ?_
  split at q1
  · rename_i j
    split at q1
    · rename_i hz
      obtain ⟨x, rfl, rx⟩ := r1.one
      obtain rfl := (show x = _ from rx)
      exact ⟨j, rfl, hz.1, hz.2, q1.now hr1 (relI_rng 0 _)⟩
    · exact q1.elim
  · exact q1.elim
theorem di_r2 {a b : Expr} {f : SA} {p pos : Pos} (hg : Gl X "range") (hm : X.mg "range" = none) (ha : DA X cl W [a, b] f) (hs : starEach [a, b] X.env = [(false, eval a X.env), (false, eval b X.env)] := by rfl)
    (hs2 : starEach [b] X.env = [(false, eval b X.env)] := by rfl) : DI X cl W (.Call (.Name "range" p) [a, b] [] pos) (iR2 f) := by
  refine ⟨fun tg => piImp (pi_range2 hg hm ha.p hs hs2) fun σ H Q ⟨ws, lc, h, hr, lr, q⟩ => ⟨ws, lc, h, hr, lr, ?_⟩⟩
  refine rd.seq q fun ws1 ds h1 H1 vs p1 l1 hr1 r1 q1 => ?_
  split at q1
  · rename_i i j
    split at q1
    · rename_i hz
      obtain ⟨x, t, rfl, rx, y, t2, rfl, ry, r3⟩ := r1
      cases r3
      obtain rfl := (show x = _ from rx)
      obtain rfl := (show y = _ from ry)
      exact ⟨i, j, rfl, hz, q1.now hr1 (relI_rng i _)⟩
    · exact q1.elim
  · exact q1.elim
end
end Fl
/-! Fl, part 6: loops, comprehensions, defs, calls. -/
namespace Fl
open PySem L2
/-! ### for -/
open Classical in
noncomputable def forGo (c : IH → Prop) (t : Tg) (b : SS) : List D → Lc → IH → RS
  | [], e, h => if c h then .nx e h else .bad
  | d :: ds, e, h => if c h then (match tgS t d e with
    | some e1 => (match b e1 h with
      | .nx e2 h2 => forGo c t b ds e2 h2
      | .ct e2 h2 => forGo c t b ds e2 h2
      | .bk e2 h2 => .nx e2 h2
      | r => r)
    | none => .bad) else .bad
noncomputable def sFor (t : Tg) (s : Src) (b : SS) : SS := fun e h => (s e h).st e fun p h1 => forGo p.2 t b p.1 e h1
section
variable {X : Cx} {cl : Nat → Addr} {W : WX}
theorem forGo_c {c : IH → Prop} {t : Tg} {b : SS} {ds : List D} {e : Lc} {h : IH} {K : PySem.W.Frag} {ws : List Addr} {H : Hp} {E : Ends} (q : rdS K cl W (forGo c t b ds e h) ws H E) : c h := by
  cases ds with
  | nil =>
    unfold forGo at q
    split at q
    · assumption
    · exact q.elim
  | cons d ds =>
    unfold forGo at q
    split at q
    · assumption
    · exact q.elim
theorem ds_for {tg iter : Expr} {body : List Stmt} {pos : Pos} {t : Tg} {s : Src} {b : SS} (hp : PassesOwn (model X.prog X.w) X.A X.env X.xe) (hc : X.calm = true) (hi : DI X cl W iter s) (hg : DG X tg t) (hb : DSs X cl W body b)
    (hs : ∀ x, foldedSetIterable iter X.env x = pure x := by intro _; rfl) : DS X cl W (.For tg iter body [] pos) (sFor t s b) := by
  refine ⟨psImp (ps_for hp hc (hi.p tg) hg.p hb.p hs) fun D σ H ⟨ws, lc, h, hr, lr, q⟩ => ⟨ws, lc, h, hr, lr, ?_⟩⟩
  refine rdS.seq q lr fun ws1 p h1 H1 J p1 l1 hr1 rJ q1 => ?_
  obtain ⟨ds, c⟩ := p
  -- the state ahead of turn i
  refine ⟨fun i m σ' H' => m = ds.length - i ∧ i ≤ ds.length ∧ ∃ ws' e' h', ws1 <+: ws' ∧ Le X.K H1 H' ∧ HR X.K cl ws' h' H' ∧ LR X.K ws' H' e' σ' ∧ rdS X.K cl W (forGo c t b (ds.drop i) e' h') ws' H' D,
    ⟨ds.length, by simp, Nat.zero_le _, ws1, lc, h1, List.prefix_refl _, Le.refl, hr1, lr.mono p1 l1, q1⟩, ?_⟩
  rintro i m σ' H' ⟨rfl, hi, ws', e', h', pw, le, hr', lr', qg⟩
  have ch := forGo_c qg
  obtain ⟨wk1, wk2⟩ := rJ ws' h' H' pw le hr' ch i
  by_cases hlt : i < ds.length
  · obtain ⟨go, yl⟩ := wk1 ds[i] (List.getElem?_eq_getElem hlt)
    refine .inr ⟨go, fun σ2 H2 => ∃ ws2 e2 h2, ws1 <+: ws2 ∧ Le X.K H1 H2 ∧ HR X.K cl ws2 h2 H2 ∧ LR X.K ws2 H2 e2 σ2 ∧ rdS X.K cl W (forGo c t b (ds.drop (i + 1)) e2 h2) ws2 H2 D,
      fun σ2 H2 z => ⟨ds.length - (i + 1), by omega, rfl, hlt, z⟩, fun x H2 y => ?_⟩
    obtain ⟨rfl, rx⟩ := yl x H2 y
    rw [List.drop_eq_getElem_cons hlt] at qg
    unfold forGo at qg
    rw [if_pos ch] at qg
    cases ht : tgS t ds[i] e' with
    | none => rw [ht] at qg; exact qg.elim
    | some e1 =>
      rw [ht] at qg
      dsimp only at qg
      refine gOf_ok ht rx lr' fun σ2 lr2 _ => ⟨ws', e1, h', hr', lr2, ?_⟩
      cases hb1 : b e1 h' with
      | nx e2 h2 =>
        rw [hb1] at qg
        exact fun ws3 H3 σ3 p3 l3 hr3 lr3 => ⟨ws3, e2, h2, pw.trans p3, le.trans l3, hr3, lr3, rdS.mono p3 l3 qg⟩
      | ct e2 h2 =>
        rw [hb1] at qg
        exact fun ws3 H3 σ3 p3 l3 hr3 lr3 => ⟨ws3, e2, h2, pw.trans p3, le.trans l3, hr3, lr3, rdS.mono p3 l3 qg⟩
      | bk e2 h2 => rw [hb1] at qg; exact qg
      | rt d h2 => rw [hb1] at qg; exact qg
      | ex k fs e2 h2 => rw [hb1] at qg; exact qg
      | bad => rw [hb1] at qg; exact qg
  · have e : i = ds.length := by omega
    subst e
    refine .inl ⟨wk2 (Nat.le_refl _), ?_⟩
    rw [List.drop_length] at qg
    unfold forGo at qg
    rw [if_pos ch] at qg
    exact qg ws' H' σ' (List.prefix_refl _) Le.refl hr' lr'
/-! ### while -/
def wlGo (c : ST) (b : SS) : Nat → Lc → IH → RS
  | 0, _, _ => .bad
  | n + 1, e, h => (c e h).st e fun k h1 => if k = true then (match b e h1 with
    | .nx e2 h2 => wlGo c b n e2 h2
    | .ct e2 h2 => wlGo c b n e2 h2
    | .bk e2 h2 => .nx e2 h2
    | r => r) else .nx e h1
open Classical in
noncomputable def sWh (c : ST) (b : SS) : SS := fun e h => if hx : ∃ n, wlGo c b n e h ≠ .bad then wlGo c b (choose hx) e h else .bad
theorem wlGo_mono {c : ST} {b : SS} : ∀ {n : Nat} {e : Lc} {h : IH}, wlGo c b n e h ≠ .bad → ∀ k, wlGo c b (n + k) e h = wlGo c b n e h
  | 0, e, h, z, _ => absurd rfl z
  | n + 1, e, h, z, k => by
    rw [show n + 1 + k = (n + k) + 1 by omega]
    unfold wlGo at z ⊢
    cases hc : c e h with
    | bad => rfl
    | ex c fs h1 => rfl
    | ok t h1 =>
      rw [hc] at z
      simp only [R.st] at z ⊢
      cases t with
      | false => rfl
      | true =>
        simp only [if_true] at z ⊢
        cases hb : b e h1 with
        | nx e2 h2 => rw [hb] at z; exact wlGo_mono z k
        | ct e2 h2 => rw [hb] at z; exact wlGo_mono z k
        | _ => rfl
theorem sWh_eq {c : ST} {b : SS} {n : Nat} {e : Lc} {h : IH} {r : RS} (q : wlGo c b n e h = r) (hr : r ≠ .bad) : sWh c b e h = r := by
  have hx : ∃ n, wlGo c b n e h ≠ .bad := ⟨n, by rw [q]; exact hr⟩
  unfold sWh
  rw [dif_pos hx]
  have h2 := Classical.choose_spec hx
  have h1 : wlGo c b n e h ≠ .bad := by rw [q]; exact hr
  generalize Classical.choose hx = m at h2
  rw [← wlGo_mono h2 n, Nat.add_comm, wlGo_mono h1 m, q]
theorem ds_while {c : Expr} {body : List Stmt} {pos : Pos} {t : ST} {b : SS} (hp : PassesOwn (model X.prog X.w) X.A X.env X.xe) (hc : DT X cl W c t) (hb : DSs X cl W body b) : DS X cl W (.While c body [] pos) (sWh t b) := by
  refine ⟨psImp (ps_while hp hc.p hb.p) fun D σ H ⟨ws, lc, h, hr, lr, q⟩ => ?_⟩
  unfold sWh at q
  split at q
  · rename_i hx
    generalize Classical.choose hx = m at q
    refine ⟨fun m σ' H' => ∃ ws' e' h', HR X.K cl ws' h' H' ∧ LR X.K ws' H' e' σ' ∧ rdS X.K cl W (wlGo t b m e' h') ws' H' D, ⟨m, ws, lc, h, hr, lr, q⟩, ?_⟩
    rintro m σ' H' ⟨ws', e', h', hr', lr', q'⟩
    cases m with
    | zero => exact q'.elim
    | succ m =>
      refine ⟨ws', e', h', hr', lr', ?_⟩
      unfold wlGo at q'
      refine rdS.seq q' lr' fun ws1 k h1 H1 v p1 l1 hr1 r1 q1 => ?_
      obtain rfl := (show k = v from r1)
      cases k with
      | false => exact iteF (q1 ws1 H1 σ' (List.prefix_refl _) Le.refl hr1 (lr'.mono p1 l1))
      | true =>
        rw [if_pos rfl] at q1
        refine iteT ⟨fun σ2 H2 => ∃ ws2 e2 h2, HR X.K cl ws2 h2 H2 ∧ LR X.K ws2 H2 e2 σ2 ∧ rdS X.K cl W (wlGo t b m e2 h2) ws2 H2 D, fun σ2 H2 z => ⟨m, Nat.lt_succ_self _, z⟩, ws1, e', h1, hr1, lr'.mono p1 l1, ?_⟩
        cases hb1 : b e' h1 with
        | nx e2 h2 =>
          rw [hb1] at q1
          exact fun ws3 H3 σ3 p3 l3 hr3 lr3 => ⟨ws3, e2, h2, hr3, lr3, rdS.mono p3 l3 q1⟩
        | ct e2 h2 =>
          rw [hb1] at q1
          exact fun ws3 H3 σ3 p3 l3 hr3 lr3 => ⟨ws3, e2, h2, hr3, lr3, rdS.mono p3 l3 q1⟩
        | bk e2 h2 => rw [hb1] at q1; exact q1
        | rt d h2 => rw [hb1] at q1; exact q1
        | ex k fs e2 h2 => rw [hb1] at q1; exact q1
        | bad => rw [hb1] at q1; exact q1
  · exact q.elim
/-! ### comprehensions -/
def wipeD (e : Lc) : List Nat → Lc
  | [] => e
  | v :: vs => (wipeD e vs).set v none
theorem wipe_lr {K : PySem.W.Frag} {ws : List Addr} {H : Hp} {e : Lc} {σ : St} (r : LR K ws H e σ) : ∀ vs, LR K ws H (wipeD e vs) (wipe σ vs)
  | [] => r
  | v :: vs => (wipe_lr r vs).none v none
theorem wipe_get (σ : St) : ∀ (vs : List Nat) (j : Nat), (wipe σ vs)[j]? = if j ∈ vs then (if j < σ.length then some none else none) else σ[j]?
  | [], j => by simp [wipe]
  | v :: vs, j => by
    unfold wipe
    by_cases hv : v = j
    · subst hv
      by_cases hl : v < σ.length
      · rw [List.getElem?_set_self (by rw [wipe_length]; exact hl)]
        simp [hl]
      · rw [List.getElem?_eq_none (by rw [List.length_set, wipe_length]; omega)]
        simp [hl]
    · rw [List.getElem?_set_ne hv, wipe_get σ vs j]
      have e : (j ∈ v :: vs) ↔ j ∈ vs := by
        rw [List.mem_cons]
        exact ⟨fun z => z.elim (fun y => absurd y.symm hv) id, .inr⟩
      by_cases hj : j ∈ vs
      · rw [if_pos hj, if_pos (e.mpr hj)]
      · rw [if_neg hj, if_neg (fun z => hj (e.mp z))]
theorem wipe_but {σ σ' : St} {vs : List Nat} (b : But vs (wipe σ vs) σ') : wipe σ' vs = wipe σ vs := by
  refine List.ext_getElem? fun j => ?_
  have hl : σ'.length = σ.length := by rw [b.1, wipe_length]
  rw [wipe_get, wipe_get, hl]
  by_cases hj : j ∈ vs
  · rw [if_pos hj, if_pos hj]
  · rw [if_neg hj, if_neg hj, b.2 j hj, wipe_get, if_neg hj]
open Classical in
noncomputable def lcGo (c : IH → Prop) (t : Tg) (k : ST) (f : SE) (r : Nat) (e : Lc) : List D → IH → R D
  | [], h => if c h then .ok (.ref r) h else .bad
  | d :: ds, h => if c h then (match tgS t d e with
    | some e1 => (k e1 h).bindN fun b h1 => if b = true then (f e1 h1).bindN fun y h2 => (match h2[r]? with
        | some (.lst acc) => if acc.length < sizeLine then lcGo c t k f r e ds (h2.set r (.lst (acc ++ [y]))) else .bad
        | _ => .bad) else lcGo c t k f r e ds h1
    | none => .bad) else .bad
/-- [f for t in s if k], vs the slots of its own names -/
noncomputable def eLc (vs : List Nat) (t : Tg) (s : Src) (k : ST) (f : SE) : SE := fun e h => (s e h).bind fun p h1 => lcGo p.2 t k f h1.length (wipeD e vs) p.1 (h1 ++ [.lst []])
theorem lcGo_c {c : IH → Prop} {t : Tg} {k : ST} {f : SE} {r : Nat} {ds : List D} {e : Lc} {h : IH} {K : PySem.W.Frag} {ws : List Addr} {H : Hp} {σ : St} {Q : VK} (q : rd K cl W (VR K) (lcGo c t k f r e ds h) ws H σ Q) : c h := by
  cases ds with
  | nil =>
    unfold lcGo at q
    split at q
    · assumption
    · exact q.elim
  | cons d ds =>
    unfold lcGo at q
    split at q
    · assumption
    · exact q.elim
structure DTs (X : Cx) (cl : Nat → Addr) (W : WX) (ifs : List Expr) (f : ST) : Prop where
  p : PTs X ifs (tT X.K cl W f)
theorem ptsImp {ifs : List Expr} {t u : TT} (h : PTs X ifs t) (i : ∀ σ H Q, u σ H Q → t σ H Q) : PTs X ifs u := ⟨fun pins s σ H Q I q => h.run pins s σ H Q I (i σ H Q q)⟩
def tYe : ST := fun _ h => .ok true h
theorem dts_nil : DTs X cl W [] tYe := ⟨ptsImp pts_nil fun σ H Q ⟨ws, lc, h, hr, lr, q⟩ => q.now hr rfl⟩
theorem dts_one {c : Expr} {f : ST} (h : DT X cl W c f) : DTs X cl W [c] f := ⟨pts_one h.p⟩
theorem lc_ok {t : Tg} {s : Src} {k : ST} {f : SE} {vs : List Nat} (hv : ∀ i ∈ tgL t, i ∈ vs) : ∀ σ H Q, tE X.K cl W (eLc vs t s k f) σ H Q → tLc (tI X.K cl W s) (gOf X.K t) (tT X.K cl WN k) (tE X.K cl WN f) vs σ H Q := by
  intro σ H Q ⟨ws, lc, h, hr, lr, q⟩
  refine ⟨ws, lc, h, hr, lr, ?_⟩
  refine rd.seq q fun ws1 p h1 H1 J p1 l1 hr1 rJ q1 => ?_
  obtain ⟨ds, c⟩ := p
  intro D hD
  have kD : Kept D H1 (upd H1 D (.lst [])) := Kept.new hD
  have hr0 : HR X.K cl (ws1 ++ [D]) (h1 ++ [.lst []]) (upd H1 D (.lst [])) := hr1.new hD ⟨[], upd_same, rfl⟩
  have eD : (ws1 ++ [D])[h1.length]? = some D := by rw [← hr1.len]; simp
  refine ⟨fun i m H' => m = ds.length - i ∧ i ≤ ds.length ∧ ∃ ws' h', (ws1 ++ [D]) <+: ws' ∧ Le X.K (upd H1 D (.lst [])) H' ∧ HR X.K cl ws' h' H' ∧ rd X.K cl W (VR X.K) (lcGo c t k f h1.length (wipeD lc vs) (ds.drop i) h') ws' H' σ Q,
    ⟨ds.length, by simp, Nat.zero_le _, ws1 ++ [D], _, List.prefix_refl _, Le.refl, hr0, rd.mono (List.prefix_append _ _) kD.le q1⟩, ?_⟩
  rintro i m H' ⟨rfl, hi, ws', h', pw, le, hr', qg⟩
  have ch := lcGo_c qg
  have pw1 : ws1 <+: ws' := (List.prefix_append _ _).trans pw
  have le1 : Le X.K H1 H' := kD.le.trans le
  obtain ⟨wk1, wk2⟩ := rJ ws' h' H' pw1 le1 hr' ch i
  have lr' : LR X.K ws' H' lc σ := lr.mono (p1.trans pw1) (l1.trans le1)
  by_cases hlt : i < ds.length
  · obtain ⟨go, yl⟩ := wk1 ds[i] (List.getElem?_eq_getElem hlt)
    refine .inr ⟨go, fun H2 => ∃ ws2 h2, (ws1 ++ [D]) <+: ws2 ∧ Le X.K (upd H1 D (.lst [])) H2 ∧ HR X.K cl ws2 h2 H2 ∧ rd X.K cl W (VR X.K) (lcGo c t k f h1.length (wipeD lc vs) (ds.drop (i + 1)) h2) ws2 H2 σ Q,
      fun H2 z => ⟨ds.length - (i + 1), by omega, rfl, hlt, z⟩, fun x H2 y => ?_⟩
    obtain ⟨rfl, rx⟩ := yl x H2 y
    rw [List.drop_eq_getElem_cons hlt] at qg
    unfold lcGo at qg
    rw [if_pos ch] at qg
    cases ht : tgS t ds[i] (wipeD lc vs) with
    | none => rw [ht] at qg; exact qg.elim
    | some e1 =>
      rw [ht] at qg
      dsimp only at qg
      refine gOf_ok ht rx (wipe_lr lr' vs) fun σ2 lr2 bt => ⟨wipe_but (bt.wider hv), ws', e1, h', hr', lr2, ?_⟩
      refine rd.seqN qg fun ws3 b h3 H3 b' p3 l3 hr3 r3 q3 => ?_
      obtain rfl := (show b = b' from r3)
      cases b with
      | false => exact iteF ⟨ws3, h3, pw.trans p3, le.trans l3, hr3, q3⟩
      | true =>
        rw [if_pos rfl] at q3
        refine iteT ⟨ws3, e1, h3, hr3, lr2.mono p3 l3, ?_⟩
        refine rd.seqN q3 fun ws4 z h4 H4 v p4 l4 hr4 r4 q4 => ?_
        split at q4
        · rename_i acc ha
          split at q4
          · rename_i hz
            have eD4 : ws4[h1.length]? = some D := pre_get (pw.trans (p3.trans p4)) eD
            obtain ⟨xs, f1, f2⟩ := hr4.ob _ _ D ha eD4
            have kk : Kept D H4 (upd H4 D (.lst (xs ++ [v]))) := Kept.wr f1 True.intro
            refine ⟨xs, f1, by rw [f2.len]; exact hz, ws4, _, pw.trans (p3.trans p4), le.trans (l3.trans (l4.trans kk.le)), hr4.set (o := .lst (acc ++ [z])) eD4 f1 True.intro ⟨_, upd_same, (f2.append (es := [_]) (ys := [_]) ⟨_, [], rfl, r4, rfl⟩).mono (List.prefix_refl _) kk.le⟩, rd.mono (List.prefix_refl _) kk.le q4⟩
          · exact q4.elim
        · exact q4.elim
  · have e : i = ds.length := by omega
    subst e
    refine .inl ⟨wk2 (Nat.le_refl _), ?_⟩
    rw [List.drop_length] at qg
    unfold lcGo at qg
    rw [if_pos ch] at qg
    exact qg ws' H' _ (List.prefix_refl _) Le.refl hr' (VR.refI (pre_get pw eD))
theorem de_lc {elt tg iter : Expr} {ifs : List Expr} {scope : Scope} {own : List (Str × Nat)} {pos : Pos} {t : Tg} {s : Src} {k : ST} {f : SE} (hc : X.calm = true) (hN : X.N.Nodup) (hi : DI X cl W iter s) (ok : BlkOk X.N X.env.scope scope own)
    (hg : ∀ (z : Shared) (H : Hp) (C : Addr) (cel : List (Str × Addr)) (fp : List Addr), DG (X.blk z H scope (compEnvC scope cel C X.env) fp) tg t)
    (ht : ∀ (z : Shared) (H : Hp) (C : Addr) (cel : List (Str × Addr)) (fp : List Addr), DTs (X.blk z H scope (compEnvC scope cel C X.env) fp) cl WN ifs k)
    (he : ∀ (z : Shared) (H : Hp) (C : Addr) (cel : List (Str × Addr)) (fp : List Addr), DE (X.blk z H scope (compEnvC scope cel C X.env) fp) cl WN elt f)
    (hv : ∀ i ∈ tgL t, i ∈ own.map (·.2) := by decide) (hs : ∀ x, foldedSetIterable iter X.env x = pure x := by intro _; rfl) : DE X cl W (.ListComp elt [⟨tg, iter, ifs, 0⟩] scope pos) (eLc (own.map (·.2)) t s k f) :=
  ⟨peImp (pe_lc hc hN (hi.p tg) ok (fun a b c d e => (hg a b c d e).p) (fun a b c d e => (ht a b c d e).p) (fun a b c d e => (he a b c d e).p) hs) (lc_ok hv)⟩
theorem ds_setLc (i : Nat) {y : Str} {py : Pos} {elt tg iter : Expr} {ifs : List Expr} {scope : Scope} {own : List (Str × Nat)} {pos spos : Pos} {t : Tg} {s : Src} {k : ST} {f : SE} (hc : X.calm = true) (hN : X.N.Nodup)
    (hi : DI X cl W iter s) (ok : BlkOk X.N X.env.scope scope own)
    (hg : ∀ (z : Shared) (H : Hp) (C : Addr) (cel : List (Str × Addr)) (fp : List Addr), DG (X.blk z H scope (compEnvC scope cel C X.env) fp) tg t)
    (ht : ∀ (z : Shared) (H : Hp) (C : Addr) (cel : List (Str × Addr)) (fp : List Addr), DTs (X.blk z H scope (compEnvC scope cel C X.env) fp) cl WN ifs k)
    (he : ∀ (z : Shared) (H : Hp) (C : Addr) (cel : List (Str × Addr)) (fp : List Addr), DE (X.blk z H scope (compEnvC scope cel C X.env) fp) cl WN elt f)
    (hsw : swapsWith (.ListComp elt [⟨tg, iter, ifs, 0⟩] scope pos) (some (.Name y py)) spos.line X.env = pure true) (hy : X.N[i]? = some y := by rfl) (hyl : X.env.scope.names.lookup y = some .local := by rfl)
    (hv : ∀ i ∈ tgL t, i ∈ own.map (·.2) := by decide) (hs : ∀ x, foldedSetIterable iter X.env x = pure x := by intro _; rfl) :
    DS X cl W (.Assign [.Name y py] (.ListComp elt [⟨tg, iter, ifs, 0⟩] scope pos) spos) (sAs (.n i) (eLc (own.map (·.2)) t s k f)) := by
  refine ⟨psImp (ps_setLc (g := gOf X.K t) (tt := tT X.K cl WN k) (te := tE X.K cl WN f) hc hN hy hyl hsw (hi.p tg) ok (fun a b c d e => (hg a b c d e).p) (fun a b c d e => (ht a b c d e).p) (fun a b c d e => (he a b c d e).p) hs) fun D σ H q => ?_⟩
  exact (fun ⟨ws, lc, h, hr, lr, q⟩ => lc_ok hv σ H _ ⟨ws, lc, h, hr, lr, q⟩) (as_ok D σ H q)
/-! ### defs -/
def fnR (ar n : Nat) (b : SS) : List D → IH → R D := fun ds h => if ds.length = ar then (match b (ds.map some ++ List.replicate (n - ds.length) none) h with
  | .nx _ h1 => .ok .non h1
  | .rt d h1 => .ok d h1
  | .ex c fs _ h1 => .ex c fs h1
  | _ => .bad) else .bad
/-- the def does what F does -/
def spI (K : PySem.W.Frag) (cl : Nat → Addr) (ar : Nat) (F : List D → IH → R D) : Sp := fun vs H Q E => vs.length = ar ∧ ∃ ws h ds, HR K cl ws h H ∧ VRs K ws H ds vs ∧ rd K cl (fun c d _ H' => E c d H') (VR K) (F ds h) ws H [] Q
theorem start_lr {K : PySem.W.Frag} {ws : List Addr} {H : Hp} {N : List Str} : ∀ {ds : List D} {vs : List V}, VRs K ws H ds vs → vs.length ≤ N.length → LR K ws H (ds.map some ++ List.replicate (N.length - ds.length) none) (L2.start N vs) := by
  intro ds vs r hl
  have e := r.len
  refine ⟨?_, fun i d hd => ?_⟩
  · unfold L2.start
    simp [e]
  · by_cases hi : i < ds.length
    · rw [List.getElem?_append_left (by simpa using hi), List.getElem?_map] at hd
      cases h : ds[i]? with
      | none => rw [h] at hd; cases hd
      | some d' =>
        rw [h] at hd
        cases hd
        obtain ⟨v, e1, e2⟩ := r.get h
        refine ⟨v, ?_, e2⟩
        unfold L2.start
        rw [List.getElem?_append_left (by simpa [e] using hi), List.getElem?_map, e1]
        rfl
    · rw [List.getElem?_append_right (by simpa using hi), List.getElem?_replicate] at hd
      split at hd <;> cases hd
theorem ok_fn {P : Program} {w : World} {K : PySem.W.Frag} {mg : Str → Option Value} {base : Heap} {x qual : Str} {st : Stmt} {f : Addr} {fd : FuncData} {N ps : List Str} {k : Nat} {b : SS} (F : Fun K x qual st f fd) (S : FnScope N ps (defScope st))
    (body : ∀ (cdv : Value) (A : Around) (outer : List Env) (s : Shared) (H : Hp) (E : XK), Room k (A.deeper (PyProof.Rows.envOfC qual (defScope st) s.heap.objs.size f cdv)) →
      DSs (cxOf (L2.CX P w) P w K mg base N qual (defScope st) f cdv A outer s H E) cl (fun c d _ H' => E c d H') (defBody st) b) :
    FnOk P w K mg base (L2.CX P w) (k + 1) f fd ps (spI K cl ps.length (fnR ps.length N.length b)) := by
  have hpl : ps.length ≤ N.length := by
    have z := congrArg List.length S.pre
    rw [List.length_take] at z
    omega
  refine F.okX S (fun vs H Q E h => h.1) fun cdv A outer s H vs Q E hr h => ⟨_, (body cdv A outer s H E hr).p, ?_⟩
  obtain ⟨hl, ws, hp, ds, hhr, r, q⟩ := h
  refine ⟨ws, _, hp, hhr, start_lr r (by omega), ?_⟩
  unfold fnR at q
  have e := r.len
  rw [if_pos (show ds.length = ps.length by omega)] at q
  cases hb : b (ds.map some ++ List.replicate (N.length - ds.length) none) hp with
  | nx e1 h1 =>
    rw [hb] at q
    exact fun ws1 H1 σ1 p1 l1 hr1 lr1 => q ws1 H1 .non p1 l1 hr1 rfl
  | rt d h1 => rw [hb] at q; exact q
  | bk e1 h1 => rw [hb] at q; exact q.elim
  | ct e1 h1 => rw [hb] at q; exact q.elim
  | ex c fs e1 h1 =>
    rw [hb] at q
    exact fun ws1 H1 σ1 dd xs p1 l1 hr1 lr1 => q ws1 H1 dd xs p1 l1 hr1
  | bad => rw [hb] at q; exact q.elim
/-- what is asked of a plain def: it has so many parameters -/
def Ar (ar : Nat) (F : List D → IH → R D) : Prop := ∀ ds h, ds.length ≠ ar → F ds h = .bad
theorem fnR_ar {ar n : Nat} {b : SS} : Ar ar (fnR ar n b) := fun ds h hl => if_neg hl
theorem call_ok {ar : Nat} {F : List D → IH → R D} {g : SA} (hA : Ar ar F) : ∀ σ H Q, tE X.K cl W (eB F g) σ H Q → tA X.K cl W g σ H fun vs H1 => spI X.K cl ar F vs H1 Q (WE W σ) := by
  intro σ H Q ⟨ws, lc, h, hr, lr, q⟩
  refine ⟨ws, lc, h, hr, lr, ?_⟩
  refine rd.seq q fun ws1 ds h1 H1 vs p1 l1 hr1 r1 q1 => ?_
  by_cases hl : ds.length = ar
  · refine ⟨by rw [r1.len, hl], ws1, h1, ds, hr1, r1, ?_⟩
    cases hf : F ds h1 with
    | ok d h2 => rw [hf] at q1; exact q1
    | ex c fs h2 => rw [hf] at q1; exact q1
    | bad => rw [hf] at q1; exact q1
  · rw [hA ds h1 hl] at q1
    exact q1.elim
theorem de_call {k : Nat} {f : Addr} {fd : FuncData} {ps : List Str} {ar : Nat} {F : List D → IH → R D} {g : SA} {x : Str} {p pos : Pos} {e : Expr} {es : List Expr} (Fo : FnOk X.prog X.w X.K X.mg X.base (L2.CX X.prog X.w) k f fd ps (spI X.K cl ar F)) (hA : Ar ar F)
    (hr : Room k X.A) (tk : Takes X W) (hm : X.mg x = some (.ref f)) (hk : PySem.W.keepIn X.K (.ref f) = true) (hb : Binds X.K fd ps []) (ha : DA X cl W (e :: es) g) (hg : Gl X x := by rfl)
    (hdb : (x == ("__debug__" : Str)) = false := by decide) (he : starEach (e :: es) X.env = (false, eval e X.env) :: starEach es X.env := by rfl) (hpl : (backTo pos (starEach es X.env)).any (·.1) = false := by rfl) :
    DE X cl W (.Call (.Name x p) (e :: es) [] pos) (eB F g) := ⟨peImp (pe_callS Fo hr hg hm hk hb (fun σ => passAt tk σ) ha.p hdb he hpl) (call_ok hA)⟩
end
end Fl
/-! Fl, part 7: errors: raised, caught (the caught one is an object of the plain heap). -/
namespace Fl
open PySem L2
/-! ### a thing of ours that stands there already is shown -/
theorem exT_ok {P : Program} {w : World} {H : Hp} {h : Heap} {a C dd : Addr} {oe : Obj} {vs : Array Value} (e : h.get? a = some oe) (c : oe.cls = .ref C) (d : oe.dict = some dd) (f : oe.data = .fields vs) : ObjOk P w H h a (exT a C dd) :=
  ⟨⟨oe, vs, e, c, d, f⟩, ⟨oe, e⟩, fun _ _ ⟨oe, vs, e, r⟩ k => ⟨oe, vs, k _ e, r⟩⟩
section
variable {X : Cx} {pins : List (Addr × Obj)} {σ : St} {H : Hp} {s : Shared}
theorem shown {a : Addr} {o : HO} (I : Inv X pins σ H s) (na : H a = none) (old : X.s_0.heap.get? a = none) (cel : ∀ x c, X.env.cells.lookup x = some c → c ≠ a) (pin : ∀ p ∈ X.pn ++ pins, p.1 ≠ a) (loc : a ≠ X.env.locals)
    (new : ObjOk X.prog X.w (upd H a o) s.heap a o) : Inv X pins σ (upd H a o) s := by
  have off : ∀ {b : Addr} {u : HO}, H b = some u → upd H a o b = some u := fun {b u} z => by
    rw [upd_ne (ne_of_none z na)]
    exact z
  have out : ∀ {b : Addr}, b ≠ a → H b = none → upd H a o b = none := fun {b} hb z => by
    rw [upd_ne hb]
    exact z
  refine ⟨I.ok, I.os, I.bare, ⟨I.base.keep, I.base.slot, fun b u z n x => ?_, I.base.there, fun b xs z => off (I.base.tups b xs z), fun b u v z => off (I.base.frzs b u v z), fun b ps z => ?_⟩, I.loc, I.cell, out (Ne.symm loc) I.free, fun x c z => out (cel x c z) (I.freeC x c z), fun p hp => ?_, fun b u z => ?_, I.len⟩
  · exact out (fun q => by rw [q, old] at z; cases z) (I.base.free b u z n x)
  · obtain ⟨m, q⟩ := I.base.tbls b ps z
    exact ⟨m, off q⟩
  · obtain ⟨h1, h2, h3⟩ := I.pin p hp
    exact ⟨h1, out (pin p hp) h2, h3⟩
  · by_cases hb : b = a
    · subst hb
      rw [upd_same] at z
      cases z
      exact new
    · rw [upd_ne hb] at z
      exact (I.hok b u z).stay (fun _ _ _ q => q) (fun _ q => off q) fun _ _ q => off q
/-- the context of an except suite, the error shown -/
abbrev hot (X : Cx) (a : Addr) (pn : List (Addr × Obj)) : Cx := { X with A := X.A.mark (some (.ref a)), calm := false, pn := pn, xe := fun _ _ => False }
theorem hotOk {a : Addr} {pn : List (Addr × Obj)} (ok : X.Ok) : (hot X a pn).Ok :=
  { mod := ok.mod, kind := ok.kind, glob := ok.glob, blt := ok.blt, above := ok.above, inj := ok.inj, has := ok.has, cab := ok.cab, hd := (fun z => absurd (show false = true from z) Bool.false_ne_true), frames := ok.frames, stk := ok.stk,
    exf := ok.exf, bs := ok.bs, bsz := ok.bsz, noex := ok.noex, exfs := ok.exfs, funs := ok.funs, frf := ok.frf }
theorem toHot {a : Addr} (I : Inv X pins σ H s) : Inv (hot X a (X.pn ++ pins)) [] σ H s :=
  { ok := hotOk I.ok, os := I.os, bare := I.bare, base := I.base, loc := I.loc, cell := I.cell, free := I.free, freeC := I.freeC, pin := fun p hp => I.pin p (by simpa using hp), hok := I.hok, len := I.len }
theorem ofHot {a : Addr} {pl : List (Addr × Obj)} (I : Inv (hot X a (X.pn ++ pins)) pl σ H s) (ok : X.Ok) : Inv X pins σ H s :=
  { ok := ok, os := I.os, bare := I.bare, base := I.base, loc := I.loc, cell := I.cell, free := I.free, freeC := I.freeC, pin := fun p hp => I.pin p (List.mem_append_left _ hp), hok := I.hok, len := I.len }
end
/-! ### try -/
/-- what is wanted behind a suite with the name in slot i -/
def unE (i : Option Nat) (D : Ends) : Ends := match i with
  | none => D
  | some i => { nx := fun σ H => D.nx (σ.set i none) H, rt := D.rt, bk := fun σ H => D.bk (σ.set i none) H, ct := fun σ H => D.ct (σ.set i none) H }
def inS (i : Option Nat) (a : Addr) (σ : St) : St := match i with
  | none => σ
  | some i => σ.set i (some (.ref a))
def wTr (K : PySem.W.Frag) (Wout : WX) (D : Ends) : List (Value × Option Nat × TS) → WX
  | [] => Wout
  | (c, i, ts) :: r => fun cls d σ H => ∃ b, PySem.W.exmOne K cls c = some b ∧ (b = true → ∃ C dd, cls = .ref C ∧ d = some dd ∧ ∀ a, H a = none → ts (unE i D) (inS i a σ) (upd H a (exT a C dd))) ∧ (b = false → wTr K Wout D r cls d σ H)
/-- the clause's name has its slot -/
def HdN (X : Cx) : Option Str → Option Nat → Prop
  | none, none => True
  | some n, some i => X.N[i]? = some n ∧ X.env.kindOf n = some .local
  | _, _ => False
inductive Hds (X : Cx) : List ExceptHandler → List (Value × Option Nat × TS) → Prop
  | nil : Hds X [] []
  | cons {x : Str} {c : Value} {nm : Option Str} {i : Option Nat} {ts : TS} {b : Stmt} {bs : List Stmt} {p q : Pos} {hds : List ExceptHandler} {l : List (Value × Option Nat × TS)} (hc : Names X x c) (hn : HdN X nm i)
      (su : ∀ (a : Addr) (pn : List (Addr × Obj)), PSs (hot X a pn) (b :: bs) ts) (r : Hds X hds l) : Hds X (.ExceptHandler (some (.Name x p)) nm (b :: bs) q :: hds) ((c, i, ts) :: l)
section
variable {X : Cx} {body : List Stmt} {hd1 : ExceptHandler} {hds : List ExceptHandler} {l : List (Value × Option Nat × TS)} {pos : Pos} {tb : WX → TS} {Wout : WX}
theorem ps_tryT (hst : X.stack = X.env :: X.outer) (hfr : X.env.frame = some X.env.locals) (hno : X.ex = []) (hN : X.N.Nodup) (tk : Takes X Wout)
    (hbody : ∀ (W : WX) (pn : List (Addr × Obj)) (xe : Value → Shared → Prop), Takes (X.tr pn xe) W → PassesOwn (model X.prog X.w) X.A X.env xe → PSs (X.tr pn xe) body (tb W)) (hhd : Hds X (hd1 :: hds) l) :
    PS X (.Try body (hd1 :: hds) [] [] pos) (fun D σ H => tb (wTr X.K Wout D l) D σ H) := by
  refine ⟨fun pins s σ H D I want => ?_⟩
  have ok := I.ok
  have frA : X.A.frames = some (X.env :: X.outer) := ok.frames.trans (by rw [hst])
  refine wpAny_Try_except (wpAny_mono ((hbody (wTr X.K Wout D l) (X.pn ++ pins) (fun er s1 => wpAny (model X.prog X.w) X.A (noteFrame er X.env) (fun _ s2 => wpAny (model X.prog X.w) X.A (setFlight er none) (fun _ s3 =>
    wpAny (model X.prog X.w) X.A (handleBy er X.env (hd1 :: hds)) (SP X pins D) X.xe s3) X.xe s2) X.xe s1) (fun er s1 air => ?_) PassesOwn.looking).run [] s σ H D (I.toTry _) want) (fun fl s1 sp => ?_) fun er s1 z => z)
  · obtain ⟨a, B, sI, pl, τ, G, cls, d, rfl, J0, ground, slots, sky, na, eos, bare, wish⟩ := air
    have J : Inv X pins τ G sI := J0.ofTry ok
    rw [show (X.tr (X.pn ++ pins) _).stack = X.env :: X.outer from hst] at sky
    refine Sky.land Zc.steady frA hfr sky fun hA flA upA => ?_
    have JA : Inv X pins τ G { s1 with heap := hA } := J.landed ground flA.1 (slots.trans upA) eos bare
    obtain ⟨oA, vA, eA, zA, dA⟩ := flA.there
    have nofr : a ∉ frs X.stack := fun hm => by
      rw [hst] at hm
      obtain ⟨_, o2, e2, q2⟩ := flA.2.2.1.mem hm
      rw [eA] at e2
      cases e2
      exact q2 _ dA
    have gone : sI.heap.get? a = none := by
      cases z : sI.heap.get? a with
      | none => rfl
      | some o2 =>
        have z2 := ground a o2 z nofr
        rw [flA.2.1] at z2
        cases z2
    have old : X.s_0.heap.get? a = none := by
      cases z : X.s_0.heap.get? a with
      | none => rfl
      | some o2 =>
        obtain ⟨o3, z3⟩ := J.base.there a o2 z (by rw [hno]; exact fun y => nomatch y)
        rw [gone] at z3
        cases z3
    have cel : ∀ x c, X.env.cells.lookup x = some c → c ≠ a := fun x c z y => by
      obtain ⟨v, o2, e2, _⟩ := J.cell x c z
      rw [y, gone] at e2
      cases e2
    have pin : ∀ p ∈ X.pn ++ pins, p.1 ≠ a := fun p hp y => by
      have e2 := (J.pin p hp).1
      rw [y, gone] at e2
      cases e2
    have loc : a ≠ X.env.locals := fun z => nofr (by
      rw [hst, z]
      exact List.mem_filterMap.mpr ⟨X.env, List.mem_cons_self, hfr⟩)
    have SA := toHot (a := a) JA
    have clauses : ∀ {hs : List ExceptHandler} {k : List (Value × Option Nat × TS)}, Hds X hs k → wTr X.K Wout D k cls d τ G →
        wpAny (model X.prog X.w) X.A (handleBy (.ref a) X.env hs) (SP X pins D) X.xe { s1 with heap := hA } := by
      intro hs k hk
      induction hk with
      | nil =>
        intro wsh
        refine wpAny_handleBy_nil ?_
        obtain ⟨_, _, _, oe, ve, T, _, _, g1, _, g3, g4, _⟩ := id flA
        unfold PySem.passOn
        refine wpAny_bind (wpAny_field g1 g3 g4 ?_)
        rw [if_neg (show ¬ (Value.ref T == Value.none) = true from by simp)]
        have up : wpAny (model X.prog X.w) X.A (setFlight (.ref a) X.env.frame) (fun _ s4 => wpAny (model X.prog X.w) X.A (throw (.ref a) : Sem Flow) (SP X pins D) X.xe s4) X.xe { s1 with heap := hA } := by
          rw [hfr]
          refine HandSPX.setFlight_upZ flA fun hB heldB upB => wpAny_throw (tk _ _ ⟨a, B, sI, pins, τ, G, cls, d, rfl, J, ground, (slots.trans upA).trans upB, .inr (.inr ?_), na, eos, bare, wsh⟩)
          rw [hst]
          exact heldB
        first
          | exact wpAny_bind up
          | exact wpAny_bind (wpAny_pure (wpAny_bind up))
      | @cons x c nm i ts b bs p q hds2 l2 hc hn su r ih =>
        intro ⟨t, ht, yes, no⟩
        refine wpAny_handleBy_cons (codeAny_handlers_test ?_) (fun z => by cases z)
        have tyA : PySem.W.Looks (model X.prog X.w) hA (typeOf (.ref a)) cls := fun A2 Q2 E2 s2 kp q2 => wpAny_typeOf_ref (kp _ _ eA) (by rw [zA.1]; exact q2)
        have cmp := PySem.W.exm_one (M := model X.prog X.w) JA.kIn tyA ht
        have name : ∀ {Q2 : Value → Shared → Prop} {E2 : Value → Shared → Prop}, Q2 c { s1 with heap := hA } → wpAny (model X.prog X.w) (X.A.mark (some (.ref a))) (eval (.Name x p) X.env) Q2 E2 { s1 with heap := hA } := by
          intro Q2 E2 q2
          obtain ⟨g1, g2, g3 | ⟨g3, g4, g5⟩⟩ := hc
          · exact ld_glob (X := hot X a (X.pn ++ pins)) SA g1 g3 q2 g2
          · exact ld_blt (X := hot X a (X.pn ++ pins)) SA g1 g3 g4 q2 g5 g2
        refine name (cmp.here ?_)
        cases t with
        | false => exact ih (no rfl)
        | true =>
          obtain ⟨C, dd, rfl, rfl, run⟩ := yes rfl
          have want2 := run a na
          -- the error stands still, then it is shown
          have go : ∀ {hB : Heap}, HandSPX.FlyingZ B (X.env :: X.outer) a (Zc (.ref C) (some dd)) hB → hA.UpToSlots hB → Inv X pins τ (upd G a (exT a C dd)) { s1 with heap := hB } := fun {hB} flB upB => by
            have JB : Inv X pins τ G { s1 with heap := hB } := J.landed ground flB.1 ((slots.trans upA).trans upB) eos bare
            obtain ⟨oB, vB, eB, zB, dB⟩ := flB.there
            exact shown JB na old cel pin loc (exT_ok eB zB.1 zB.2 dB)
          cases nm with
          | none =>
            cases i with
            | some j => exact hn.elim
            | none =>
              refine codeAny_handlers_suite (HandSPX.lands_againZ flA fun hB flB upB => ?_)
              refine wpAny_mono ((su a (X.pn ++ pins)).run [] _ _ _ _ (toHot (go flB upB)) want2) (fun fl s6 sp => ?_) fun _ _ z => z.elim
              cases fl with
              | next => obtain ⟨σ6, H6, S6, w6⟩ := sp; exact ⟨_, _, ofHot S6 ok, w6⟩
              | brk => obtain ⟨σ6, H6, S6, w6⟩ := sp; exact ⟨_, _, ofHot S6 ok, w6⟩
              | cont => obtain ⟨σ6, H6, S6, w6⟩ := sp; exact ⟨_, _, ofHot S6 ok, w6⟩
              | ret u => obtain ⟨v6, σ6, H6, S6, r6, w6⟩ := sp; exact ⟨_, _, _, ofHot S6 ok, r6, w6⟩
          | some n =>
            cases i with
            | none => exact hn.elim
            | some j =>
              obtain ⟨hj, hl⟩ := hn
              refine codeAny_handlers_suite_as (HandSPX.lands_againZ flA fun hB flB upB => ?_)
              refine store_ok (X := hot X a (X.pn ++ pins)) (v := .ref a) (toHot (go flB upB)) hN hj (.inl hl) rfl (fun s5 S5 => ?_) (.inr hl)
              refine wpAny_mono ((su a (X.pn ++ pins)).run [] s5 _ _ _ S5 want2) (fun fl s6 sp => ?_) fun _ _ z => z.elim
              have away : ∀ {σ6 : St} {H6 : Hp} {Q2 : Shared → Prop}, Inv (hot X a (X.pn ++ pins)) [] σ6 H6 s6 → (∀ s7, Inv X pins (σ6.set j none) H6 s7 → Q2 s7) →
                  wpAny (model X.prog X.w) X.A (do bindName X.env n .none; unbindBehindTheSuite X.env n q) (fun _ s7 => Q2 s7) X.xe s6 := fun S6 k2 => gone_ok (ofHot S6 ok) hN hj hl k2
              cases fl with
              | next => obtain ⟨σ6, H6, S6, w6⟩ := sp; exact away S6 fun s7 J7 => ⟨_, _, J7, w6⟩
              | brk => obtain ⟨σ6, H6, S6, w6⟩ := sp; exact away S6 fun s7 J7 => ⟨_, _, J7, w6⟩
              | cont => obtain ⟨σ6, H6, S6, w6⟩ := sp; exact away S6 fun s7 J7 => ⟨_, _, J7, w6⟩
              | ret u => obtain ⟨v6, σ6, H6, S6, r6, w6⟩ := sp; exact away S6 fun s7 J7 => ⟨_, _, _, J7, r6, w6⟩
    exact clauses hhd wish
  · cases fl with
    | next => obtain ⟨τ, G, J, w6⟩ := sp; exact wpAny_execs_nil ⟨τ, G, J.ofTry ok, w6⟩
    | brk => obtain ⟨τ, G, J, w6⟩ := sp; exact ⟨τ, G, J.ofTry ok, w6⟩
    | cont => obtain ⟨τ, G, J, w6⟩ := sp; exact ⟨τ, G, J.ofTry ok, w6⟩
    | ret u => obtain ⟨v6, τ, G, J, r6, w6⟩ := sp; exact ⟨v6, τ, G, J.ofTry ok, r6, w6⟩
end
end Fl
/-! Fl, part 8: errors over plain values. -/
namespace Fl
open PySem L2
/-! ### try -/
def unS (i : Option Nat) : RS → RS
  | .nx e h => .nx (match i with
    | none => e
    | some i => e.set i none) h
  | .bk e h => .bk (match i with
    | none => e
    | some i => e.set i none) h
  | .ct e h => .ct (match i with
    | none => e
    | some i => e.set i none) h
  | .rt d h => .rt d h
  | _ => .bad
def hdGo (sub : Nat → Nat → Option Bool) (c : Nat) (fs : List (Str × D)) : List (Nat × Option Nat × SS) → Lc → IH → RS
  | [], e, h => .ex c fs e h
  | (k, i, su) :: r, e, h => match sub c k with
    | some true => unS i (su (match i with
      | none => e
      | some i => e.set i (some (.ref h.length))) (h ++ [.exc c fs]))
    | some false => hdGo sub c fs r e h
    | none => .bad
def sTry (sub : Nat → Nat → Option Bool) (b : SS) (hs : List (Nat × Option Nat × SS)) : SS := fun e h => match b e h with
  | .ex c fs e1 h1 => hdGo sub c fs hs e1 h1
  | r => r
inductive DHds (X : Cx) (cl : Nat → Addr) : List ExceptHandler → List (Nat × Option Nat × SS) → Prop
  | nil : DHds X cl [] []
  | cons {x : Str} {k : Nat} {nm : Option Str} {i : Option Nat} {f : SS} {b : Stmt} {bs : List Stmt} {p q : Pos} {hds : List ExceptHandler} {l : List (Nat × Option Nat × SS)} (hc : Names X x (.ref (cl k))) (hn : HdN X nm i)
      (su : ∀ (a : Addr) (pn : List (Addr × Obj)), DSs (hot X a pn) cl WN (b :: bs) f) (r : DHds X cl hds l) : DHds X cl (.ExceptHandler (some (.Name x p)) nm (b :: bs) q :: hds) ((k, i, f) :: l)
section
variable {X : Cx} {cl : Nat → Addr} {W : WX}
theorem DHds.hds {hs : List ExceptHandler} {l : List (Nat × Option Nat × SS)} (h : DHds X cl hs l) : Hds X hs (l.map fun z => (.ref (cl z.1), z.2.1, tS X.K cl WN z.2.2)) := by
  induction h with
  | nil => exact .nil
  | cons hc hn su r ih => exact .cons hc hn (fun a pn => (su a pn).p) ih
theorem unS_ok {K : PySem.W.Frag} {ws : List Addr} {H : Hp} {i : Option Nat} {r : RS} {D : Ends} (q : rdS K cl W (unS i r) ws H D) : rdS K cl WN r ws H (unE i D) := by
  cases i with
  | none =>
    cases r <;> first
      | exact q
      | exact q.elim
  | some i =>
    cases r with
    | nx e h => exact fun ws' H' σ' p l hr lr => q ws' H' _ p l hr (lr.none i none)
    | bk e h => exact fun ws' H' σ' p l hr lr => q ws' H' _ p l hr (lr.none i none)
    | ct e h => exact fun ws' H' σ' p l hr lr => q ws' H' _ p l hr (lr.none i none)
    | rt d h => exact q
    | ex c fs e h => exact q.elim
    | bad => exact q
theorem hdGo_ok {sub : Nat → Nat → Option Bool} (hsub : ∀ c k b, sub c k = some b → PySem.W.exmOne X.K (.ref (cl c)) (.ref (cl k)) = some b) {c : Nat} {fs : List (Str × D)} {D : Ends} {e : Lc} {h : IH} :
    ∀ {l : List (Nat × Option Nat × SS)} {ws : List Addr} {H : Hp}, rdS X.K cl W (hdGo sub c fs l e h) ws H D → ∀ ws' H' σ' dd xs, ws <+: ws' → Le X.K H H' → HR X.K cl ws' h H' → LR X.K ws' H' e σ' → H' dd = some (.xd xs) → FR X.K ws' H' fs xs →
      wTr X.K W D (l.map fun z => (.ref (cl z.1), z.2.1, tS X.K cl WN z.2.2)) (.ref (cl c)) (some dd) σ' H'
  | [], ws, H, q, ws', H', σ', dd, xs, p, le, hr, lr, ed, fr => q ws' H' σ' dd xs p le hr lr ed fr
  | (k, i, f) :: l, ws, H, q, ws', H', σ', dd, xs, p, le, hr, lr, ed, fr => by
    unfold hdGo at q
    cases hs : sub c k with
    | none => rw [hs] at q; exact q.elim
    | some b =>
      rw [hs] at q
      refine ⟨b, hsub c k b hs, fun hb => ?_, fun hb => ?_⟩
      · subst hb
        refine ⟨cl c, dd, rfl, rfl, fun a na => ?_⟩
        have kk : Kept a H' (upd H' a (exT a (cl c) dd)) := Kept.new na
        have pa : ws' <+: ws' ++ [a] := List.prefix_append _ _
        have nd : dd ≠ a := fun z => by rw [z, na] at ed; cases ed
        have hr2 : HR X.K cl (ws' ++ [a]) (h ++ [.exc c fs]) (upd H' a (exT a (cl c) dd)) := hr.new na ⟨dd, xs, upd_same, by rw [upd_ne nd]; exact ed, fr.mono pa kk.le⟩
        have lr2 := lr.mono pa kk.le
        have q2 := unS_ok (rdS.mono (p.trans pa) (le.trans kk.le) q)
        cases i with
        | none => exact ⟨_, _, _, hr2, lr2, q2⟩
        | some i =>
          refine ⟨_, _, _, hr2, lr2.set i (d := .ref h.length) (v := .ref a) (VR.refI ?_), q2⟩
          rw [← hr.len]
          simp
      · subst hb
        exact hdGo_ok hsub q ws' H' σ' dd xs p le hr lr ed fr
theorem ds_try {body : List Stmt} {hd1 : ExceptHandler} {hds : List ExceptHandler} {l : List (Nat × Option Nat × SS)} {pos : Pos} {b : SS} {sub : Nat → Nat → Option Bool}
    (hsub : ∀ c k b, sub c k = some b → PySem.W.exmOne X.K (.ref (cl c)) (.ref (cl k)) = some b) (hN : X.N.Nodup) (tk : Takes X W)
    (hb : ∀ (W2 : WX) (pn : List (Addr × Obj)) (xe : Value → Shared → Prop), Takes (X.tr pn xe) W2 → PassesOwn (model X.prog X.w) X.A X.env xe → DSs (X.tr pn xe) cl W2 body b) (hh : DHds X cl (hd1 :: hds) l)
    (hst : X.stack = X.env :: X.outer := by rfl) (hfr : X.env.frame = some X.env.locals := by rfl) (hno : X.ex = [] := by rfl) : DS X cl W (.Try body (hd1 :: hds) [] [] pos) (sTry sub b l) := by
  refine ⟨psImp (ps_tryT (tb := fun W2 => tS X.K cl W2 b) hst hfr hno hN tk (fun W2 pn xe t2 po => (hb W2 pn xe t2 po).p) hh.hds) fun D σ H ⟨ws, lc, h, hr, lr, q⟩ => ⟨ws, lc, h, hr, lr, ?_⟩⟩
  unfold sTry at q
  cases hbb : b lc h with
  | nx e1 h1 => rw [hbb] at q; exact q
  | rt d h1 => rw [hbb] at q; exact q
  | bk e1 h1 => rw [hbb] at q; exact q
  | ct e1 h1 => rw [hbb] at q; exact q
  | ex c fs e1 h1 =>
    rw [hbb] at q
    exact fun ws' H' σ' dd xs p le hr' lr' ed fr => hdGo_ok hsub q ws' H' σ' dd xs p le hr' lr' ed fr
  | bad => rw [hbb] at q; exact q
/-! ### a field of an error -/
def tXr (K : PySem.W.Frag) (n : Str) (te : TE) : TE := fun σ H Q => te σ H fun x H1 => ∃ a C dd fs v, x = .ref a ∧ H1 a = some (exT a C dd) ∧ XfC K C ∧ PySem.W.findIn K (.ref C) n = some none ∧ H1 dd = some (.xd fs) ∧ fs.lookup n = some v ∧ Q v H1
theorem exT_at {P : Program} {w : World} {H : Hp} {h : Heap} {a C dd : Addr} (hok : HOk P w H h) (e : H a = some (exT a C dd)) : ∃ (oe : Obj) (vs : Array Value), h.get? a = some oe ∧ oe.cls = .ref C ∧ oe.dict = some dd ∧ oe.data = .fields vs := by
  have z : ObjOk P w H h a (exT a C dd) := hok a _ e
  exact z.1
theorem pe_xr {e : Expr} {te : TE} {pos : Pos} {n : Str} (he : PE X e te) (hb : attributeBase e n X.env (eval e X.env) = eval e X.env := by rfl) : PE X (.Attribute e n pos) (tXr X.K n te) := by
  refine ⟨fun pins s σ H Q I want => attr_of hb (thn (he.run pins s σ H _ I want) fun u s1 got => ?_)⟩
  obtain ⟨x, H1, I1, rx, a, C, dd, fs, v, rfl, ea, T, no, ed, lk, q⟩ := got
  obtain rfl : u = Value.ref a := rx
  obtain ⟨oe, vs, h1, h2, h3, h4⟩ := exT_at I1.hok ea
  have xd : ObjOk X.prog X.w H1 s1.heap dd (.xd fs) := I1.hok dd _ ed
  obtain ⟨mA, ns, rel⟩ := xd
  obtain ⟨od, ho, look⟩ := lookIn_ns ns
  obtain ⟨u2, hu, ru⟩ := RelO.some_of (v := v) (o := mA n) (by rw [← lk]; exact rel n)
  have at_ : PySem.W.InstAt s1.heap a oe C (some od) := ⟨h1, h2, by unfold PySem.W.notCls; rw [h4] <;> rfl, by rw [h3]; exact ho⟩
  have own := PySem.W.findObj_own T.hdC no rfl (by rw [look, hu])
  exact HandSPX.exc_get I1.kIn at_ T.ga T.gg T.exC own (handed_of ru) ⟨v, H1, I1.tok _, ru, q⟩
/-- n of an error of one of the first m classes -/
def eXr (m : Nat) (n : Str) (f : SE) : SE := fun e h => (f e h).bind fun d h1 => match d with
  | .ref k => (match h1[k]? with
    | some (.exc c fs) => if c < m then (match fs.lookup n with
      | some z => .ok z h1
      | none => .bad) else .bad
    | _ => .bad)
  | _ => .bad
theorem de_xr {m : Nat} {e : Expr} {pos : Pos} {n : Str} {f : SE} (hm : ∀ c, c < m → XfC X.K (cl c) ∧ PySem.W.findIn X.K (.ref (cl c)) n = some none) (he : DE X cl W e f)
    (hb : attributeBase e n X.env (eval e X.env) = eval e X.env := by rfl) : DE X cl W (.Attribute e n pos) (eXr m n f) := by
  refine ⟨peImp (pe_xr he.p hb) fun σ H Q ⟨ws, lc, h, hr, lr, q⟩ => ⟨ws, lc, h, hr, lr, ?_⟩⟩
  refine rd.seq q fun ws1 d h1 H1 v p1 l1 hr1 r1 q1 => ?_
  split at q1
  · rename_i k
    split at q1
    · rename_i c fs hk
      split at q1
      · rename_i hc
        split at q1
        · rename_i z hz
          obtain ⟨a, rfl, ea⟩ := r1
          obtain ⟨dd, xs, e1, e2, fr⟩ := hr1.ob k _ a hk ea
          obtain ⟨y, ey, ry⟩ := fr.look hz
          exact ⟨a, cl c, dd, xs, y, rfl, e1, (hm c hc).1, (hm c hc).2, e2, ey, q1.now hr1 ry⟩
        · exact q1.elim
      · exact q1.elim
    · exact q1.elim
  · exact q1.elim
/-! ### raise X(..), X with an __init__ that only keeps its arguments -/
/-- __init__ keeps its arguments as the fields fl -/
def spX (C : Addr) (fl : List Str) : Sp := fun vs H Q _ => ∃ a xs, vs = .ref a :: xs ∧ xs.length = fl.length ∧ H a = some (exo a C none) ∧ ∀ d, H d = none → d ≠ a → Q .non (upd (upd H d (exd d (fl.zip xs).reverse)) a (exo a C (some d)))
structure XCls (K : PySem.W.Frag) (C fI : Addr) : Prop where
  T : OexC K C
  i : PySem.W.findIn K (.ref C) "__init__" = some (some (.ref fI))
  t : PySem.W.typeIn K (.ref fI) = some (.type "function")
section
variable {P : Program} {w : World} {K : PySem.W.Frag} {mg : Str → Option Value} {base : Heap} {C : Addr}
theorem ok_x1 {qual f : Str} {st : Stmt} {fI : Addr} {fd : FuncData} {s : Str} (F : Fun K "__init__" qual st fI fd) (S : FnScope [s, f] [s, f] (defScope st)) (T : OexC K C) (no : PySem.W.findIn K (.ref C) f = some none)
    (body : ∀ (cdv : Value) (A : Around) (outer : List Env) (z : Shared) (H : Hp) (E : XK), PSs ((cxOf CX0 P w K mg base [s, f] qual (defScope st) fI cdv A outer z H E).nox) (defBody st) (tOst K f (tVar 0) (tVar 1))) :
    FnOk P w K mg base CX0 1 fI fd [s, f] (spX C [f]) := by
  refine F.ok S (fun vs H Q E h => ?_) fun cdv A outer z H vs Q E hr h => ⟨_, body cdv A outer z H E, ?_⟩
  · obtain ⟨a, xs, rfl, hl, _⟩ := h
    simp only [List.length_cons, hl]
  · obtain ⟨a, xs, rfl, hl, ea, k⟩ := h
    match xs, hl with
    | [x], _ => exact ⟨x, rfl, .ref a, rfl, a, C, rfl, T, no, .inl ⟨ea, fun dx n ne => k dx n ne⟩⟩
theorem ok_x2 {qual f g : Str} {st : Stmt} {fI : Addr} {fd : FuncData} {s : Str} (F : Fun K "__init__" qual st fI fd) (S : FnScope [s, f, g] [s, f, g] (defScope st)) (T : OexC K C) (no : PySem.W.findIn K (.ref C) f = some none) (no2 : PySem.W.findIn K (.ref C) g = some none)
    (body : ∀ (cdv : Value) (A : Around) (outer : List Env) (z : Shared) (H : Hp) (E : XK), PSs ((cxOf CX0 P w K mg base [s, f, g] qual (defScope st) fI cdv A outer z H E).nox) (defBody st) (tSeq (tOst K f (tVar 0) (tVar 1)) (tOst K g (tVar 0) (tVar 2)))) :
    FnOk P w K mg base CX0 1 fI fd [s, f, g] (spX C [f, g]) := by
  refine F.ok S (fun vs H Q E h => ?_) fun cdv A outer z H vs Q E hr h => ⟨_, body cdv A outer z H E, ?_⟩
  · obtain ⟨a, xs, rfl, hl, _⟩ := h
    simp only [List.length_cons, hl]
  · obtain ⟨a, xs, rfl, hl, ea, k⟩ := h
    match xs, hl with
    | [x, y], _ =>
      refine ⟨x, rfl, .ref a, rfl, a, C, rfl, T, no, .inl ⟨ea, fun dx n ne => ?_⟩⟩
      refine ⟨y, rfl, .ref a, rfl, a, C, rfl, T, no2, .inr ⟨dx, [(f, x)], upd_same, by rw [upd_ne ne, upd_same], (by show 1 ≤ 900; decide), ?_⟩⟩
      have e : upd (upd (upd H dx (exd dx [(f, x)])) a (exo a C (some dx))) dx (exd dx ((g, y) :: [(f, x)])) = upd (upd H dx (exd dx ([f, g].zip [x, y]).reverse)) a (exo a C (some dx)) := by
        funext b
        by_cases h1 : b = dx
        · subst h1
          rw [upd_same, upd_ne ne, upd_same]
          rfl
        · rw [upd_ne h1]
          by_cases h2 : b = a
          · subst h2
            rw [upd_same, upd_same]
          · rw [upd_ne h2, upd_ne h1, upd_ne h2, upd_ne h1]
      show Q V.non _
      rw [e]
      exact k dx n ne
end
theorem FR.app {K : PySem.W.Frag} {ws : List Addr} {H : Hp} : ∀ {a b : List (Str × D)} {x y : List (Str × V)}, FR K ws H a x → FR K ws H b y → FR K ws H (a ++ b) (x ++ y)
  | [], _, _, _, h, t => by cases h; exact t
  | _ :: _, _, _, _, h, t => by
    obtain ⟨x, r, rfl, h1, h2⟩ := h
    exact ⟨x, _, rfl, h1, FR.app h2 t⟩
theorem FR.rev {K : PySem.W.Frag} {ws : List Addr} {H : Hp} : ∀ {a : List (Str × D)} {x : List (Str × V)}, FR K ws H a x → FR K ws H a.reverse x.reverse
  | [], _, h => by cases h; rfl
  | p :: _, _, h => by
    obtain ⟨x, r, rfl, h1, h2⟩ := h
    rw [List.reverse_cons, List.reverse_cons]
    exact FR.app (FR.rev h2) (show FR K ws H [p] [(p.1, x)] from ⟨x, [], rfl, h1, rfl⟩)
theorem FR.zip {K : PySem.W.Frag} {ws : List Addr} {H : Hp} : ∀ {fl : List Str} {ds : List D} {xs : List V}, VRs K ws H ds xs → FR K ws H (fl.zip ds) (fl.zip xs)
  | [], _, _, _ => by simp [FR]
  | _ :: _, [], _, r => by cases r; simp [FR]
  | f :: fl, d :: ds, _, r => by
    obtain ⟨x, t, rfl, r1, r2⟩ := r
    exact ⟨x, fl.zip t, rfl, r1, FR.zip r2⟩
theorem xd_eq {H : Hp} {a d C : Addr} {fs : List (Str × V)} (na : H a = none) (ne : d ≠ a) :
    upd (del (upd (upd (upd H a (exo a C none)) d (exd d fs)) a (exo a C (some d))) a) d (.xd fs) = upd H d (.xd fs) := by
  funext b
  by_cases h1 : b = d
  · subst h1
    rw [upd_same, upd_same]
  · rw [upd_ne h1, upd_ne h1]
    by_cases h2 : b = a
    · subst h2
      rw [del_same, na]
    · rw [del_ne h2, upd_ne h2, upd_ne h1, upd_ne h2]
def sRs (c : Nat) (fl : List Str) (g : SA) : SS := fun e h => (g e h).st e fun ds h1 => if ds.length = fl.length ∧ fl.length ≤ 1000 then .ex c (fl.zip ds).reverse e h1 else .bad
theorem ds_raise {k : Nat} {fI : Addr} {fd : FuncData} {ps : List Str} {c : Nat} {fl : List Str} {x : Str} {a : Expr} {es : List Expr} {g : SA} {p pos pos2 : Pos} (hc : X.calm = true) (T : XCls X.K (cl c) fI) (F : FnOk X.prog X.w X.K X.mg X.base CX0 k fI fd ps (spX (cl c) fl))
    (hr : Room (k + 1) X.A) (hb : Binds X.K fd ps []) (hm : X.mg x = some (.ref (cl c))) (tk : Takes X W) (ha : DA X cl W (a :: es) g) (hg : Gl X x := by rfl) (hdb : (x == ("__debug__" : Str)) = false := by decide)
    (he : starEach (a :: es) X.env = (false, eval a X.env) :: starEach es X.env := by rfl) (hpl : (backTo pos (starEach es X.env)).any (·.1) = false := by rfl) : DS X cl W (.Raise (some (.Call (.Name x p) (a :: es) [] pos)) none pos2) (sRs c fl g) := by
  refine ⟨psImp (ps_raise hc tk (pmk_oex T.T T.i T.t F hr hb .nil pass0 hg hm ha.p hdb he hpl)) fun D σ H ⟨ws, lc, h, hhr, lr, q⟩ => ⟨ws, lc, h, hhr, lr, ?_⟩⟩
  refine rdS.seq q lr fun ws1 ds h1 H1 vs p1 l1 hr1 r1 q1 => ?_
  split at q1
  · rename_i hz
    refine ⟨by rw [r1.len]; omega, fun b nb => ⟨b, vs, by rw [List.append_nil], by rw [r1.len]; exact hz.1, upd_same, fun d nd ne => ⟨rfl, d, _, upd_same, by rw [upd_ne ne, upd_same], by rw [upd_ne ne] at nd; exact nd, ?_⟩⟩⟩
    rw [upd_ne ne] at nd
    rw [xd_eq nb ne]
    have kk : Kept d H1 (upd H1 d (.xd (fl.zip vs).reverse)) := Kept.new nd
    exact q1 ws1 _ σ d _ (List.prefix_refl _) kk.le (hr1.keep kk (hr1.free nd)) ((lr.mono p1 l1).mono (List.prefix_refl _) kk.le) upd_same ((FR.rev (FR.zip r1)).mono (List.prefix_refl _) kk.le)
  · exact q1.elim
end
end Fl
/-! Fl, part 9: an error made with values and keywords: kept as a value, or raised. -/
namespace PySem.FlX
open PySem Sem PySem.HandSPX
section
variable {M : Model} {A : Around} {E : Value → Shared → Prop} {h : Heap}
variable {g : Array GenState} {d : Drawn} {t : Nat} {os : OsState} {k0 k1 k2 k3 k5 : Option Value}
variable {nm q : Str} {C N : Addr} {bs bm mb : List Value} {hdct : Bool} {sn : List Str} {sub : List Value} {ab : Bool} {col : Option Bool} {dd : Option Addr} {B nId iId : String}
theorem chkNew (F : ExcBaseFacts B nId iId mb) (hT : ∀ Y : String, bm.contains (.type Y) = mb.contains (.type Y)) {rest : List Value} {kw : List (Str × Value)} {Q : Unit → Shared → Prop}
    (cls : h.get? C = some (excClassObj nm q C N bs bm hdct sn sub ab col dd k0 k1 k2 k3 k5 nId)) (fin : Q () ⟨h, g, d, t, os⟩) : wpAny M A (checkBuiltinCall nId ⟨.ref C :: rest, kw⟩) Q E ⟨h, g, d, t, os⟩ := by
  have inB : (Value.ref C :: bm).contains (.type B) = true := by rw [List.contains_cons, hT, F.hasB, Bool.or_true]
  have noStar := F.noStar
  simp only [checkBuiltinCall, F.newSplit, F.newKind, F.newRow]
  repeat (first | refine wpAny_loadPart_at cls ?_ | (refine wpAny_isSubtype_exc cls ?_; rw [inB]) | refine wpAny_staticBase_exc cls ?_ | refine wpAny_madeBy_exc cls ?_ | simp only [bne_self_eq_false, Bool.false_eq_true, if_false] | wp_step)
  exact fin
theorem chkTop {rest : List Value} {kw : List (Str × Value)} {Q : Unit → Shared → Prop} (cls : h.get? C = some (excClassObj nm q C N bs bm hdct sn sub ab col dd k0 k1 k2 k3 k5 nId))
    (fin : Q () ⟨h, g, d, t, os⟩) : wpAny M A (checkBuiltinCall "type.__call__" ⟨.ref C :: rest, kw⟩) Q E ⟨h, g, d, t, os⟩ := by
  have f3 := tc_sub
  have isT : (⟨h, g, d, t, os⟩ : Shared).TypeIs (.ref C) "type" := ⟨_, cls, rfl⟩
  simp only [tc_split, tc_kind, checkBuiltinCall]
  repeat (any_goals (first | assumption | with_reducible refine wpAny_loadPart_at cls ?_ | with_reducible refine wpAny_onRaise ?_ | with_reducible refine wpAny_map ?_ | wp_step))
end
section
variable {prog : Program} {w : World} {A : Around} {E : Value → Shared → Prop} {R : Result → Shared → Prop} {h : Heap}
variable {g : Array GenState} {d : Drawn} {t : Nat} {os : OsState} {k0 k1 k2 k3 k5 : Option Value}
variable {nm q : Str} {C N : Addr} {bs bm mb : List Value} {hdct : Bool} {sn : List Str} {sub : List Value} {ab : Bool} {col : Option Bool} {dd : Option Addr} {B nId iId : String}
theorem bare (F : ExcBaseFacts B nId iId mb) (hT : ∀ Y : String, bm.contains (.type Y) = mb.contains (.type Y)) {rest : List Value} {kw : List (Str × Value)}
    (cls : h.get? C = some (excClassObj nm q C N bs bm hdct sn sub ab col dd k0 k1 k2 k3 k5 nId))
    (fin : R (.ok (.ret (.ref (h.objs.size + 1)))) ⟨(h.push { cls := .type "tuple", data := .seq rest.toArray }).push
      { cls := .ref C, data := .fields #[.ref h.objs.size, .none, .none, .none, .bool false, .none] }, g, d, t, os⟩) (few : rest.length ≤ sizeLine) :
    codeAny (model prog w) A (.builtin nId ⟨.ref C :: rest, kw⟩) R ⟨h, g, d, t, os⟩ := by
  have ends := F.ends
  have inB : (Value.ref C :: bm).contains (.type B) = true := by rw [List.contains_cons, hT, F.hasB, Bool.or_true]
  have inA : (Value.ref C :: bm).contains (.type "AttributeError") = false := by rw [List.contains_cons, hT, F.noAttr]; rfl
  have inN : (Value.ref C :: bm).contains (.type "NameError") = false := by rw [List.contains_cons, hT, F.noName]; rfl
  refine codeAny_builtinAt (F.entry) ?_
  unfold PySem.Builtin.«BaseException.__new__»
  refine wpAt_bind ?_
  refine (show wpAt _ _ _ (stack >>= _) _ _ _ from wpAt_bind (wpAt_stack fun p1 l1 => wpAt_of_wpAny ?_))
  wp_walk
  refine wpAt_of_wpAny ?_
  rw [F.owner]
  repeat (first | with_reducible refine wpAny_madeHere_exc F.canon cls ?_ | with_reducible refine wpAny_loadPart_at cls ?_ | (with_reducible refine wpAny_isSubtype_exc cls ?_; first | rw [inB] | rw [inA] | rw [inN]) | wp_step)
  show R _ _
  rw [Heap.size_push]
  exact fin
theorem inner (F : ExcBaseFacts B nId iId mb) (hT : ∀ Y : String, bm.contains (.type Y) = mb.contains (.type Y)) {rest : List Value} {kw : List (Str × Value)} {fI : Addr} {Q : Fin → Shared → Prop}
    (cls : h.get? C = some (excClassObj nm q C N bs bm hdct sn sub ab col dd k0 k1 k2 k3 k5 nId))
    (ini : W.Looks (model prog w) h (typeLookup (.ref C) "__init__") (some (.ref fI))) (bnd : ∀ self, W.Looks (model prog w) h (bindSpecial (.ref fI) self) (.ref fI, [self])) (few : rest.length ≤ sizeLine)
    (run : codeAny (model prog w) A (.call (.ref fI) ⟨.ref (h.objs.size + 1) :: rest, kw⟩)
      (fun r s' => match r with | .error e => E e s' | .ok (.ret v) => v = .none ∧ Q (.done (.ret (.ref (h.objs.size + 1)))) s' | .ok _ => False)
      (Shared.mk ((h.push (W.kdv_tup rest)).push (excO C h.objs.size)) g d t os)) :
    wpAny (model prog w) A (Builtin.«type.__call__» ⟨.ref C :: rest, kw⟩) Q E ⟨h, g, d, t, os⟩ := by
  repeat (first | with_reducible refine wpAny_loadPart_at cls ?_ | with_reducible refine wpAny_madeBy_exc cls ?_ | wp_step)
  refine codeAny_call_builtin_code (Code.quiet_builtin _ F.quiet) (chkNew F hT cls ?_)
  refine bare F hT cls ?_ few
  show wpAny _ _ _ _ _ _
  have kk : ∀ b o, h.get? b = some o → ((h.push (W.kdv_tup rest)).push (excO C h.objs.size)).get? b = some o := fun b o e => Heap.get?_push_of_some _ (Heap.get?_push_of_some _ e)
  have cls1 := kk _ _ cls
  have got : ((h.push (W.kdv_tup rest)).push (excO C h.objs.size)).get? (h.objs.size + 1) = some (excO C h.objs.size) := by heap_get
  have self1 : (Value.ref C :: bm).contains (.ref C) = true := by simp
  have i1 := ini.keeps kk
  have b1 := (bnd (.ref (h.objs.size + 1))).keeps kk
  unfold isInstance
  repeat (first | with_reducible refine wpAny_loadPart_at got ?_ | (with_reducible refine wpAny_isSubtype_exc cls1 ?_; rw [self1]) | wp_step)
  refine (show wpAny _ _ (typeLookup (.ref C) _) _ _ _ from i1.at ?_)
  refine wpAny_holding (wpAny_bind (b1.at (wpAny_bind (wpAny_call (codeAny_mono run fun r s' z => ?_)))))
  rcases r with er | (u | _ | _ | _) <;> first | exact z | exact z.elim | skip
  obtain ⟨rfl, z⟩ := z
  first
    | (exact wpAny_pure (wpAny_pure z))
    | (wp_walk; exact z)
theorem outer (F : ExcBaseFacts B nId iId mb) (hT : ∀ Y : String, bm.contains (.type Y) = mb.contains (.type Y)) {rest : List Value} {kw : List (Str × Value)} {fI : Addr}
    (cls : h.get? C = some (excClassObj nm q C N bs bm hdct sn sub ab col dd k0 k1 k2 k3 k5 nId))
    (ini : W.Looks (model prog w) h (typeLookup (.ref C) "__init__") (some (.ref fI))) (bnd : ∀ self, W.Looks (model prog w) h (bindSpecial (.ref fI) self) (.ref fI, [self])) (few : rest.length ≤ sizeLine)
    (run : codeAny (model prog w) (A.under (.builtin "type.__call__" ⟨.ref C :: rest, kw⟩)) (.call (.ref fI) ⟨.ref (h.objs.size + 1) :: rest, kw⟩) (W.InitBack (h.objs.size + 1) R)
      (Shared.mk ((h.push (W.kdv_tup rest)).push (excO C h.objs.size)) g d t os)) :
    codeAny (model prog w) A (.call (.ref C) ⟨rest, kw⟩) R (Shared.mk h g d t os) := by
  have f1 := tc_lookup
  have f2 := tc_bind (.ref C)
  have isTy : (⟨h, g, d, t, os⟩ : Shared).TypeIs (.ref C) "type" := ⟨_, cls, rfl⟩
  refine codeAny_of_tree (show wpAny _ _ (callAny (.ref C) _) _ _ _ from ?_)
  repeat (any_goals (first | assumption | with_reducible refine wpAny_loadPart_at cls ?_ | wp_step))
  refine ⟨rfl, ?_⟩
  refine codeAny_call_builtin_at (Code.quiet_builtin _ (by decide +kernel)) entry_typeCall (chkTop cls (inner F hT cls ini bnd few ?_))
  refine codeAny_mono run fun r s' z => ?_
  rcases r with er | (u | _ | _ | _) <;> exact z
end
end PySem.FlX
/-! Fl, part 10: an error made with values and keywords: kept as a value, or raised. -/
namespace Fl
open PySem L2
section
variable {X : Cx} {CX : CXT} {k n : Nat} {C fI : Addr} {fd : FuncData} {ps ks : List Str} {sp : Sp} {gg : List Value → List Value → List Value} {gV : List V → List V → List V}
theorem oex_run {pins : List (Addr × Obj)} {σ : St} {H1 : Hp} {hp : Heap} {g : Array GenState} {dr : Drawn} {tk : Nat} {os : OsState} {P2 : Addr → Addr → List (Str × V) → Hp → Prop} {Qf : Value → Shared → Prop} {us ws : List Value} {vs zs : List V}
    (T : OexC X.K C) (iC : PySem.W.findIn X.K (.ref C) "__init__" = some (some (.ref fI))) (tI : PySem.W.typeIn X.K (.ref fI) = some (.type "function")) (F1 : FnOk X.prog X.w X.K X.mg X.base CX k fI fd ps sp) (hr : Room (k + 1) X.A)
    (hb : KBn X.K fd ps (n + 1) ks gg gV) (hx : Passes CX X (fun _ _ _ => False)) (I1 : Inv X pins σ H1 ⟨hp, g, dr, tk, os⟩) (r1 : Vals vs us) (rz : Vals zs ws) (l1 : vs.length = n) (l2 : zs.length = ks.length) (few : n ≤ 1000)
    (hq : ∀ a, H1 a = none → sp (gV (.ref a :: vs) zs) (upd H1 a (exo a C none)) (fun v H2 => v = .non ∧ ∃ (d : Addr) (fs : List (Str × V)), H2 a = some (exo a C (some d)) ∧ H2 d = some (exd d fs) ∧ H1 d = none ∧ P2 a d fs H2) (fun _ _ _ => False))
    (fin : ∀ a d fs H2 hp2 h2 g2 d2 t2 os2, hp.objs.size ≤ a → (∀ b o, hp.get? b = some o → hp2.get? b = some o) → Un (frs X.stack) [] (upd H1 a (exo a C none)) H2 hp2 h2 → HOk X.prog X.w H2 h2 → os2 = os → PyProof.Rows.AllBare g2 →
      H2 a = some (exo a C (some d)) → H2 d = some (exd d fs) → H1 d = none → P2 a d fs H2 → Qf (.ref a) ⟨h2, g2, d2, t2, os2⟩) :
    wpAny (model X.prog X.w) X.A (call (.ref C) us (ks.zip ws)) Qf X.xe ⟨hp, g, dr, tk, os⟩ := by
  obtain ⟨nm, q, N, bs, bm, sn, sub, ab, col, dd, k0, k1, k2, k3, k5, cls, bmr⟩ := T.cls
  have up1 : hp.objs.size ≤ hp.objs.size + 1 := Nat.le_succ _
  have nn : H1 (hp.objs.size + 1) = none := I1.hok.fresh up1
  have want := hq (hp.objs.size + 1) nn
  have kk : ∀ p o, hp.get? p = some o → ((hp.push (PySem.W.kdv_tup us)).push (PySem.HandSPX.excO C hp.objs.size)).get? p = some o := fun b o e => Heap.get?_push_of_some _ (Heap.get?_push_of_some _ e)
  have got : ((hp.push (PySem.W.kdv_tup us)).push (PySem.HandSPX.excO C hp.objs.size)).get? (hp.objs.size + 1) = some (PySem.HandSPX.excO C hp.objs.size) := by heap_get
  have I2 : Inv X pins σ (upd H1 (hp.objs.size + 1) (exo (hp.objs.size + 1) C none)) (Shared.mk ((hp.push (PySem.W.kdv_tup us)).push (PySem.HandSPX.excO C hp.objs.size)) g dr tk os) :=
    I1.laid (t' := tk) (a := hp.objs.size + 1) (o := exo (hp.objs.size + 1) C none) (h' := (hp.push (PySem.W.kdv_tup us)).push (PySem.HandSPX.excO C hp.objs.size)) kk up1 (exo_ok got)
  have r3 : Vals (V.ref (hp.objs.size + 1) :: vs) (Value.ref (hp.objs.size + 1) :: us) := .cons rfl r1
  have r2 := hb.rel r3 rz
  have n1 : (Value.ref (hp.objs.size + 1) :: us).length = n + 1 := by rw [List.length_cons, ← r1.length, l1]
  have few2 : us.length ≤ sizeLine := by
    rw [← r1.length, l1, sizeLine_eq]
    omega
  refine wpAny_call (PySem.FlX.outer F.excBase_ValueError (fun Y => PySem.HandSPX.refsVE_contains Y bm bmr) (I1.kIn _ _ cls) (PySem.W.looks_findIn I1.kIn iC) (fun self => PySem.W.bind_fn I1.kIn self tI) few2
    (codeAny_mono (F1.run _ X.stack _ _ ⟨Value.ref (hp.objs.size + 1) :: us, ks.zip ws⟩ (gg (Value.ref (hp.objs.size + 1) :: us) ws) _ _ (fun _ _ _ => False) (hr.make C us (ks.zip ws)) (I2.env0.make C us (ks.zip ws))
      (hb.to _ (Value.ref (hp.objs.size + 1) :: us) ws I2.kIn n1 (rz.length.symm.trans l2)) r2 want) fun r s' back => ?_))
  cases r with
  | error er => exact hx pins σ _ _ er s' I2 back
  | ok fl =>
    cases fl with
    | ret u =>
      obtain ⟨v, H2, os2, bare2, un2, hok2, rv, ev, d, fs, ea, ed, hd1, q2⟩ := back
      subst ev
      obtain ⟨h2, g2, d2, t2, os3⟩ := s'
      exact ⟨rv, fin _ d fs H2 _ h2 g2 d2 t2 os3 up1 kk un2 hok2 os2 bare2 ea ed hd1 q2⟩
    | next => exact back.elim
    | brk => exact back.elim
    | cont => exact back.elim
/-- made and kept -/
def tXn (C : Addr) (n m : Nat) (sp : Sp) (gV : List V → List V → List V) (t tk : TA) : TE := fun σ H Q => t σ H fun vs H1 => tk σ H1 fun zs H2 => vs.length = n ∧ zs.length = m ∧
  ∀ a, H2 a = none → sp (gV (.ref a :: vs) zs) (upd H2 a (exo a C none)) (fun v H3 => v = .non ∧ ∃ (d : Addr) (fs : List (Str × V)), H3 a = some (exo a C (some d)) ∧ H3 d = some (exd d fs) ∧ H2 d = none ∧ Q (.ref a) (upd (upd (del H3 a) d (.xd fs)) a (exT a C d))) (fun _ _ _ => False)
/-- made and raised -/
def tXm (C : Addr) (n m : Nat) (sp : Sp) (gV : List V → List V → List V) (t tk : TA) : St → Hp → XK → Prop := fun σ H Q => t σ H fun vs H1 => tk σ H1 fun zs H2 => vs.length = n ∧ zs.length = m ∧
  ∀ a, H2 a = none → sp (gV (.ref a :: vs) zs) (upd H2 a (exo a C none)) (fun v H3 => v = .non ∧ ∃ (d : Addr) (fs : List (Str × V)), H3 a = some (exo a C (some d)) ∧ H3 d = some (exd d fs) ∧ H2 d = none ∧ Q (.ref C) (some d) (upd (del H3 a) d (.xd fs))) (fun _ _ _ => False)
theorem kept_fin {pins : List (Addr × Obj)} {σ : St} {H1 : Hp} {hp : Heap} {g : Array GenState} {dr : Drawn} {tk : Nat} {os : OsState} {Q : VK} (I1 : Inv X pins σ H1 ⟨hp, g, dr, tk, os⟩) : ∀ a d fs H2 hp2 h2 g2 d2 t2 os2, hp.objs.size ≤ a → (∀ b o, hp.get? b = some o → hp2.get? b = some o) → Un (frs X.stack) [] (upd H1 a (exo a C none)) H2 hp2 h2 → HOk X.prog X.w H2 h2 → os2 = os → PyProof.Rows.AllBare g2 →
      H2 a = some (exo a C (some d)) → H2 d = some (exd d fs) → H1 d = none → Q (.ref a) (upd (upd (del H2 a) d (.xd fs)) a (exT a C d)) → EP X pins σ Q (.ref a) ⟨h2, g2, d2, t2, os2⟩ := by
  intro a d fs H2 hp2 h2 g2 d2 t2 os2 up1 kk un hok ho bare ea ed nd q
  obtain ⟨t0, G, J, kG, ge, hoe, na⟩ := mk_end0 (d2 := d2) (t2 := t2) I1 up1 kk un hok ho bare ea ed nd
  exact ⟨.ref a, _, J.laidN (t' := t2) kG ge na (exT_ok hoe rfl rfl rfl), rfl, q⟩
variable {x : Str} {e : Expr} {es : List Expr} {kws : List Keyword} {p pos : Pos} {t tk : TA}
theorem pe_xnK0 (T : OexC X.K C) (iC : PySem.W.findIn X.K (.ref C) "__init__" = some (some (.ref fI))) (tI : PySem.W.typeIn X.K (.ref fI) = some (.type "function")) (F1 : FnOk X.prog X.w X.K X.mg X.base CX k fI fd ps sp) (hr : Room (k + 1) X.A)
    (hb : KBn X.K fd ps 1 ks gg gV) (hx : Passes CX X (fun _ _ _ => False)) (hg : Gl X x) (hm : X.mg x = some (.ref C)) (kw : PK X kws tk)
    (hall : (backToKw pos (keywordEach kws X.env)).all (·.1.isSome) = true := by rfl) (nms : (backToKw pos (keywordEach kws X.env)).filterMap (·.1) = ks := by rfl) (hdb : (x == ("__debug__" : Str)) = false := by decide)
    (hpl : ((backTo pos (starEach [] X.env)).any (·.1) || (backToKw pos (keywordEach kws X.env)).any (·.1.isNone)) = false := by rfl) :
    PE X (.Call (.Name x p) [] kws pos) (tXn C 0 ks.length sp gV tNil tk) := by
  refine ⟨fun pins s σ H Q I want => wpAny_Call_Name_kw (ld_glob I hg hm ?_ hdb)⟩
  refine PySem.W.callWith_KW0 (h₀ := X.base) I.ok.mod.kin T.kC hall (thn (kw.run pos pins s σ H _ I want) fun ws s2 ⟨zs, H2, I2, rz, l1, l2, q2⟩ => ⟨I2.kIn, ?_⟩) hpl
  rw [nms]
  obtain ⟨hp, g, dr, tk, os⟩ := s2
  show wpAny _ _ (call (.ref C) [] (ks.zip ws)) _ _ _
  exact oex_run (us := []) (vs := []) T iC tI F1 hr hb hx I2 .nil rz rfl l2 (Nat.zero_le _) q2 (kept_fin I2)
theorem pe_xnK (T : OexC X.K C) (iC : PySem.W.findIn X.K (.ref C) "__init__" = some (some (.ref fI))) (tI : PySem.W.typeIn X.K (.ref fI) = some (.type "function")) (F1 : FnOk X.prog X.w X.K X.mg X.base CX k fI fd ps sp) (hr : Room (k + 1) X.A)
    (hb : KBn X.K fd ps (n + 1) ks gg gV) (few : n ≤ 1000) (hx : Passes CX X (fun _ _ _ => False)) (hg : Gl X x) (hm : X.mg x = some (.ref C)) (ha : PA X (e :: es) t) (kw : PK X kws tk)
    (hall : (backToKw pos (keywordEach kws X.env)).all (·.1.isSome) = true := by rfl) (nms : (backToKw pos (keywordEach kws X.env)).filterMap (·.1) = ks := by rfl) (hdb : (x == ("__debug__" : Str)) = false := by decide)
    (he : starEach (e :: es) X.env = (false, eval e X.env) :: starEach es X.env := by rfl) (hpl : ((backTo pos (starEach (e :: es) X.env)).any (·.1) || (backToKw pos (keywordEach kws X.env)).any (·.1.isNone)) = false := by rfl) :
    PE X (.Call (.Name x p) (e :: es) kws pos) (tXn C n ks.length sp gV t tk) := by
  refine ⟨fun pins s σ H Q I want => wpAny_Call_Name_kw (ld_glob I hg hm ?_ hdb)⟩
  refine PySem.W.callWith_KW (h₀ := X.base) I.ok.mod.kin T.kC hall (thn (ha.run pos pins s σ H _ I want) fun us s1 ⟨vs, H1, I1, r, q⟩ => ?_) hpl he
  refine thn (kw.run pos pins s1 σ H1 _ I1 q) fun ws s2 ⟨zs, H2, I2, rz, l1, l2, q2⟩ => ⟨I2.kIn, ?_⟩
  rw [nms]
  obtain ⟨hp, g, dr, tk, os⟩ := s2
  show wpAny _ _ (call (.ref C) us (ks.zip ws)) _ _ _
  exact oex_run T iC tI F1 hr hb hx I2 r rz l1 l2 few q2 (kept_fin I2)
theorem pe_xn (T : OexC X.K C) (iC : PySem.W.findIn X.K (.ref C) "__init__" = some (some (.ref fI))) (tI : PySem.W.typeIn X.K (.ref fI) = some (.type "function")) (F1 : FnOk X.prog X.w X.K X.mg X.base CX k fI fd ps sp) (hr : Room (k + 1) X.A)
    (hb : KBn X.K fd ps (n + 1) [] gg gV) (few : n ≤ 1000) (hx : Passes CX X (fun _ _ _ => False)) (hg : Gl X x) (hm : X.mg x = some (.ref C)) (ha : PA X (e :: es) t)
    (hdb : (x == ("__debug__" : Str)) = false := by decide) (he : starEach (e :: es) X.env = (false, eval e X.env) :: starEach es X.env := by rfl) (hpl : (backTo pos (starEach es X.env)).any (·.1) = false := by rfl) :
    PE X (.Call (.Name x p) (e :: es) [] pos) (tXn C n 0 sp gV t tNil) := by
  refine ⟨fun pins s σ H Q I want => wpAny_Call_Name_kw (ld_glob I hg hm ?_ hdb)⟩
  refine PySem.W.callWith_K (h₀ := X.base) I.ok.mod.kin T.kC (thn (ha.run pos pins s σ H _ I want) fun us s1 ⟨vs, H1, I1, r, l1, l2, q1⟩ => ⟨I1.kIn, ?_⟩) he hpl
  obtain ⟨hp, g, dr, t1, os⟩ := s1
  show wpAny _ _ (call (.ref C) us []) _ _ _
  exact oex_run (ws := []) (zs := []) T iC tI F1 hr hb hx I1 r .nil l1 rfl few q1 (kept_fin I1)
theorem pmk_xnK0 (T : OexC X.K C) (iC : PySem.W.findIn X.K (.ref C) "__init__" = some (some (.ref fI))) (tI : PySem.W.typeIn X.K (.ref fI) = some (.type "function")) (F1 : FnOk X.prog X.w X.K X.mg X.base CX k fI fd ps sp) (hr : Room (k + 1) X.A)
    (hb : KBn X.K fd ps 1 ks gg gV) (hx : Passes CX X (fun _ _ _ => False)) (hg : Gl X x) (hm : X.mg x = some (.ref C)) (kw : PK X kws tk)
    (hall : (backToKw pos (keywordEach kws X.env)).all (·.1.isSome) = true := by rfl) (nms : (backToKw pos (keywordEach kws X.env)).filterMap (·.1) = ks := by rfl) (hdb : (x == ("__debug__" : Str)) = false := by decide)
    (hpl : ((backTo pos (starEach [] X.env)).any (·.1) || (backToKw pos (keywordEach kws X.env)).any (·.1.isNone)) = false := by rfl) :
    PMk X (.Call (.Name x p) [] kws pos) (tXm C 0 ks.length sp gV tNil tk) := by
  refine fun pins s σ H Q I want => wpAny_Call_Name_kw (ld_glob I hg hm ?_ hdb)
  refine PySem.W.callWith_KW0 (h₀ := X.base) I.ok.mod.kin T.kC hall (thn (kw.run pos pins s σ H _ I want) fun ws s2 ⟨zs, H2, I2, rz, l1, l2, q2⟩ => ⟨I2.kIn, ?_⟩) hpl
  rw [nms]
  obtain ⟨hp, g, dr, tk, os⟩ := s2
  show wpAny _ _ (call (.ref C) [] (ks.zip ws)) _ _ _
  exact oex_run (us := []) (vs := []) T iC tI F1 hr hb hx I2 .nil rz rfl l2 (Nat.zero_le _) q2 fun a d fs H2 hp2 h2 g2 d2 t2 os2 up1 kk un hok ho bare ea ed nd q => mk_end (raises_own T.exC T.tyC) I2 up1 kk un hok ho bare ea ed nd q
theorem pmk_xnK (T : OexC X.K C) (iC : PySem.W.findIn X.K (.ref C) "__init__" = some (some (.ref fI))) (tI : PySem.W.typeIn X.K (.ref fI) = some (.type "function")) (F1 : FnOk X.prog X.w X.K X.mg X.base CX k fI fd ps sp) (hr : Room (k + 1) X.A)
    (hb : KBn X.K fd ps (n + 1) ks gg gV) (few : n ≤ 1000) (hx : Passes CX X (fun _ _ _ => False)) (hg : Gl X x) (hm : X.mg x = some (.ref C)) (ha : PA X (e :: es) t) (kw : PK X kws tk)
    (hall : (backToKw pos (keywordEach kws X.env)).all (·.1.isSome) = true := by rfl) (nms : (backToKw pos (keywordEach kws X.env)).filterMap (·.1) = ks := by rfl) (hdb : (x == ("__debug__" : Str)) = false := by decide)
    (he : starEach (e :: es) X.env = (false, eval e X.env) :: starEach es X.env := by rfl) (hpl : ((backTo pos (starEach (e :: es) X.env)).any (·.1) || (backToKw pos (keywordEach kws X.env)).any (·.1.isNone)) = false := by rfl) :
    PMk X (.Call (.Name x p) (e :: es) kws pos) (tXm C n ks.length sp gV t tk) := by
  refine fun pins s σ H Q I want => wpAny_Call_Name_kw (ld_glob I hg hm ?_ hdb)
  refine PySem.W.callWith_KW (h₀ := X.base) I.ok.mod.kin T.kC hall (thn (ha.run pos pins s σ H _ I want) fun us s1 ⟨vs, H1, I1, r, q⟩ => ?_) hpl he
  refine thn (kw.run pos pins s1 σ H1 _ I1 q) fun ws s2 ⟨zs, H2, I2, rz, l1, l2, q2⟩ => ⟨I2.kIn, ?_⟩
  rw [nms]
  obtain ⟨hp, g, dr, tk, os⟩ := s2
  show wpAny _ _ (call (.ref C) us (ks.zip ws)) _ _ _
  exact oex_run T iC tI F1 hr hb hx I2 r rz l1 l2 few q2 fun a d fs H2 hp2 h2 g2 d2 t2 os2 up1 kk un hok ho bare ea ed nd q => mk_end (raises_own T.exC T.tyC) I2 up1 kk un hok ho bare ea ed nd q
end
end Fl
/-! Fl, part 11: isinstance of an error that carries a dict; errors made, over plain values. -/
namespace PySem.FlX
open PySem PySem.W PySem.Spec PySem.Calls PyProof.Rows
section
variable {prog : Program} {w : World} {A : Around} {E : Value → Shared → Prop} {s : Shared} {K : Frag} {x D : Addr} {ox : Obj}
theorem dataN {C : Addr} {od : Option Obj} {nm : Str} {a g : Value} (hc : (clsIn K C).isSome = true) (ha : findIn K (.ref C) nm = some (some a)) (hg : specialIn K a "__get__" = some (some g)) (ht : takesIn K a = some true) : findObj K C od nm = some (.bind g a) := by
  obtain ⟨cd, hc⟩ := Option.isSome_iff_exists.mp hc
  unfold findObj
  rw [hc, Option.bind_some, ha, Option.bind_some]
  simp [ht, hg]
theorem classOf {od : Option Obj} {Q : Option Value → Shared → Prop} (T : L2.ExcC K D) (X : K.In s.heap) (I : InstAt s.heap x ox D od) (k : Q (some (.ref D)) { s with toks := s.toks + 1 }) : wpAny (model prog w) A (getAttr? (.ref x) "__class__") Q E s := by
  have isC : (clsIn K D).isSome = true := by obtain ⟨cd, hc, _⟩ := any_some T.hd; rw [hc]; rfl
  have hf : findObj K D od "__class__" = some (.bind (.builtin "getset_descriptor.__get__") (.builtin "object.__class__")) := dataN isC T.ha T.hn T.ht
  obtain ⟨hp, g, d, t, os⟩ := s
  have l0 := I.type (M := model prog w)
  have l1 := looks_findIn (M := model prog w) X T.hg
  have l2 := looks_findIn (M := model prog w) X T.hk
  have l3 := looks_find (M := model prog w) X I hf
  have sub : Looks (model prog w) hp (isInstance (.ref x) (.type "BaseException")) true := l0.andThen (looks_subIn X T.hs)
  have n0 : (false && onTheHeap (Value.builtin "BaseException.__getattribute__")) = false := rfl
  have n2 : (Value.builtin "BaseException.__getattribute__" == Value.builtin "object.__getattribute__") = false := by decide +kernel
  have n1 : (onTheHeap (Value.ref D) && Value.builtin "BaseException.__getattribute__" == Value.builtin "object.__getattribute__") = false := by rw [n2]; rfl
  unfold getAttr? getAttrBy? getAttrBy
  refine wpAny_bind (wpAny_mkText (wpAny_bind (wpAny_attempt (wpAny_holding (wpAny_bind (l0.at (wpAny_bind (l1.at ?_))))))))
  refine (show wpAny _ _ (if (onTheHeap (Value.ref D) && Value.builtin "BaseException.__getattribute__" == Value.builtin "object.__getattribute__") = true then _ else _) _ _ _ from ?_)
  rw [n1, if_neg Bool.false_ne_true]
  unfold getAttrByItsOwn hookBefore
  refine wpAny_bind (?_)
  rw [if_pos (show onTheHeap (Value.ref D) = true by rfl)]
  refine l2.at (wpAny_bind (wpAny_attempt (wpAny_holding ?_)))
  unfold callGetattribute
  rw [n0, if_neg Bool.false_ne_true]
  unfold boundAndCalled
  rw [PySem.F.excAttr_ValueError.ga.bind (Value.ref x)]
  refine wpAny_bind (wpAny_pure (show wpAny _ _ (call (.builtin "BaseException.__getattribute__") [.ref x, .str "__class__" t]) _ _ _ from ?_))
  refine wpAny_call (codeAny_call_builtin (PySem.F.excAttr_ValueError.ga.plain) PySem.F.entry_bexc_ga ?_)
  refine @check_slot (model prog w) _ _ ⟨hp, g, d, t + 1, os⟩ "BaseException.__getattribute__" "BaseException" "__getattribute__" (.ref x) [Value.str "__class__" t] [] _ (by decide +kernel) (by decide +kernel) sub (PySem.F.args_bexc_ga (.ref x) (.str "__class__" t)) ?_
  unfold PySem.Builtin.«object.__getattribute__»
  refine wpAny_bind (wpAny_of_eq (a := ((Value.ref x : Value), [Value.str "__class__" t])) (by first | rfl | (simp only [slotArgs]; rfl)) (wpAny_bind (wpAny_pure (wpAny_bind (l0.at (wpAny_bind (l3.at ?_)))))))
  refine (show wpAny _ _ (holding [Value.builtin "object.__class__"] (call (.builtin "getset_descriptor.__get__") [.builtin "object.__class__", .ref x, .ref D]) >>= ret) _ _ _ from ?_)
  refine wpAny_bind (wpAny_holding (wpAny_call (class_get (s := ⟨hp, g, d, t + 1, os⟩) (ox := ox) (od := od) X I T.hm (wpAny_pure ?_))))
  refine (show wpAny _ _ (handedOut (.ref D)) _ _ _ from ?_)
  rw [handedOut_of (v := Value.ref D) rfl]
  first
    | exact wpAny_pure k
    | exact wpAny_pure (wpAny_pure k)
    | exact wpAny_pure (wpAny_bind (wpAny_pure (wpAny_pure k)))
theorem kitx (T : L2.ExcC K D) : KitX K (.ref x) (.ref D) (fun h => ∃ ox od, InstAt h x ox D od) where
  ty := fun _ _ _ ⟨_, _, I⟩ => I.type
  it := fun _ _ X _ => by
    obtain ⟨cd, hc, _⟩ := any_some T.hd
    unfold clsIn at hc
    split at hc
    · rename_i c1 d1 e1 s1 ho
      intro A' Q' E' s' k q
      unfold isType loadHead
      exact wpAny_bind (wpAny_loadPart (k _ _ (X _ _ ho)) (wpAny_pure q))
    · cases hc
  ne := fun h tp dd its n sl X htp => by
    obtain ⟨cd, hc, _⟩ := any_some T.hd
    refine Bool.eq_false_iff.mpr fun q => ?_
    have e : D = tp := Value.ref.inj (beq_iff_eq.mp q)
    subst e
    unfold clsIn at hc
    split at hc
    · rename_i c1 d1 e1 s1 ho
      have z := (X _ _ ho).symm.trans htp
      cases z
    · cases hc
  ca := fun X ⟨_, _, I⟩ k => classOf T X I k
end
end PySem.FlX
namespace Fl
open PySem L2
/-! ### isinstance of an error -/
def rIsX (K : PySem.W.Frag) : List V → Hp → VK → Prop := fun xs H Q => ∃ (a C dd : Addr) (fs : List (Str × V)) (c : V) (cv : Value) (b : Bool), xs = [.ref a, c] ∧ H a = some (exT a C dd) ∧ H dd = some (.xd fs) ∧ ExcC K C ∧ (∀ u, RelV c u → u = cv) ∧ PySem.W.kitOne K (.ref C) cv = some b ∧ Q (.bl b) H
section
variable {X : Cx} {cl : Nat → Addr} {W : WX}
theorem call_isX : CallR X (.builtin "isinstance") (rIsX X.K) := by
  intro pins s σ H xs us Q I r want
  obtain ⟨a, C, dd, fs, c, cv, b, rfl, ea, ed, T, only, e, q⟩ := want
  cases r with
  | cons rx rr =>
    cases rr with
    | cons rt rr =>
      cases rr
      cases rx
      have ec := only _ rt
      subst ec
      obtain ⟨oe, vs, h1, h2, h3, h4⟩ := exT_at I.hok ea
      have xd : ObjOk X.prog X.w H s.heap dd (.xd fs) := I.hok dd _ ed
      obtain ⟨mA, ns, _⟩ := xd
      obtain ⟨od, ho, _⟩ := lookIn_ns ns
      have at_ : PySem.W.InstAt s.heap a oe C (some od) := ⟨h1, h2, by unfold PySem.W.notCls; rw [h4] <;> rfl, by rw [h3]; exact ho⟩
      exact PySem.W.kia_one (PySem.FlX.kitx T) I.kIn ⟨oe, _, at_⟩ e (fun z => nomatch z) fun tk => ⟨.bl b, H, I.kept (t' := tk) fun _ _ z => z, rfl, q⟩
def eIsx (isx : Nat → Option Bool) (f : SE) : SE := fun e h => (f e h).bind fun d h1 => match d with
  | .ref k => (match h1[k]? with
    | some (.exc c fs) => (match isx c with
      | some b => .ok (.bl b) h1
      | none => .bad)
    | _ => .bad)
  | _ => .bad
theorem de_isx {isx : Nat → Option Bool} {n : Str} {u : Value} {v : V} {p p2 pos : Pos} {a : Expr} {f : SE} (hx : ∀ c b, isx c = some b → ExcC X.K (cl c) ∧ PySem.W.kitOne X.K (.ref (cl c)) u = some b) (rv : ∀ u', RelV v u' → u' = u) (hn : PE X (.Name n p2) (tC v))
    (hg : Gl X "isinstance") (hm : X.mg "isinstance" = none) (ha : DE X cl W a f)
    (he : starEach (a :: [.Name n p2]) X.env = (false, eval a X.env) :: starEach [.Name n p2] X.env := by rfl) (hpl : (backTo pos (starEach [.Name n p2] X.env)).any (·.1) = false := by rfl) :
    DE X cl W (.Call (.Name "isinstance" p) [a, .Name n p2] [] pos) (eIsx isx f) := by
  refine ⟨peImp (pe_callB call_isX hg hm (by decide +kernel) (pa_cons ha.p (pa_cons hn pa_nil) he) (by decide) (by decide) he hpl) fun σ H Q ⟨ws, lc, h, hr, lr, q⟩ => ⟨ws, lc, h, hr, lr, ?_⟩⟩
  refine rd.seq q fun ws1 d h1 H1 x p1 l1 hr1 r1 q1 => ?_
  split at q1
  · rename_i k
    split at q1
    · rename_i c fs hk
      split at q1
      · rename_i b hb
        obtain ⟨a2, rfl, ea⟩ := r1
        obtain ⟨dd, xs, e1, e2, fr⟩ := hr1.ob k _ a2 hk ea
        obtain ⟨T, e⟩ := hx c b hb
        exact ⟨a2, cl c, dd, xs, v, u, b, rfl, e1, e2, T, rv, e, q1.now hr1 rfl⟩
      · exact q1.elim
    · exact q1.elim
  · exact q1.elim
/-! ### keywords -/
structure DK (X : Cx) (cl : Nat → Addr) (W : WX) (kws : List Keyword) (f : SA) : Prop where
  p : PK X kws (tA X.K cl W f)
theorem pkImp {kws : List Keyword} {t u : TA} (h : PK X kws t) (i : ∀ σ H Q, u σ H Q → t σ H Q) : PK X kws u := ⟨fun pos pins s σ H Q I q => h.run pos pins s σ H Q I (i σ H Q q)⟩
theorem dk_nil : DK X cl W [] aNil := ⟨pkImp pk_nil fun σ H Q ⟨ws, e, h, hr, lr, q⟩ => q.now hr rfl⟩
theorem dk_cons {nm : Option Str} {e : Expr} {kpos : Pos} {kws : List Keyword} {f : SE} {g : SA} (h1 : DE X cl W e f) (h2 : DK X cl W kws g) : DK X cl W (⟨nm, e, kpos⟩ :: kws) (aCons f g) := by
  refine ⟨pkImp (pk_cons h1.p h2.p) fun σ H Q ⟨ws, lc, h, hr, lr, q⟩ => ⟨ws, lc, h, hr, lr, ?_⟩⟩
  refine rd.seq q fun ws1 d h1 H1 v p1 l1 hr1 r1 q1 => ⟨ws1, lc, h1, hr1, lr.mono p1 l1, ?_⟩
  exact rd.seq q1 fun ws2 ds h2 H2 vs p2 l2 hr2 r2 q2 => q2.now hr2 ⟨v, vs, rfl, r1.mono p2 l2, r2⟩
/-! ### the order of the parameters -/
def pick {α : Type} (ix : List Nat) (l : List α) : List α := ix.filterMap fun i => l[i]?
theorem VRs.pick {K : PySem.W.Frag} {ws : List Addr} {H : Hp} {ds : List D} {xs : List V} (h : VRs K ws H ds xs) : ∀ ix : List Nat, VRs K ws H (pick ix ds) (pick ix xs)
  | [] => rfl
  | i :: ix => by
    unfold Fl.pick
    cases e : ds[i]? with
    | none =>
      have e2 : xs[i]? = none := by
        rw [List.getElem?_eq_none_iff] at e ⊢
        rw [h.len]
        exact e
      rw [List.filterMap_cons_none e, List.filterMap_cons_none e2]
      exact VRs.pick h ix
    | some d =>
      obtain ⟨x, e2, r⟩ := h.get e
      rw [List.filterMap_cons_some e, List.filterMap_cons_some e2]
      exact ⟨x, _, rfl, r, VRs.pick h ix⟩
theorem Vals.pick {xs : List V} {us : List Value} (h : Vals xs us) : ∀ ix : List Nat, Vals (pick ix xs) (pick ix us)
  | [] => .nil
  | i :: ix => by
    unfold Fl.pick
    have hl := h.length
    cases e : xs[i]? with
    | none =>
      have e2 : us[i]? = none := by
        rw [List.getElem?_eq_none_iff] at e ⊢
        omega
      rw [List.filterMap_cons_none e, List.filterMap_cons_none e2]
      exact Vals.pick h ix
    | some d =>
      obtain ⟨u, e2, r⟩ : ∃ u, us[i]? = some u ∧ RelV d u := by
        clear hl
        induction h generalizing i with
        | nil => simp at e
        | cons a t ih =>
          cases i with
          | zero => simp at e; subst e; exact ⟨_, rfl, a⟩
          | succ j => exact ih j (by simpa using e)
      rw [List.filterMap_cons_some e, List.filterMap_cons_some e2]
      exact .cons r (Vals.pick h ix)
def gP {α : Type} (ix : List Nat) (us ws : List α) : List α := us.take 1 ++ pick ix (us.drop 1 ++ ws)
/-- how __init__ is called: n values, keywords ks; ix: where each field's value stands -/
theorem kbx {K : PySem.W.Frag} {qual : Str} {st : Stmt} {f : Addr} {fd : FuncData} {ps ks : List Str} {n : Nat} {ix : List Nat} (F : Fun K "__init__" qual st f fd)
    (h : ∀ (kV doc pm : Value) (an : Option Addr) (cdv ct : Value) (us ws : List Value), us.length = n + 1 → ws.length = ks.length → bindArgs (PySem.W.fnOf "__init__" qual (defArgs st) (defBody st) (defScope st) .none kV doc pm an cdv ct) ⟨us, ks.zip ws⟩ = pure (ps.zip (gP ix us ws))) :
    KBn K fd ps (n + 1) ks (gP ix) (gP ix) := by
  obtain ⟨oc, od, kV, doc, pm, an, cdv, ct, osl, rfl, lk, cd⟩ := F.ex
  exact ⟨fun s us ws _ l1 l2 => .of_eq (h kV doc pm an cdv ct us ws l1 l2), fun r1 r2 => (r1.take 1).append (Vals.pick ((r1.drop 1).append r2) ix)⟩
def eXn (c n m : Nat) (fl : List Str) (ix : List Nat) (g gk : SA) : SE := fun e h => (g e h).bind fun ds h1 => (gk e h1).bind fun zs h2 =>
  if ds.length = n ∧ zs.length = m ∧ (pick ix (ds ++ zs)).length = fl.length then .ok (.ref h2.length) (h2 ++ [.exc c (fl.zip (pick ix (ds ++ zs))).reverse]) else .bad
def sXn (c n m : Nat) (fl : List Str) (ix : List Nat) (g gk : SA) : SS := fun e h => ((g e h).bind fun ds h1 => (gk e h1).bind fun zs h2 =>
  if ds.length = n ∧ zs.length = m ∧ (pick ix (ds ++ zs)).length = fl.length then R.ex c (fl.zip (pick ix (ds ++ zs))).reverse h2 else (.bad : R D)).st e fun _ _ => .bad
theorem gP_cons {α : Type} (ix : List Nat) (a : α) (us ws : List α) : gP ix (a :: us) ws = a :: pick ix (us ++ ws) := rfl
section
variable {C : Addr} {n m : Nat} {fl : List Str} {ix : List Nat} {g gk : SA} {c : Nat}
theorem xn_ok (hn : n ≤ 1000) : ∀ σ H Q, tE X.K cl W (eXn c n m fl ix g gk) σ H Q → tXn (cl c) n m (spX (cl c) fl) (gP ix) (tA X.K cl W g) (tA X.K cl W gk) σ H Q := by
  intro σ H Q ⟨ws, lc, h, hr, lr, q⟩
  refine ⟨ws, lc, h, hr, lr, ?_⟩
  refine rd.seq q fun ws1 ds h1 H1 vs p1 l1 hr1 r1 q1 => ⟨ws1, lc, h1, hr1, lr.mono p1 l1, ?_⟩
  refine rd.seq q1 fun ws2 zs h2 H2 us p2 l2 hr2 r2 q2 => ?_
  split at q2
  · rename_i hz
    have rp : VRs X.K ws2 H2 (pick ix (ds ++ zs)) (pick ix (vs ++ us)) := ((r1.mono p2 l2).append r2).pick ix
    refine ⟨by rw [r1.len]; exact hz.1, by rw [r2.len]; exact hz.2.1, fun a na => ⟨a, _, gP_cons ix _ vs us, by rw [rp.len]; exact hz.2.2, upd_same, fun d nd ne => ⟨rfl, d, _, upd_same, by rw [upd_ne ne, upd_same], by rw [upd_ne ne] at nd; exact nd, ?_⟩⟩⟩
    rw [upd_ne ne] at nd
    rw [xd_eq na ne]
    have kk : Kept d H2 (upd H2 d (.xd (fl.zip (pick ix (vs ++ us))).reverse)) := Kept.new nd
    have na2 : upd H2 d (.xd (fl.zip (pick ix (vs ++ us))).reverse) a = none := by rw [upd_ne (Ne.symm ne)]; exact na
    have ka : Kept a (upd H2 d (.xd (fl.zip (pick ix (vs ++ us))).reverse)) (upd (upd H2 d (.xd (fl.zip (pick ix (vs ++ us))).reverse)) a (exT a (cl c) d)) := Kept.new na2
    have hr3 := hr2.keep kk (hr2.free nd)
    have pa : ws2 <+: ws2 ++ [a] := List.prefix_append _ _
    refine q2 (ws2 ++ [a]) _ _ pa (kk.le.trans ka.le) (hr3.new na2 ⟨d, _, upd_same, by rw [upd_ne ne, upd_same], (FR.rev (FR.zip rp)).mono pa (kk.le.trans ka.le)⟩) (VR.refI ?_)
    rw [← hr2.len]
    simp
  · exact q2.elim
theorem xr_ok {De : Ends} : ∀ σ H, tS X.K cl W (sXn c n m fl ix g gk) De σ H → tXm (cl c) n m (spX (cl c) fl) (gP ix) (tA X.K cl W g) (tA X.K cl W gk) σ H (fun cls d H' => W cls d σ H') := by
  intro σ H ⟨ws, lc, h, hr, lr, q⟩
  refine ⟨ws, lc, h, hr, lr, ?_⟩
  have q' : rd X.K cl W (VR X.K) ((g lc h).bind fun ds h1 => (gk lc h1).bind fun zs h2 => if ds.length = n ∧ zs.length = m ∧ (pick ix (ds ++ zs)).length = fl.length then R.ex c (fl.zip (pick ix (ds ++ zs))).reverse h2 else (.bad : R D)) ws H σ (fun _ _ => False) :=
    rdS.seq q lr fun _ _ _ _ _ _ _ _ _ z => (show False from z)
  clear q
  refine rd.seq q' fun ws1 ds h1 H1 vs p1 l1 hr1 r1 q1 => ⟨ws1, lc, h1, hr1, lr.mono p1 l1, ?_⟩
  refine rd.seq q1 fun ws2 zs h2 H2 us p2 l2 hr2 r2 q2 => ?_
  split at q2
  · rename_i hz
    have rp : VRs X.K ws2 H2 (pick ix (ds ++ zs)) (pick ix (vs ++ us)) := ((r1.mono p2 l2).append r2).pick ix
    refine ⟨by rw [r1.len]; exact hz.1, by rw [r2.len]; exact hz.2.1, fun a na => ⟨a, _, gP_cons ix _ vs us, by rw [rp.len]; exact hz.2.2, upd_same, fun d nd ne => ⟨rfl, d, _, upd_same, by rw [upd_ne ne, upd_same], by rw [upd_ne ne] at nd; exact nd, ?_⟩⟩⟩
    rw [upd_ne ne] at nd
    rw [xd_eq na ne]
    have kk : Kept d H2 (upd H2 d (.xd (fl.zip (pick ix (vs ++ us))).reverse)) := Kept.new nd
    exact q2 ws2 _ d _ (List.prefix_refl _) kk.le (hr2.keep kk (hr2.free nd)) upd_same ((FR.rev (FR.zip rp)).mono (List.prefix_refl _) kk.le)
  · exact q2.elim
variable {k : Nat} {fI : Addr} {fd : FuncData} {ps ks : List Str} {x : Str} {a : Expr} {es : List Expr} {kws : List Keyword} {p pos pos2 : Pos}
/-- X(e, ..) -/
theorem de_xn (T : XCls X.K (cl c) fI) (F : FnOk X.prog X.w X.K X.mg X.base CX0 k fI fd ps (spX (cl c) fl)) (hr : Room (k + 1) X.A) (hb : KBn X.K fd ps (n + 1) [] (gP ix) (gP ix)) (hn : n ≤ 1000) (hm : X.mg x = some (.ref (cl c))) (ha : DA X cl W (a :: es) g) (hg : Gl X x := by rfl)
    (hdb : (x == ("__debug__" : Str)) = false := by decide) (he : starEach (a :: es) X.env = (false, eval a X.env) :: starEach es X.env := by rfl) (hpl : (backTo pos (starEach es X.env)).any (·.1) = false := by rfl) :
    DE X cl W (.Call (.Name x p) (a :: es) [] pos) (eXn c n 0 fl ix g aNil) :=
  ⟨peImp (pe_xn T.T T.i T.t F hr hb hn pass0 hg hm ha.p hdb he hpl) fun σ H Q q => by
    obtain ⟨ws, lc, h, hr, lr, q⟩ := xn_ok (X := X) hn σ H Q q
    refine ⟨ws, lc, h, hr, lr, rd.imp q fun vs H1 z => ?_⟩
    obtain ⟨ws2, lc2, h2, hr2, lr2, q2⟩ := z
    exact q2.now hr2 rfl⟩
/-- X(f = e, ..) -/
theorem de_xnK0 (T : XCls X.K (cl c) fI) (F : FnOk X.prog X.w X.K X.mg X.base CX0 k fI fd ps (spX (cl c) fl)) (hr : Room (k + 1) X.A) (hb : KBn X.K fd ps 1 ks (gP ix) (gP ix)) (hm : X.mg x = some (.ref (cl c))) (hk : DK X cl W kws gk) (hg : Gl X x := by rfl)
    (hall : (backToKw pos (keywordEach kws X.env)).all (·.1.isSome) = true := by rfl) (nms : (backToKw pos (keywordEach kws X.env)).filterMap (·.1) = ks := by rfl) (hdb : (x == ("__debug__" : Str)) = false := by decide)
    (hpl : ((backTo pos (starEach [] X.env)).any (·.1) || (backToKw pos (keywordEach kws X.env)).any (·.1.isNone)) = false := by rfl) :
    DE X cl W (.Call (.Name x p) [] kws pos) (eXn c 0 ks.length fl ix aNil gk) :=
  ⟨peImp (pe_xnK0 T.T T.i T.t F hr hb pass0 hg hm hk.p hall nms hdb hpl) fun σ H Q q => by
    obtain ⟨ws, lc, h, hr, lr, q⟩ := xn_ok (X := X) (Nat.zero_le _) σ H Q q
    exact q.now hr rfl⟩
/-- raise X(f = e, ..) -/
theorem ds_xrK0 (hc : X.calm = true) (tk : Takes X W) (T : XCls X.K (cl c) fI) (F : FnOk X.prog X.w X.K X.mg X.base CX0 k fI fd ps (spX (cl c) fl)) (hr : Room (k + 1) X.A) (hb : KBn X.K fd ps 1 ks (gP ix) (gP ix)) (hm : X.mg x = some (.ref (cl c))) (hk : DK X cl W kws gk) (hg : Gl X x := by rfl)
    (hall : (backToKw pos (keywordEach kws X.env)).all (·.1.isSome) = true := by rfl) (nms : (backToKw pos (keywordEach kws X.env)).filterMap (·.1) = ks := by rfl) (hdb : (x == ("__debug__" : Str)) = false := by decide)
    (hpl : ((backTo pos (starEach [] X.env)).any (·.1) || (backToKw pos (keywordEach kws X.env)).any (·.1.isNone)) = false := by rfl) :
    DS X cl W (.Raise (some (.Call (.Name x p) [] kws pos)) none pos2) (sXn c 0 ks.length fl ix aNil gk) :=
  ⟨psImp (ps_raise hc tk (pmk_xnK0 T.T T.i T.t F hr hb pass0 hg hm hk.p hall nms hdb hpl)) fun D σ H q => by
    obtain ⟨ws, lc, h, hr, lr, q⟩ := xr_ok (X := X) σ H q
    exact q.now hr rfl⟩
/-- raise X(e, .., f = e, ..) -/
theorem ds_xrK (hc : X.calm = true) (tk : Takes X W) (T : XCls X.K (cl c) fI) (F : FnOk X.prog X.w X.K X.mg X.base CX0 k fI fd ps (spX (cl c) fl)) (hr : Room (k + 1) X.A) (hb : KBn X.K fd ps (n + 1) ks (gP ix) (gP ix)) (hn : n ≤ 1000) (hm : X.mg x = some (.ref (cl c)))
    (ha : DA X cl W (a :: es) g) (hk : DK X cl W kws gk) (hg : Gl X x := by rfl)
    (hall : (backToKw pos (keywordEach kws X.env)).all (·.1.isSome) = true := by rfl) (nms : (backToKw pos (keywordEach kws X.env)).filterMap (·.1) = ks := by rfl) (hdb : (x == ("__debug__" : Str)) = false := by decide)
    (he : starEach (a :: es) X.env = (false, eval a X.env) :: starEach es X.env := by rfl) (hpl : ((backTo pos (starEach (a :: es) X.env)).any (·.1) || (backToKw pos (keywordEach kws X.env)).any (·.1.isNone)) = false := by rfl) :
    DS X cl W (.Raise (some (.Call (.Name x p) (a :: es) kws pos)) none pos2) (sXn c n ks.length fl ix g gk) :=
  ⟨psImp (ps_raise hc tk (pmk_xnK T.T T.i T.t F hr hb hn pass0 hg hm ha.p hk.p hall nms hdb he hpl)) fun D σ H q => xr_ok (X := X) σ H q⟩
end
end
end Fl
/-! Fl, part 12: defs that may be called in an except suite too (nothing of their body minds what is being handled). -/
namespace Fl
open PySem L2
structure RoomA (k : Nat) (A : Around) : Prop where
  dp : A.depth + 3 * k + 5 < recursionLimit
  un : A.units + 16 * k + 200 < cLine
theorem RoomA.of {k : Nat} {A : Around} (r : Room k A) : RoomA k A := ⟨r.dp, r.un⟩
theorem RoomA.hot {k : Nat} {X : Cx} (r : Room k X.A) (a : Addr) (pn : List (Addr × Obj)) : RoomA k (hot X a pn).A := ⟨r.dp, r.un⟩
theorem RoomA.le {j k : Nat} {A : Around} (r : RoomA k A) (h : j ≤ k) : RoomA j A := ⟨by have z := r.dp; omega, by have z := r.un; omega⟩
/-- what such a def promises -/
structure FnA (P : Program) (w : World) (K : PySem.W.Frag) (mg : Str → Option Value) (base : Heap) (k : Nat) (f : Addr) (fd : FuncData) (ps : List Str) (sp : Sp) : Prop where
  len : ∀ vs H Q E, sp vs H Q E → vs.length = ps.length
  run : ∀ (A : Around) (outer : List Env) (s : Shared) (H : Hp) (args : Args) (us : List Value) (vs : List V) (Q : VK) (E : XK), RoomA k A → Env0 P w K mg base A outer s H → BindsTo s fd args (ps.zip us) → Vals vs us → sp vs H Q E →
    codeAny (model P w) A (.call (.ref f) args) (CR (L2.CX P w) outer P w H s Q E) s
theorem FnA.ok {P : Program} {w : World} {K : PySem.W.Frag} {mg : Str → Option Value} {base : Heap} {k : Nat} {f : Addr} {fd : FuncData} {ps : List Str} {sp : Sp} (F : FnA P w K mg base k f fd ps sp) : FnOk P w K mg base (L2.CX P w) k f fd ps sp :=
  ⟨F.len, fun A outer s H args us vs Q E hr => F.run A outer s H args us vs Q E (.of hr)⟩
abbrev cxA (P : Program) (w : World) (K : PySem.W.Frag) (mg : Str → Option Value) (base : Heap) (N : List Str) (qual : Str) (scope : Scope) (f : Addr) (cd : Value) (A : Around) (outer : List Env) (s : Shared) (H : Hp) (E : XK) : Cx :=
  { cxOf (L2.CX P w) P w K mg base N qual scope f cd A outer s H E with calm := false }
section
variable {P : Program} {w : World} {K : PySem.W.Frag} {mg : Str → Option Value} {base : Heap} {N ps : List Str} {qual : Str}
theorem startA {scope : Scope} {f : Addr} {cd : Value} {A : Around} {outer : List Env} {s s1 : Shared} {H : Hp} {E : XK} {us : List Value} {vs : List V} (S : FnScope N ps scope) (e0 : Env0 P w K mg base A outer s H) (hl : vs.length = ps.length) (r : Vals vs us)
    (x : InCallC s s.heap.objs.size (bindL (PyProof.Rows.envOfC qual scope s.heap.objs.size f cd).kindOf (ps.zip us) fun _ => none) (cellsFrom (s.heap.objs.size + 1) scope.names []) (bindC (PyProof.Rows.envOfC qual scope s.heap.objs.size f cd).kindOf (ps.zip us) fun _ => none) s1) :
    Inv (cxA P w K mg base N qual scope f cd A outer s H E) [] (L2.start N vs) H s1 := by
  have e1 : Env0 P w K mg base { A with handled := none } outer s H := ⟨e0.frames, e0.mod, e0.bs, e0.bsz, e0.funs, e0.frf, e0.hok, e0.bare⟩
  have I : Inv (cxOf (L2.CX P w) P w K mg base N qual scope f cd { A with handled := none } outer s H E) [] (L2.start N vs) H s1 := inv_start S rfl e1 hl r x
  have o := I.ok
  exact { ok := { mod := o.mod, kind := o.kind, glob := o.glob, blt := o.blt, above := o.above, inj := o.inj, has := o.has, cab := o.cab, hd := (fun z => absurd (show false = true from z) Bool.false_ne_true), frames := o.frames, stk := o.stk,
                  exf := o.exf, bs := o.bs, bsz := o.bsz, noex := o.noex, exfs := o.exfs, funs := o.funs, frf := o.frf },
          os := I.os, bare := I.bare, base := I.base, loc := I.loc, cell := I.cell, free := I.free, freeC := I.freeC, pin := I.pin, hok := I.hok, len := I.len }
variable {cl : Nat → Addr} {x : Str} {st : Stmt} {f : Addr} {fd : FuncData} {k : Nat} {b : SS}
theorem ok_fnA (F : Fun K x qual st f fd) (S : FnScope N ps (defScope st))
    (body : ∀ (cdv : Value) (A : Around) (outer : List Env) (s : Shared) (H : Hp) (E : XK), RoomA k (A.deeper (PyProof.Rows.envOfC qual (defScope st) s.heap.objs.size f cdv)) →
      DSs (cxA P w K mg base N qual (defScope st) f cdv A outer s H E) cl (fun c d _ H' => E c d H') (defBody st) b) :
    FnA P w K mg base (k + 1) f fd ps (spI K cl ps.length (fnR ps.length N.length b)) := by
  have hpl : ps.length ≤ N.length := by
    have z := congrArg List.length S.pre
    rw [List.length_take] at z
    omega
  obtain ⟨oc, od, kV, doc, pm, an, cdv, ct, osl, rfl, lk, hcd⟩ := F.ex
  refine ⟨fun vs H Q E h => h.1, fun A outer s H args us vs Q E room e0 hb r h => ?_⟩
  have hl : vs.length = ps.length := h.1
  have kIn : K.In s.heap := e0.mod.kin.keeps fun b o e => (e0.bs b o e).1
  have noL : s.heap.NoLimit := e0.mod.nolimit.keeps fun b o e => (e0.bs b o e).1
  have kinds : ∀ y ∈ ps.zip us, (defScope st).names.lookup y.1 = some .local ∨ ((defScope st).names.lookup y.1 = some .cell ∧ ((cellsFrom (s.heap.objs.size + 1) (defScope st).names []).lookup y.1).isSome = true) := fun ⟨m, v⟩ hy =>
    (S.par m (List.of_mem_zip hy).1).imp id fun q => ⟨q, PySem.W.cellsFrom_some _ _ _ (.inl q)⟩
  have dp : A.depth < recursionLimit := by have z := room.dp; omega
  refine codeAny_call_function dp (kIn _ _ lk) rfl S.co S.gen rfl (PySem.W.codeRec_of kIn hcd) (hb _ _ _ _ (wpAny_newFunctionEnv_cells S.kind kinds fun env he s1 x1 => ?_))
  subst he
  refine ⟨noL.keeps x1.toInCall.keep, codeAny_func ?_⟩
  have deep : RoomA k (A.deeper (PyProof.Rows.envOfC qual (defScope st) s.heap.objs.size f cdv)) :=
    ⟨by have z := room.dp; show A.depth + 1 + 3 * k + 5 < _; omega, by have z := room.un; show A.units + 3 + 16 * k + 200 < _; omega⟩
  have J : Inv (cxA P w K mg base N qual (defScope st) f cdv A outer s H E) [] (L2.start N vs) H s1 := startA S e0 hl r x1
  have want : tS K cl (fun c d _ H' => E c d H') b { nx := fun _ H' => Q .non H', rt := Q } (L2.start N vs) H := by
    obtain ⟨_, ws, hp, ds, hhr, rr, q⟩ := h
    refine ⟨ws, _, hp, hhr, start_lr rr (by omega), ?_⟩
    unfold fnR at q
    have e := rr.len
    rw [if_pos (show ds.length = ps.length by omega)] at q
    cases hb : b (ds.map some ++ List.replicate (N.length - ds.length) none) hp with
    | nx e1 h1 =>
      rw [hb] at q
      exact fun ws1 H1 σ1 p1 l1 hr1 lr1 => q ws1 H1 .non p1 l1 hr1 rfl
    | rt d h1 => rw [hb] at q; exact q
    | bk e1 h1 => rw [hb] at q; exact q.elim
    | ct e1 h1 => rw [hb] at q; exact q.elim
    | ex c fs e1 h1 =>
      rw [hb] at q
      exact fun ws1 H1 σ1 dd xs p1 l1 hr1 lr1 => q ws1 H1 dd xs p1 l1 hr1
    | bad => rw [hb] at q; exact q.elim
  refine wpAny_mono ((body cdv A outer s H E deep).p.run [] s1 (L2.start N vs) H _ J want) (fun fl s' hs => ?_) fun e s' hs => hs
  have fin : ∀ {σ' : St} {H' : Hp} {v : V} {u : Value}, Inv (cxA P w K mg base N qual (defScope st) f cdv A outer s H E) [] σ' H' s' → RelV v u → Q v H' → CE outer P w H s Q u s' :=
    fun {σ' H' v u} J2 rv q => ⟨v, H', J2.os, J2.bare, J2.base, J2.hok, rv, q⟩
  cases fl with
  | ret u => exact (fun ⟨v, σ', H', J2, rv, q⟩ => fin J2 rv q) hs
  | next => exact (fun ⟨σ', H', J2, q⟩ => fin (v := V.non) (u := Value.none) J2 rfl q) hs
  | brk => exact hs.elim fun _ z => z.elim fun _ z => z.2.elim
  | cont => exact hs.elim fun _ z => z.elim fun _ z => z.2.elim
end
section
variable {X : Cx} {cl : Nat → Addr} {W : WX}
theorem de_callA {k : Nat} {f : Addr} {fd : FuncData} {ps : List Str} {ar : Nat} {F : List D → IH → R D} {g : SA} {x : Str} {p pos : Pos} {e : Expr} {es : List Expr} (Fo : FnA X.prog X.w X.K X.mg X.base k f fd ps (spI X.K cl ar F)) (hA : Ar ar F)
    (hr : RoomA k X.A) (hm : X.mg x = some (.ref f)) (hk : PySem.W.keepIn X.K (.ref f) = true) (hb : Binds X.K fd ps []) (ha : DA X cl WN (e :: es) g) (hg : Gl X x := by rfl)
    (hdb : (x == ("__debug__" : Str)) = false := by decide) (he : starEach (e :: es) X.env = (false, eval e X.env) :: starEach es X.env := by rfl) (hpl : (backTo pos (starEach es X.env)).any (·.1) = false := by rfl) :
    DE X cl WN (.Call (.Name x p) (e :: es) [] pos) (eB F g) := by
  refine ⟨⟨fun pins s σ H Q I want => wpAny_Call_Name_kw (ld_glob I hg hm ?_ hdb)⟩⟩
  have w2 := call_ok (X := X) hA σ H Q want
  refine PySem.W.callWith_K (h₀ := X.base) I.ok.mod.kin hk (thn (ha.p.run pos pins s σ H _ I w2) fun us s1 ⟨vs, H1, I1, r, q⟩ => ⟨I1.kIn, ?_⟩) he hpl
  have hl : us.length = ps.length := by rw [← r.length]; exact Fo.len _ _ _ _ q
  have b := hb s1 us I1.kIn (by rw [List.append_nil]; exact hl)
  rw [List.append_nil] at b
  refine wpAny_call (codeAny_mono (Fo.run X.A X.stack s1 H1 ⟨us, []⟩ us vs Q _ hr I1.env0 b r q) fun r2 s' back => ?_)
  cases r2 with
  | error er => exact (fun ⟨_, _, _, _, _, _, _, _, _, _, _, _, z⟩ => z.elim) back
  | ok fl =>
    cases fl with
    | ret u => exact I1.after back
    | next => exact back.elim
    | brk => exact back.elim
    | cont => exact back.elim
end
end Fl
/-! Fl, part 13: what the top has written, in short. -/
namespace Fl
open PySem L2
structure DefT (K : PySem.W.Frag) (mg : Str → Option Value) (x : Str) (st : Stmt) (ps : List Str) (f : Addr) (fd : FuncData) : Prop where
  F : Fun K x x st f fd
  m : mg x = some (.ref f)
  k : PySem.W.keepIn K (.ref f) = true
  b : Binds K fd ps []
/-- an error's class with its __init__ -/
structure ClsT (K : PySem.W.Frag) (mg : Str → Option Value) (x : Str) (C fI : Addr) : Prop where
  m : mg x = some (.ref C)
  T : XCls K C fI
theorem RoomA.units {k : Nat} {A : Around} (r : RoomA k A) : A.units + 64 < cLine := by have z := r.un; omega
theorem RoomA.units1 {k : Nat} {A : Around} (r : RoomA k A) : A.units + 1 < cLine := by have z := r.un; omega
/-- what the classes of errors say of themselves -/
def xcB (K : PySem.W.Frag) (C : Addr) : Bool :=
  decide (PySem.W.findIn K (.ref C) "__getattribute__" = some (some (.builtin "BaseException.__getattribute__"))) && (decide (PySem.W.findIn K (.ref C) "__getattr__" = some none) && (decide (PySem.W.subIn K (.ref C) (.type "BaseException") = some true) &&
  (PySem.W.hasDictIn K C && (decide (PySem.W.findIn K (.ref C) "__class__" = some (some (.builtin "object.__class__"))) && (decide (PySem.W.specialIn K (.builtin "object.__class__") "__get__" = some (some (.builtin "getset_descriptor.__get__"))) &&
  (decide (PySem.W.takesIn K (.builtin "object.__class__") = some true) && (decide (PySem.W.mroIn K C (.type "object") = some true) && (decide (PySem.W.findIn K (.ref C) "__setattr__" = some (some (.builtin "object.__setattr__"))) &&
  (decide (PySem.W.typeIn K (.ref C) = some (.type "type")) && PySem.W.keepIn K (.ref C))))))))))
structure XcT (K : PySem.W.Frag) (C : Addr) : Prop where
  x : XfC K C
  e : ExcC K C
  sa : PySem.W.findIn K (.ref C) "__setattr__" = some (some (.builtin "object.__setattr__"))
  ty : PySem.W.typeIn K (.ref C) = some (.type "type")
  k : PySem.W.keepIn K (.ref C) = true
theorem xcB_ok {K : PySem.W.Frag} {C : Addr} (h : xcB K C = true) : XcT K C := by
  unfold xcB at h
  obtain ⟨h1, h⟩ := Bool.and_eq_true_iff.mp h
  obtain ⟨h2, h⟩ := Bool.and_eq_true_iff.mp h
  obtain ⟨h3, h⟩ := Bool.and_eq_true_iff.mp h
  obtain ⟨h4, h⟩ := Bool.and_eq_true_iff.mp h
  obtain ⟨h5, h⟩ := Bool.and_eq_true_iff.mp h
  obtain ⟨h6, h⟩ := Bool.and_eq_true_iff.mp h
  obtain ⟨h7, h⟩ := Bool.and_eq_true_iff.mp h
  obtain ⟨h8, h⟩ := Bool.and_eq_true_iff.mp h
  obtain ⟨h9, h⟩ := Bool.and_eq_true_iff.mp h
  obtain ⟨h10, h11⟩ := Bool.and_eq_true_iff.mp h
  have a1 := of_decide_eq_true h1
  have a2 := of_decide_eq_true h2
  have a3 := of_decide_eq_true h3
  exact ⟨⟨a1, a2, a3, h4⟩, ⟨a1, a2, a3, h4, of_decide_eq_true h5, of_decide_eq_true h6, of_decide_eq_true h7, of_decide_eq_true h8⟩, of_decide_eq_true h9, of_decide_eq_true h10, h11⟩
/-- the family: classes 0 .. n - 1 at cl; up c k: c is k or below it -/
def famB (K : PySem.W.Frag) (cl : Nat → Addr) (n : Nat) (up : Nat → Nat → Bool) : Bool := (List.range n).all fun c => xcB K (cl c) && (List.range n).all fun k =>
  decide (PySem.W.exmOne K (.ref (cl c)) (.ref (cl k)) = some (up c k)) && decide (PySem.W.kitOne K (.ref (cl c)) (.ref (cl k)) = some (up c k))
structure FamT (K : PySem.W.Frag) (cl : Nat → Addr) (n : Nat) (up : Nat → Nat → Bool) : Prop where
  x : ∀ c, c < n → XcT K (cl c)
  ex : ∀ c k, c < n → k < n → PySem.W.exmOne K (.ref (cl c)) (.ref (cl k)) = some (up c k)
  ki : ∀ c k, c < n → k < n → PySem.W.kitOne K (.ref (cl c)) (.ref (cl k)) = some (up c k)
theorem famB_ok {K : PySem.W.Frag} {cl : Nat → Addr} {n : Nat} {up : Nat → Nat → Bool} (h : famB K cl n up = true) : FamT K cl n up := by
  unfold famB at h
  rw [List.all_eq_true] at h
  have key : ∀ c, c < n → _ := fun c hc => Bool.and_eq_true_iff.mp (h c (List.mem_range.mpr hc))
  have k2 : ∀ c k, c < n → k < n → _ := fun c k hc hk => Bool.and_eq_true_iff.mp (List.all_eq_true.mp (key c hc).2 k (List.mem_range.mpr hk))
  exact ⟨fun c hc => xcB_ok (key c hc).1, fun c k hc hk => of_decide_eq_true (k2 c k hc hk).1, fun c k hc hk => of_decide_eq_true (k2 c k hc hk).2⟩
def subN (n : Nat) (up : Nat → Nat → Bool) : Nat → Nat → Option Bool := fun c k => if c < n ∧ k < n then some (up c k) else none
theorem FamT.sub {K : PySem.W.Frag} {cl : Nat → Addr} {n : Nat} {up : Nat → Nat → Bool} (T : FamT K cl n up) : ∀ c k b, subN n up c k = some b → PySem.W.exmOne K (.ref (cl c)) (.ref (cl k)) = some b := fun c k b h => by
  unfold subN at h
  split at h
  · rename_i z
    cases h
    exact T.ex c k z.1 z.2
  · cases h
theorem FamT.isx {K : PySem.W.Frag} {cl : Nat → Addr} {n : Nat} {up : Nat → Nat → Bool} (T : FamT K cl n up) (k : Nat) : ∀ c b, subN n up c k = some b → ExcC K (cl c) ∧ PySem.W.kitOne K (.ref (cl c)) (.ref (cl k)) = some b := fun c b h => by
  unfold subN at h
  split at h
  · rename_i z
    cases h
    exact ⟨(T.x c z.1).e, T.ki c k z.1 z.2⟩
  · cases h
end Fl
/-! Fl, part 14: a law's end. -/
namespace Fl
open PySem L2
/-- law's promise: a list of at most 63 ints that stays is handed in, True comes out -/
def spLaw (K : PySem.W.Frag) : Sp := fun vs H Q _ => ∃ (a : Addr) (ns : List Int), vs = [.ref a] ∧ SqF K H a (ns.map V.int) ∧ ns.length ≤ 63 ∧ ∀ H', Q (.bl true) H'
theorem law_ok {P : Program} {w : World} {K : PySem.W.Frag} {mg : Str → Option Value} {base : Heap} {k : Nat} {f : Addr} {fd : FuncData} {cl : Nat → Addr} {F : List D → IH → R D}
    (o : FnOk P w K mg base (L2.CX P w) k f fd ["script"] (spI K cl 1 F)) (yes : ∀ ns : List Int, ns.length ≤ 63 → ∃ h, F [.fls (ns.map D.int)] [] = .ok (.bl true) h) : FnOk P w K mg base (L2.CX P w) k f fd ["script"] (spLaw K) := by
  refine ⟨fun vs H Q E h => ?_, fun A outer s H args us vs Q E hr e0 hb r h => o.run A outer s H args us vs Q E hr e0 hb r ?_⟩
  · obtain ⟨a, ns, rfl, _⟩ := h
    rfl
  · obtain ⟨a, ns, rfl, hs, hl, q⟩ := h
    obtain ⟨h1, e⟩ := yes ns hl
    refine ⟨rfl, [], [], [.fls (ns.map D.int)], ⟨rfl, List.nodup_nil, fun n o a h => by simp at h⟩, ⟨_, [], rfl, ⟨a, _, rfl, hs, VRs.ints ns⟩, rfl⟩, ?_⟩
    rw [e]
    exact fun ws' H' v _ _ _ rv => by
      obtain rfl := (show v = .bl true from rv)
      exact q H'
theorem only_sq {K : PySem.W.Frag} {H : Hp} {a : Addr} {xs : List V} (o : Only H) (h : SqL K H a xs) : SqF K H a xs := by
  rcases h with (h | h) | h
  · rcases o a with z | ⟨o, ys, z⟩
    · rw [z] at h; cases h
    · rw [z] at h; cases h
  · exact .inl h
  · exact .inr h
theorem walkI {l : PySem.W.OpenLaw} {k : Nat} {q : Program} {loose : List Str} {XP : (Str → Option Value) → Heap → Prop} {YP : World → Heap → Prop} {d : DefRec} {K : Params → PySem.W.Frag} (hn : l.most = some 63) (hdf : d.params.defaults = []) (hr : Room k callerA)
    (hY : ∀ (w : World) (h : Heap), YP w h → (K w.params).In h)
    (F : ∀ (w : World) (mg : Str → Option Value) (fa : Addr) (h : Heap), (K w.params).In h → h.Ns mainGlobals mg → mg d.name = some (.ref fa) →
      ∃ fd : FuncData, (∀ (s : Shared) (u : Value), BindsTo s fd ⟨[u], []⟩ [("script", u)]) ∧ ∀ base : Heap, (K w.params).In base → base.Ns mainGlobals mg → FnOk l.prog w (K w.params) mg base (L2.CX l.prog w) k fa fd ["script"] (spLaw (K w.params))) :
    PySem.W.WalkO q loose XP YP l.row.toRowW d [] (fun f vs => PySem.call f vs) :=
  walk_of (n := 63) (k := k) (x := "script") (CX := fun w => L2.CX l.prog w) (sp := fun w => spLaw (K w.params)) hn (by decide) hdf hr hY F (fun _ _ a ns hl o hs => ⟨a, ns, rfl, only_sq o hs, hl, fun _ => rfl⟩)
    fun _ _ _ _ _ ⟨_, _, _, _, _, _, _, _, _, _, _, _, z⟩ => z.elim
end Fl
/-! Fl, part 15: how the plain functions are computed (rules for simp: only what is applied is opened, what stands behind waits). -/
namespace Fl
open PySem L2
def RS.sq (r : RS) (g : SS) : RS := match r with
  | .nx e h => g e h
  | r => r
section
variable {α β : Type} {a : α} {h h1 : IH} {e e1 : Lc} {c : Nat} {fs : List (Str × D)} {k : α → IH → R β} {ks : α → IH → RS} {g : SS} {d : D}
@[simp] theorem bind_ok : (R.ok a h).bind k = k a h := id rfl
@[simp] theorem bind_ex : (R.ex c fs h : R α).bind k = .ex c fs h := id rfl
@[simp] theorem bind_bad : (R.bad : R α).bind k = .bad := id rfl
@[simp] theorem bindN_ok : (R.ok a h).bindN k = k a h := id rfl
@[simp] theorem bindN_bad : (R.bad : R α).bindN k = .bad := id rfl
@[simp] theorem st_ok : (R.ok a h).st e ks = ks a h := id rfl
@[simp] theorem st_ex : (R.ex c fs h : R α).st e ks = .ex c fs e h := id rfl
@[simp] theorem st_bad : (R.bad : R α).st e ks = .bad := id rfl
@[simp] theorem sq_nx : (RS.nx e h).sq g = g e h := id rfl
@[simp] theorem sq_rt : (RS.rt d h).sq g = .rt d h := id rfl
@[simp] theorem sq_bk : (RS.bk e h).sq g = .bk e h := id rfl
@[simp] theorem sq_ct : (RS.ct e h).sq g = .ct e h := id rfl
@[simp] theorem sq_ex : (RS.ex c fs e h).sq g = .ex c fs e h := id rfl
@[simp] theorem sq_bad : RS.bad.sq g = .bad := id rfl
end
section
variable {h : IH} {e : Lc} {f g k : SE} {F G : D → D → IH → R D} {u v : ST} {s t : SS} {i j : Nat} {d : D} {as gs : SA} {Fn : List D → IH → R D} {Fm : D → List D → IH → R D} {ty : D → IH → Bool} {T U : Ty} {c n m : Nat} {fl : List Str} {ix : List Nat} {tg : Tg} {lo hi : SO} {src : Src} {x : Str}
@[simp] theorem eC_ap : eC d e h = .ok d h := id rfl
@[simp] theorem eV_ap : eV i e h = match e[i]? with
  | some (some d) => .ok d h
  | _ => .bad := id rfl
@[simp] theorem aNil_ap : aNil e h = .ok [] h := id rfl
theorem aCons_ap : aCons f as e h = (f e h).bind fun d h1 => (as e h1).bind fun ds h2 => .ok (d :: ds) h2 := id rfl
theorem eTup_ap : eTup as e h = (as e h).bind fun ds h1 => if ds.length ≤ sizeLine then .ok (.tup ds) h1 else .bad := id rfl
theorem eLst_ap : eLst as e h = (as e h).bind fun ds h1 => if ds.length ≤ sizeLine then .ok (.ref h1.length) (h1 ++ [.lst ds]) else .bad := id rfl
theorem eOp_ap : eOp F f g e h = (f e h).bind fun a h1 => (g e h1).bind fun b h2 => F a b h2 := id rfl
theorem tB_ap : tB f e h = (f e h).bind fun d h1 => match d with
  | .bl b => .ok b h1
  | _ => .bad := id rfl
theorem eNeg_ap : eNeg f e h = (f e h).bind fun a h1 => match a with
  | .int i => .ok (.int (-i)) h1
  | _ => .bad := id rfl
theorem tTr_ap : tTr f e h = (f e h).bind fun d h1 => match tru d h1 with
  | some b => .ok b h1
  | none => .bad := id rfl
theorem tNo_ap : tNo u e h = (u e h).bind fun b h1 => .ok (!b) h1 := id rfl
theorem tAn_ap : tAn u v e h = (u e h).bind fun b h1 => if b = true then v e h1 else .ok false h1 := id rfl
theorem tOr_ap : tOr' u v e h = (u e h).bind fun b h1 => if b = true then .ok true h1 else v e h1 := id rfl
theorem eAn_ap : eAn f g e h = (f e h).bind fun d h1 => match tru d h1 with
  | some true => g e h1
  | some false => .ok d h1
  | none => .bad := id rfl
theorem eOr_ap : eOr f g e h = (f e h).bind fun d h1 => match tru d h1 with
  | some true => .ok d h1
  | some false => g e h1
  | none => .bad := id rfl
theorem eNot_ap : eNot f e h = (f e h).bind fun d h1 => match tru d h1 with
  | some b => .ok (.bl (!b)) h1
  | none => .bad := id rfl
theorem eIf_ap : eIf u f g e h = (u e h).bind fun b h1 => if b = true then f e h1 else g e h1 := id rfl
theorem eCh_ap : eCh F G f g k e h = (f e h).bind fun a h1 => (g e h1).bind fun b h2 => (F a b h2).bind fun z h3 => match z with
  | .bl true => (k e h3).bind fun c h4 => G b c h4
  | .bl false => .ok (.bl false) h3
  | _ => .bad := id rfl
@[simp] theorem oN_ap : oN e h = .ok none h := id rfl
theorem oE_ap : oE f e h = (f e h).bind fun d h1 => match d with
  | .int i => .ok (some i) h1
  | _ => .bad := id rfl
theorem eSl_ap : eSl f lo hi e h = (f e h).bind fun a h1 => (lo e h1).bind fun l h2 => (hi e h2).bind fun u h3 => fSl l u a h3 := id rfl
theorem eB_ap : eB Fn as e h = (as e h).bind fun ds h1 => Fn ds h1 := id rfl
theorem eIsi_ap : eIsi T f e h = (f e h).bind fun d h1 => match tyD d h1 with
  | some t => .ok (.bl (isT t T)) h1
  | none => .bad := id rfl
theorem eIsi2_ap : eIsi2 T U f e h = (f e h).bind fun d h1 => match tyD d h1 with
  | some t => .ok (.bl (isT t T || isT t U)) h1
  | none => .bad := id rfl
theorem eMt_ap : eMt ty Fm f as e h = (f e h).bind fun d h1 => if ty d h1 = true then (as e h1).bind fun ds h2 => Fm d ds h2 else .bad := id rfl
@[simp] theorem sNx_ap : sNx e h = .nx e h := id rfl
@[simp] theorem sSeq_ap : sSeq s t e h = (s e h).sq t := id rfl
@[simp] theorem sBk_ap : sBk e h = .bk e h := id rfl
@[simp] theorem sCt_ap : sCt e h = .ct e h := id rfl
theorem sEx_ap : sEx f e h = (f e h).st e fun _ h1 => .nx e h1 := id rfl
theorem sRt_ap : sRt f e h = (f e h).st e fun d h1 => .rt d h1 := id rfl
@[simp] theorem sRtN_ap : sRtN e h = .rt .non h := id rfl
theorem sIf_ap : sIf u s t e h = (u e h).st e fun b h1 => if b = true then s e h1 else t e h1 := id rfl
theorem sAs_ap : sAs tg f e h = (f e h).st e fun d h1 => match tgS tg d e with
  | some e1 => .nx e1 h1
  | none => .bad := id rfl
theorem sPar_ap : sPar i j as e h = (as e h).st e fun ds h1 => match ds with
  | [a, b] => .nx ((e.set i (some a)).set j (some b)) h1
  | _ => .bad := id rfl
theorem sPut_ap : sPut f g k e h = (k e h).st e fun d h1 => (f e h1).st e fun o h2 => (g e h2).st e fun i h3 => match fPut o i d h3 with
  | some h4 => .nx e h4
  | none => .bad := id rfl
theorem iE_ap : iE f e h = (f e h).bind fun d h1 => match itS d h1 with
  | some p => .ok p h1
  | none => .bad := id rfl
theorem iR1_ap : iR1 as e h = (as e h).bind fun ds h1 => match ds with
  | [.int j] => if -(2 ^ 62) ≤ j ∧ j < 2 ^ 62 then .ok (rgD 0 j.toNat, (fun _ => True : IH → Prop)) h1 else .bad
  | _ => .bad := id rfl
theorem iR2_ap : iR2 as e h = (as e h).bind fun ds h1 => match ds with
  | [.int i, .int j] => if -(2 ^ 62) ≤ i ∧ i < 2 ^ 62 ∧ -(2 ^ 62) ≤ j ∧ j < 2 ^ 62 then .ok (rgD i (j - i).toNat, (fun _ => True : IH → Prop)) h1 else .bad
  | _ => .bad := id rfl
theorem sFor_ap : sFor tg src s e h = (src e h).st e fun p h1 => forGo p.2 tg s p.1 e h1 := id rfl
theorem eLc_ap {vs : List Nat} : eLc vs tg src u f e h = (src e h).bind fun p h1 => lcGo p.2 tg u f h1.length (wipeD e vs) p.1 (h1 ++ [.lst []]) := id rfl
@[simp] theorem tYe_ap : tYe e h = .ok true h := id rfl
theorem eXr_ap : eXr m x f e h = (f e h).bind fun d h1 => match d with
  | .ref k => (match h1[k]? with
    | some (.exc c fs) => if c < m then (match fs.lookup x with
      | some z => .ok z h1
      | none => .bad) else .bad
    | _ => .bad)
  | _ => .bad := id rfl
theorem eIsx_ap {isx : Nat → Option Bool} : eIsx isx f e h = (f e h).bind fun d h1 => match d with
  | .ref k => (match h1[k]? with
    | some (.exc c fs) => (match isx c with
      | some b => .ok (.bl b) h1
      | none => .bad)
    | _ => .bad)
  | _ => .bad := id rfl
theorem eXn_ap : eXn c n m fl ix as gs e h = (as e h).bind fun ds h1 => (gs e h1).bind fun zs h2 =>
  if ds.length = n ∧ zs.length = m ∧ (pick ix (ds ++ zs)).length = fl.length then .ok (.ref h2.length) (h2 ++ [.exc c (fl.zip (pick ix (ds ++ zs))).reverse]) else .bad := id rfl
theorem sXn_ap : sXn c n m fl ix as gs e h = ((as e h).bind fun ds h1 => (gs e h1).bind fun zs h2 =>
  if ds.length = n ∧ zs.length = m ∧ (pick ix (ds ++ zs)).length = fl.length then R.ex c (fl.zip (pick ix (ds ++ zs))).reverse h2 else (.bad : R D)).st e fun _ _ => .bad := id rfl
theorem sRs_ap : sRs c fl as e h = (as e h).st e fun ds h1 => if ds.length = fl.length ∧ fl.length ≤ 1000 then .ex c (fl.zip ds).reverse e h1 else .bad := id rfl
def sTr2 (sub : Nat → Nat → Option Bool) (hs : List (Nat × Option Nat × SS)) (r : RS) : RS := match r with
  | .ex c fs e1 h1 => hdGo sub c fs hs e1 h1
  | r => r
@[simp] theorem sTry_ap {sub : Nat → Nat → Option Bool} {hs : List (Nat × Option Nat × SS)} : sTry sub s hs e h = sTr2 sub hs (s e h) := id rfl
@[simp] theorem sTr2_ex {sub : Nat → Nat → Option Bool} {hs : List (Nat × Option Nat × SS)} {fs : List (Str × D)} : sTr2 sub hs (.ex c fs e h) = hdGo sub c fs hs e h := id rfl
@[simp] theorem sTr2_nx {sub : Nat → Nat → Option Bool} {hs : List (Nat × Option Nat × SS)} : sTr2 sub hs (.nx e h) = .nx e h := id rfl
@[simp] theorem sTr2_rt {sub : Nat → Nat → Option Bool} {hs : List (Nat × Option Nat × SS)} : sTr2 sub hs (.rt d h) = .rt d h := id rfl
@[simp] theorem pick_ap {α : Type} {l : List α} : pick ix l = ix.filterMap fun i => l[i]? := id rfl
@[simp] theorem tgS_n : tgS (.n i) d e = some (e.set i (some d)) := id rfl
@[simp] theorem tgS_t {l : List Nat} {ds : List D} : tgS (.t l) (.tup ds) e = if ds.length = l.length then some (setAll l ds e) else none := id rfl
def endS (r : RS) : R D := match r with
  | .nx _ h1 => .ok .non h1
  | .rt d h1 => .ok d h1
  | .ex c fs _ h1 => .ex c fs h1
  | _ => .bad
@[simp] theorem fnR_ap {ds : List D} : fnR n m s ds h = if ds.length = n then endS (s (ds.map some ++ List.replicate (m - ds.length) none) h) else .bad := id rfl
@[simp] theorem endS_nx : endS (.nx e h) = .ok .non h := id rfl
@[simp] theorem endS_rt : endS (.rt d h) = .ok d h := id rfl
@[simp] theorem endS_ex {fs : List (Str × D)} : endS (.ex c fs e h) = .ex c fs h := id rfl
@[simp] theorem endS_bad : endS .bad = .bad := id rfl
end
/-! the same by steps that have names (nothing is applied ahead of its turn) -/
section
variable {α β : Type}
def R.co1 (r : R D) (as : SA) (e : Lc) : R (List D) := r.bind fun d h1 => (as e h1).bind fun ds h2 => .ok (d :: ds) h2
def R.co2 (r : R (List D)) (d : D) : R (List D) := r.bind fun ds h2 => .ok (d :: ds) h2
def R.tup (r : R (List D)) : R D := r.bind fun ds h1 => if ds.length ≤ sizeLine then .ok (.tup ds) h1 else .bad
def R.lst (r : R (List D)) : R D := r.bind fun ds h1 => if ds.length ≤ sizeLine then .ok (.ref h1.length) (h1 ++ [.lst ds]) else .bad
def R.op1 (r : R D) (F : D → D → IH → R D) (g : SE) (e : Lc) : R D := r.bind fun a h1 => (g e h1).bind fun b h2 => F a b h2
def R.op2 (r : R D) (F : D → D → IH → R D) (a : D) : R D := r.bind fun b h2 => F a b h2
def R.tb (r : R D) : R Bool := r.bind fun d h1 => match d with
  | .bl b => .ok b h1
  | _ => .bad
def R.neg (r : R D) : R D := r.bind fun a h1 => match a with
  | .int i => .ok (.int (-i)) h1
  | _ => .bad
def trO (o : Option Bool) (h : IH) : R Bool := match o with
  | some b => .ok b h
  | none => .bad
def R.tr (r : R D) : R Bool := r.bind fun d h1 => trO (tru d h1) h1
def R.no (r : R Bool) : R Bool := r.bind fun b h1 => .ok (!b) h1
def R.an (r : R Bool) (v : ST) (e : Lc) : R Bool := r.bind fun b h1 => if b = true then v e h1 else .ok false h1
def R.or (r : R Bool) (v : ST) (e : Lc) : R Bool := r.bind fun b h1 => if b = true then .ok true h1 else v e h1
def anO (o : Option Bool) (d : D) (g : SE) (e : Lc) (h : IH) : R D := match o with
  | some true => g e h
  | some false => .ok d h
  | none => .bad
def orO (o : Option Bool) (d : D) (g : SE) (e : Lc) (h : IH) : R D := match o with
  | some true => .ok d h
  | some false => g e h
  | none => .bad
def ntO (o : Option Bool) (h : IH) : R D := match o with
  | some b => .ok (.bl (!b)) h
  | none => .bad
def R.ean (r : R D) (g : SE) (e : Lc) : R D := r.bind fun d h1 => anO (tru d h1) d g e h1
def R.eor (r : R D) (g : SE) (e : Lc) : R D := r.bind fun d h1 => orO (tru d h1) d g e h1
def R.ent (r : R D) : R D := r.bind fun d h1 => ntO (tru d h1) h1
def R.eif (r : R Bool) (f g : SE) (e : Lc) : R D := r.bind fun b h1 => if b = true then f e h1 else g e h1
def R.ch4 (r : R D) (G : D → D → IH → R D) (b : D) : R D := r.bind fun c h4 => G b c h4
def R.ch3 (r : R D) (G : D → D → IH → R D) (k : SE) (e : Lc) (b : D) : R D := r.bind fun z h3 => match z with
  | .bl true => (k e h3).ch4 G b
  | .bl false => .ok (.bl false) h3
  | _ => .bad
def R.ch2 (r : R D) (F G : D → D → IH → R D) (k : SE) (e : Lc) (a : D) : R D := r.bind fun b h2 => (F a b h2).ch3 G k e b
def R.ch1 (r : R D) (F G : D → D → IH → R D) (g k : SE) (e : Lc) : R D := r.bind fun a h1 => (g e h1).ch2 F G k e a
def R.oe (r : R D) : R (Option Int) := r.bind fun d h1 => match d with
  | .int i => .ok (some i) h1
  | _ => .bad
def R.sl3 (r : R (Option Int)) (a : D) (l : Option Int) : R D := r.bind fun u h3 => fSl l u a h3
def R.sl2 (r : R (Option Int)) (hi : SO) (e : Lc) (a : D) : R D := r.bind fun l h2 => (hi e h2).sl3 a l
def R.sl1 (r : R D) (lo hi : SO) (e : Lc) : R D := r.bind fun a h1 => (lo e h1).sl2 hi e a
def R.call (r : R (List D)) (F : List D → IH → R D) : R D := r.bind fun ds h1 => F ds h1
def isO (o : Option Ty) (T : Ty) (h : IH) : R D := match o with
  | some t => .ok (.bl (isT t T)) h
  | none => .bad
def isO2 (o : Option Ty) (T U : Ty) (h : IH) : R D := match o with
  | some t => .ok (.bl (isT t T || isT t U)) h
  | none => .bad
def R.isi (r : R D) (T : Ty) : R D := r.bind fun d h1 => isO (tyD d h1) T h1
def R.isi2 (r : R D) (T U : Ty) : R D := r.bind fun d h1 => isO2 (tyD d h1) T U h1
def R.mt2 (r : R (List D)) (F : D → List D → IH → R D) (d : D) : R D := r.bind fun ds h2 => F d ds h2
def R.mt1 (r : R D) (ty : D → IH → Bool) (F : D → List D → IH → R D) (as : SA) (e : Lc) : R D := r.bind fun d h1 => if ty d h1 = true then (as e h1).mt2 F d else .bad
def R.sx (r : R α) (e : Lc) : RS := r.st e fun _ h1 => .nx e h1
def R.rtn (r : R D) (e : Lc) : RS := r.st e fun d h1 => .rt d h1
def R.iff (r : R Bool) (s t : SS) (e : Lc) : RS := r.st e fun b h1 => if b = true then s e h1 else t e h1
def asO (o : Option Lc) (h : IH) : RS := match o with
  | some e1 => .nx e1 h
  | none => .bad
def R.asg (r : R D) (tg : Tg) (e : Lc) : RS := r.st e fun d h1 => asO (tgS tg d e) h1
def R.par (r : R (List D)) (i j : Nat) (e : Lc) : RS := r.st e fun ds h1 => match ds with
  | [a, b] => .nx ((e.set i (some a)).set j (some b)) h1
  | _ => .bad
def ptO (o : Option IH) (e : Lc) : RS := match o with
  | some h4 => .nx e h4
  | none => .bad
def R.put3 (r : R D) (e : Lc) (d o : D) : RS := r.st e fun i h3 => ptO (fPut o i d h3) e
def R.put2 (r : R D) (g : SE) (e : Lc) (d : D) : RS := r.st e fun o h2 => (g e h2).put3 e d o
def R.put1 (r : R D) (f g : SE) (e : Lc) : RS := r.st e fun d h1 => (f e h1).put2 g e d
def ieO (o : Option (List D × (IH → Prop))) (h : IH) : R (List D × (IH → Prop)) := match o with
  | some p => .ok p h
  | none => .bad
def R.ie (r : R D) : R (List D × (IH → Prop)) := r.bind fun d h1 => ieO (itS d h1) h1
def R.ir1 (r : R (List D)) : R (List D × (IH → Prop)) := r.bind fun ds h1 => match ds with
  | [.int j] => if -(2 ^ 62) ≤ j ∧ j < 2 ^ 62 then .ok (rgD 0 j.toNat, (fun _ => True : IH → Prop)) h1 else .bad
  | _ => .bad
def R.ir2 (r : R (List D)) : R (List D × (IH → Prop)) := r.bind fun ds h1 => match ds with
  | [.int i, .int j] => if -(2 ^ 62) ≤ i ∧ i < 2 ^ 62 ∧ -(2 ^ 62) ≤ j ∧ j < 2 ^ 62 then .ok (rgD i (j - i).toNat, (fun _ => True : IH → Prop)) h1 else .bad
  | _ => .bad
noncomputable def R.lp (r : R (List D × (IH → Prop))) (tg : Tg) (s : SS) (e : Lc) : RS := r.st e fun p h1 => forGo p.2 tg s p.1 e h1
noncomputable def R.lcp (r : R (List D × (IH → Prop))) (vs : List Nat) (tg : Tg) (u : ST) (f : SE) (e : Lc) : R D := r.bind fun p h1 => lcGo p.2 tg u f h1.length (wipeD e vs) p.1 (h1 ++ [.lst []])
def xfO (o : Option D) (h : IH) : R D := match o with
  | some z => .ok z h
  | none => .bad
def xrO (o : Option HB) (m : Nat) (x : Str) (h : IH) : R D := match o with
  | some (.exc c fs) => if c < m then xfO (fs.lookup x) h else .bad
  | _ => .bad
def R.xr (r : R D) (m : Nat) (x : Str) : R D := r.bind fun d h1 => match d with
  | .ref k => xrO h1[k]? m x h1
  | _ => .bad
def trD (o : Option Bool) (h : IH) : R D := match o with
  | some b => .ok (.bl b) h
  | none => .bad
def ixO (o : Option HB) (isx : Nat → Option Bool) (h : IH) : R D := match o with
  | some (.exc c fs) => trD (isx c) h
  | _ => .bad
def R.isx (r : R D) (isx : Nat → Option Bool) : R D := r.bind fun d h1 => match d with
  | .ref k => ixO h1[k]? isx h1
  | _ => .bad
def R.xn2 (r : R (List D)) (c n m : Nat) (fl : List Str) (ix : List Nat) (ds : List D) : R D := r.bind fun zs h2 => if ds.length = n ∧ zs.length = m ∧ (pick ix (ds ++ zs)).length = fl.length then .ok (.ref h2.length) (h2 ++ [.exc c (fl.zip (pick ix (ds ++ zs))).reverse]) else .bad
def R.xn1 (r : R (List D)) (c n m : Nat) (fl : List Str) (ix : List Nat) (gs : SA) (e : Lc) : R D := r.bind fun ds h1 => (gs e h1).xn2 c n m fl ix ds
def R.xs2 (r : R (List D)) (c n m : Nat) (fl : List Str) (ix : List Nat) (ds : List D) : R D := r.bind fun zs h2 => if ds.length = n ∧ zs.length = m ∧ (pick ix (ds ++ zs)).length = fl.length then R.ex c (fl.zip (pick ix (ds ++ zs))).reverse h2 else .bad
def R.xs1 (r : R (List D)) (c n m : Nat) (fl : List Str) (ix : List Nat) (gs : SA) (e : Lc) : R D := r.bind fun ds h1 => (gs e h1).xs2 c n m fl ix ds
def R.bd (r : R D) (e : Lc) : RS := r.st e fun _ _ => .bad
def R.rs (r : R (List D)) (c : Nat) (fl : List Str) (e : Lc) : RS := r.st e fun ds h1 => if ds.length = fl.length ∧ fl.length ≤ 1000 then .ex c (fl.zip ds).reverse e h1 else .bad
end
section
variable {α β : Type} {a b d o z : D} {h : IH} {e : Lc} {f g k : SE} {F G : D → D → IH → R D} {u v : ST} {s t : SS} {i j m n c : Nat} {as gs : SA} {ds zs : List D} {Fn : List D → IH → R D} {Fm : D → List D → IH → R D} {ty : D → IH → Bool} {T U : Ty} {fl : List Str} {ix vs : List Nat} {tg : Tg} {lo hi : SO} {src : Src} {x : Str} {cc : Nat} {fs : List (Str × D)} {isx : Nat → Option Bool} {q : Bool} {l w : Option Int} {y : Int} {aa : α} {p : List D × (IH → Prop)}
@[simp] theorem aCons_s : aCons f as e h = (f e h).co1 as e := id rfl
@[simp] theorem eTup_s : eTup as e h = (as e h).tup := id rfl
@[simp] theorem eLst_s : eLst as e h = (as e h).lst := id rfl
@[simp] theorem eOp_s : eOp F f g e h = (f e h).op1 F g e := id rfl
@[simp] theorem tB_s : tB f e h = (f e h).tb := id rfl
@[simp] theorem eNeg_s : eNeg f e h = (f e h).neg := id rfl
@[simp] theorem tTr_s : tTr f e h = (f e h).tr := id rfl
@[simp] theorem tNo_s : tNo u e h = (u e h).no := id rfl
@[simp] theorem tAn_s : tAn u v e h = (u e h).an v e := id rfl
@[simp] theorem tOr_s : tOr' u v e h = (u e h).or v e := id rfl
@[simp] theorem eAn_s : eAn f g e h = (f e h).ean g e := id rfl
@[simp] theorem eOr_s : eOr f g e h = (f e h).eor g e := id rfl
@[simp] theorem eNot_s : eNot f e h = (f e h).ent := id rfl
@[simp] theorem eIf_s : eIf u f g e h = (u e h).eif f g e := id rfl
@[simp] theorem eCh_s : eCh F G f g k e h = (f e h).ch1 F G g k e := id rfl
@[simp] theorem oE_s : oE f e h = (f e h).oe := id rfl
@[simp] theorem eSl_s : eSl f lo hi e h = (f e h).sl1 lo hi e := id rfl
@[simp] theorem eB_s : eB Fn as e h = (as e h).call Fn := id rfl
@[simp] theorem eIsi_s : eIsi T f e h = (f e h).isi T := id rfl
@[simp] theorem eIsi2_s : eIsi2 T U f e h = (f e h).isi2 T U := id rfl
@[simp] theorem eMt_s : eMt ty Fm f as e h = (f e h).mt1 ty Fm as e := id rfl
@[simp] theorem sEx_s : sEx f e h = (f e h).sx e := id rfl
@[simp] theorem sRt_s : sRt f e h = (f e h).rtn e := id rfl
@[simp] theorem sIf_s : sIf u s t e h = (u e h).iff s t e := id rfl
@[simp] theorem sAs_s : sAs tg f e h = (f e h).asg tg e := id rfl
@[simp] theorem sPar_s : sPar i j as e h = (as e h).par i j e := id rfl
@[simp] theorem sPut_s : sPut f g k e h = (k e h).put1 f g e := id rfl
@[simp] theorem iE_s : iE f e h = (f e h).ie := id rfl
@[simp] theorem iR1_s : iR1 as e h = (as e h).ir1 := id rfl
@[simp] theorem iR2_s : iR2 as e h = (as e h).ir2 := id rfl
@[simp] theorem sFor_s : sFor tg src s e h = (src e h).lp tg s e := id rfl
@[simp] theorem eLc_s : eLc vs tg src u f e h = (src e h).lcp vs tg u f e := id rfl
@[simp] theorem eXr_s : eXr m x f e h = (f e h).xr m x := id rfl
@[simp] theorem eIsx_s : eIsx isx f e h = (f e h).isx isx := id rfl
@[simp] theorem eXn_s : eXn c n m fl ix as gs e h = (as e h).xn1 c n m fl ix gs e := id rfl
@[simp] theorem sXn_s : sXn c n m fl ix as gs e h = ((as e h).xs1 c n m fl ix gs e).bd e := id rfl
@[simp] theorem sRs_s : sRs c fl as e h = (as e h).rs c fl e := id rfl
@[simp] theorem k_co1 : (R.ok d h).co1 as e = (as e h).co2 d := id rfl
@[simp] theorem k_co2 : (R.ok ds h).co2 d = .ok (d :: ds) h := id rfl
@[simp] theorem k_tup : (R.ok ds h).tup = if ds.length ≤ sizeLine then .ok (.tup ds) h else .bad := id rfl
@[simp] theorem k_lst : (R.ok ds h).lst = if ds.length ≤ sizeLine then .ok (.ref h.length) (h ++ [.lst ds]) else .bad := id rfl
@[simp] theorem k_op1 : (R.ok a h).op1 F g e = (g e h).op2 F a := id rfl
@[simp] theorem k_op2 : (R.ok b h).op2 F a = F a b h := id rfl
@[simp] theorem k_tb : (R.ok (.bl q) h).tb = .ok q h := id rfl
@[simp] theorem k_neg : (R.ok (.int y) h).neg = .ok (.int (-y)) h := id rfl
@[simp] theorem k_tr : (R.ok d h).tr = trO (tru d h) h := id rfl
@[simp] theorem k_no : (R.ok q h).no = .ok (!q) h := id rfl
@[simp] theorem k_an : (R.ok q h).an v e = if q = true then v e h else .ok false h := id rfl
@[simp] theorem k_or : (R.ok q h).or v e = if q = true then .ok true h else v e h := id rfl
@[simp] theorem k_ean : (R.ok d h).ean g e = anO (tru d h) d g e h := id rfl
@[simp] theorem k_eor : (R.ok d h).eor g e = orO (tru d h) d g e h := id rfl
@[simp] theorem k_ent : (R.ok d h).ent = ntO (tru d h) h := id rfl
@[simp] theorem k_eif : (R.ok q h).eif f g e = if q = true then f e h else g e h := id rfl
@[simp] theorem k_ch1 : (R.ok a h).ch1 F G g k e = (g e h).ch2 F G k e a := id rfl
@[simp] theorem k_ch2 : (R.ok b h).ch2 F G k e a = (F a b h).ch3 G k e b := id rfl
@[simp] theorem k_ch3t : (R.ok (.bl true) h).ch3 G k e b = (k e h).ch4 G b := id rfl
@[simp] theorem k_ch3f : (R.ok (.bl false) h).ch3 G k e b = .ok (.bl false) h := id rfl
@[simp] theorem k_ch4 : (R.ok d h).ch4 G b = G b d h := id rfl
@[simp] theorem k_oe : (R.ok (.int y) h).oe = .ok (some y) h := id rfl
@[simp] theorem k_sl1 : (R.ok a h).sl1 lo hi e = (lo e h).sl2 hi e a := id rfl
@[simp] theorem k_sl2 : (R.ok l h).sl2 hi e a = (hi e h).sl3 a l := id rfl
@[simp] theorem k_sl3 : (R.ok w h).sl3 a l = fSl l w a h := id rfl
@[simp] theorem k_call : (R.ok ds h).call Fn = Fn ds h := id rfl
@[simp] theorem k_isi : (R.ok d h).isi T = isO (tyD d h) T h := id rfl
@[simp] theorem k_isi2 : (R.ok d h).isi2 T U = isO2 (tyD d h) T U h := id rfl
@[simp] theorem k_mt1 : (R.ok d h).mt1 ty Fm as e = if ty d h = true then (as e h).mt2 Fm d else .bad := id rfl
@[simp] theorem k_mt2 : (R.ok ds h).mt2 Fm d = Fm d ds h := id rfl
@[simp] theorem k_sx : (R.ok aa h).sx e = .nx e h := id rfl
@[simp] theorem k_rtn : (R.ok d h).rtn e = .rt d h := id rfl
@[simp] theorem k_iff : (R.ok q h).iff s t e = if q = true then s e h else t e h := id rfl
@[simp] theorem k_asg : (R.ok d h).asg tg e = asO (tgS tg d e) h := id rfl
@[simp] theorem k_par : (R.ok [a, b] h).par i j e = .nx ((e.set i (some a)).set j (some b)) h := id rfl
@[simp] theorem k_put1 : (R.ok d h).put1 f g e = (f e h).put2 g e d := id rfl
@[simp] theorem k_put2 : (R.ok o h).put2 g e d = (g e h).put3 e d o := id rfl
@[simp] theorem k_put3 : (R.ok z h).put3 e d o = ptO (fPut o z d h) e := id rfl
@[simp] theorem k_ie : (R.ok d h).ie = ieO (itS d h) h := id rfl
@[simp] theorem k_ir1 : (R.ok [.int y] h).ir1 = if -(2 ^ 62) ≤ y ∧ y < 2 ^ 62 then .ok (rgD 0 y.toNat, (fun _ => True : IH → Prop)) h else .bad := id rfl
@[simp] theorem k_lp : (R.ok p h).lp tg s e = forGo p.2 tg s p.1 e h := id rfl
@[simp] theorem k_lcp : (R.ok p h).lcp vs tg u f e = lcGo p.2 tg u f h.length (wipeD e vs) p.1 (h ++ [.lst []]) := id rfl
@[simp] theorem k_xr : (R.ok (.ref i) h).xr m x = xrO h[i]? m x h := id rfl
@[simp] theorem k_isx : (R.ok (.ref i) h).isx isx = ixO h[i]? isx h := id rfl
@[simp] theorem k_xn1 : (R.ok ds h).xn1 c n m fl ix gs e = (gs e h).xn2 c n m fl ix ds := id rfl
@[simp] theorem k_xn2 : (R.ok zs h).xn2 c n m fl ix ds = if ds.length = n ∧ zs.length = m ∧ (pick ix (ds ++ zs)).length = fl.length then .ok (.ref h.length) (h ++ [.exc c (fl.zip (pick ix (ds ++ zs))).reverse]) else .bad := id rfl
@[simp] theorem k_xs1 : (R.ok ds h).xs1 c n m fl ix gs e = (gs e h).xs2 c n m fl ix ds := id rfl
@[simp] theorem k_xs2 : (R.ok zs h).xs2 c n m fl ix ds = if ds.length = n ∧ zs.length = m ∧ (pick ix (ds ++ zs)).length = fl.length then R.ex c (fl.zip (pick ix (ds ++ zs))).reverse h else .bad := id rfl
@[simp] theorem k_rs : (R.ok ds h).rs c fl e = if ds.length = fl.length ∧ fl.length ≤ 1000 then .ex c (fl.zip ds).reverse e h else .bad := id rfl
@[simp] theorem x_co1 : (R.ex cc fs h).co1 as e = .ex cc fs h := id rfl
@[simp] theorem x_co2 : (R.ex cc fs h).co2 d = .ex cc fs h := id rfl
@[simp] theorem x_tup : (R.ex cc fs h).tup  = .ex cc fs h := id rfl
@[simp] theorem x_lst : (R.ex cc fs h).lst  = .ex cc fs h := id rfl
@[simp] theorem x_op1 : (R.ex cc fs h).op1 F g e = .ex cc fs h := id rfl
@[simp] theorem x_op2 : (R.ex cc fs h).op2 F a = .ex cc fs h := id rfl
@[simp] theorem x_tb : (R.ex cc fs h).tb  = .ex cc fs h := id rfl
@[simp] theorem x_tr : (R.ex cc fs h).tr  = .ex cc fs h := id rfl
@[simp] theorem x_call : (R.ex cc fs h).call Fn = .ex cc fs h := id rfl
@[simp] theorem x_no : (R.ex cc fs h).no  = .ex cc fs h := id rfl
@[simp] theorem x_an : (R.ex cc fs h).an v e = .ex cc fs h := id rfl
@[simp] theorem x_or : (R.ex cc fs h).or v e = .ex cc fs h := id rfl
@[simp] theorem x_mt1 : (R.ex cc fs h).mt1 ty Fm as e = .ex cc fs h := id rfl
@[simp] theorem x_mt2 : (R.ex cc fs h).mt2 Fm d = .ex cc fs h := id rfl
@[simp] theorem x_eif : (R.ex cc fs h).eif f g e = .ex cc fs h := id rfl
@[simp] theorem x_rtn : (R.ex cc fs h).rtn e = .ex cc fs e h := id rfl
@[simp] theorem x_iff : (R.ex cc fs h).iff s t e = .ex cc fs e h := id rfl
@[simp] theorem x_asg : (R.ex cc fs h).asg tg e = .ex cc fs e h := id rfl
@[simp] theorem x_par : (R.ex cc fs h).par i j e = .ex cc fs e h := id rfl
@[simp] theorem x_bd : (R.ex cc fs h).bd e = .ex cc fs e h := id rfl
@[simp] theorem x_rs : (R.ex cc fs h).rs c fl e = .ex cc fs e h := id rfl
@[simp] theorem x_lp : (R.ex cc fs h).lp tg s e = .ex cc fs e h := id rfl
@[simp] theorem x_put1 : (R.ex cc fs h).put1 f g e = .ex cc fs e h := id rfl
@[simp] theorem x_sx : (R.ex cc fs h : R α).sx e = .ex cc fs e h := id rfl
@[simp] theorem trO_s : trO (some q) h = .ok q h := id rfl
@[simp] theorem anO_t : anO (some true) d g e h = g e h := id rfl
@[simp] theorem anO_f : anO (some false) d g e h = .ok d h := id rfl
@[simp] theorem orO_t : orO (some true) d g e h = .ok d h := id rfl
@[simp] theorem orO_f : orO (some false) d g e h = g e h := id rfl
@[simp] theorem ntO_s : ntO (some q) h = .ok (.bl (!q)) h := id rfl
@[simp] theorem isO_s {t : Ty} : isO (some t) T h = .ok (.bl (isT t T)) h := id rfl
@[simp] theorem isO2_s {t : Ty} : isO2 (some t) T U h = .ok (.bl (isT t T || isT t U)) h := id rfl
@[simp] theorem asO_s {e1 : Lc} : asO (some e1) h = .nx e1 h := id rfl
@[simp] theorem ptO_s {h4 : IH} : ptO (some h4) e = .nx e h4 := id rfl
@[simp] theorem ieO_s : ieO (some p) h = .ok p h := id rfl
@[simp] theorem xfO_s : xfO (some d) h = .ok d h := id rfl
@[simp] theorem xrO_s : xrO (some (.exc c fs)) m x h = if c < m then xfO (fs.lookup x) h else .bad := id rfl
@[simp] theorem ixO_s : ixO (some (.exc c fs)) isx h = trD (isx c) h := id rfl
@[simp] theorem trD_s : trD (some q) h = .ok (.bl q) h := id rfl
end
/-! values -/
section
variable {h : IH} {neg : Bool} {i j : Int} {a b : Str} {p q : Bool}
@[simp] theorem fEq_int : fEq neg (.int i) (.int j) h = .ok (.bl (neg != decide (i = j))) h := id rfl
@[simp] theorem fEq_str : fEq neg (.str a) (.str b) h = .ok (.bl (neg != decide (a = b))) h := id rfl
@[simp] theorem fEq_bl : fEq neg (.bl p) (.bl q) h = .ok (.bl (neg != decide (p = q))) h := id rfl
@[simp] theorem fEq_non : fEq neg .non .non h = .ok (.bl (neg != true)) h := id rfl
@[simp] theorem fEq_ni : fEq neg .non (.int i) h = .ok (.bl neg) h := id rfl
@[simp] theorem fEq_in : fEq neg (.int i) .non h = .ok (.bl neg) h := id rfl
@[simp] theorem fEq_ns : fEq neg .non (.str a) h = .ok (.bl neg) h := id rfl
@[simp] theorem fEq_sn : fEq neg (.str a) .non h = .ok (.bl neg) h := id rfl
@[simp] theorem fLt_int : fLt (.int i) (.int j) h = .ok (.bl (decide (i < j))) h := id rfl
@[simp] theorem fLe_int : fLe (.int i) (.int j) h = .ok (.bl (decide (i ≤ j))) h := id rfl
@[simp] theorem fGt_int : fGt (.int i) (.int j) h = .ok (.bl (decide (i > j))) h := id rfl
@[simp] theorem fGe_int : fGe (.int i) (.int j) h = .ok (.bl (decide (i ≥ j))) h := id rfl
@[simp] theorem fAdd_int : fAdd (.int i) (.int j) h = .ok (.int (i + j)) h := id rfl
@[simp] theorem fSub_int : fSub (.int i) (.int j) h = .ok (.int (i - j)) h := id rfl
@[simp] theorem fMul_int : fMul (.int i) (.int j) h = if MulOk i j then .ok (.int (i * j)) h else .bad := id rfl
@[simp] theorem fMod_int : fMod (.int i) (.int j) h = if 0 < j then .ok (.int (i % j)) h else .bad := id rfl
@[simp] theorem fDiv_int : fDiv (.int i) (.int j) h = if 0 < j ∧ j < 1073741824 then .ok (.int (i / j)) h else .bad := id rfl
@[simp] theorem fPow_int : fPow (.int i) (.int j) h = if 0 ≤ j ∧ j ≤ 1000000 ∧ i.natAbs < 2 ^ 64 then .ok (.int (i ^ j.toNat)) h else .bad := id rfl
@[simp] theorem fIs_non {d : D} : fIs neg d .non h = .ok (.bl (neg != isN d)) h := by cases d <;> rfl
@[simp] theorem bInt_int : bInt [.int i] h = .ok (.int i) h := id rfl
@[simp] theorem bLen_tup {l : List D} : bLen [.tup l] h = .ok (.int l.length) h := id rfl
@[simp] theorem fIx_tup {l : List D} : fIx (.tup l) (.int i) h = match atI l i with
    | some d => .ok d h
    | none => .bad := id rfl
@[simp] theorem fIx_ref {n : Nat} : fIx (.ref n) (.int i) h = match h[n]? with
    | some (.lst l) => (match atI l i with
      | some d => .ok d h
      | none => .bad)
    | _ => .bad := id rfl
theorem atI_nat {α : Type} {l : List α} {n : Nat} : atI l (n : Int) = l[n]? := by
  unfold L2.atI L2.ixN
  by_cases hn : n < l.length
  · simp [hn]
  · simp [hn]
@[simp] theorem atI_0 {α : Type} {l : List α} : atI l 0 = l[0]? := atI_nat (n := 0)
@[simp] theorem atI_1 {α : Type} {l : List α} : atI l 1 = l[1]? := atI_nat (n := 1)
@[simp] theorem atI_2 {α : Type} {l : List α} : atI l 2 = l[2]? := atI_nat (n := 2)
@[simp] theorem atI_3 {α : Type} {l : List α} : atI l 3 = l[3]? := atI_nat (n := 3)
@[simp] theorem atI_4 {α : Type} {l : List α} : atI l 4 = l[4]? := atI_nat (n := 4)
@[simp] theorem atI_n {α : Type} {l : List α} {n : Nat} : atI l (n : Int) = l[n]? := atI_nat
@[simp] theorem sl_le {n : Nat} : (n ≤ sizeLine) = (n ≤ 16777216) := by rw [sizeLine_eq]
end
end Fl
/-! Fl, part 16: loops by an invariant. -/
namespace Fl
open PySem L2
section
variable {c : IH → Prop} {t : Tg} {b : SS} {ds : List D} {e : Lc} {h : IH}
theorem forGo_cons {d : D} {e1 : Lc} (hc : c h) (ht : tgS t d e = some e1) : forGo c t b (d :: ds) e h = match b e1 h with
    | .nx e2 h2 => forGo c t b ds e2 h2
    | .ct e2 h2 => forGo c t b ds e2 h2
    | .bk e2 h2 => .nx e2 h2
    | r => r := by
  rw [forGo, if_pos hc, ht]
  try rfl
theorem for_from (I : Nat → Lc → IH → Prop) (P : RS → Prop) (l : List D)
    (step : ∀ (i : Nat) (d : D) (e : Lc) (h : IH), l[i]? = some d → I i e h → c h ∧ ∃ e1, tgS t d e = some e1 ∧ ((∃ e2 h2, (b e1 h = .nx e2 h2 ∨ b e1 h = .ct e2 h2) ∧ I (i + 1) e2 h2) ∨ (∃ e2 h2, b e1 h = .bk e2 h2 ∧ P (.nx e2 h2)) ∨ (∃ d h2, b e1 h = .rt d h2 ∧ P (.rt d h2))))
    (fin : ∀ e h, I l.length e h → c h ∧ P (.nx e h)) : ∀ (ds : List D) (j : Nat) (e : Lc) (h : IH), l.drop j = ds → j ≤ l.length → I j e h → P (forGo c t b ds e h)
  | [], j, e, h, hd, hj, i0 => by
    have e1 : j = l.length := by
      have z := congrArg List.length hd
      simp at z
      omega
    subst e1
    obtain ⟨q, r⟩ := fin e h i0
    rw [forGo, if_pos q]
    exact r
  | d :: ds, j, e, h, hd, hj, i0 => by
    have hlt : j < l.length := by
      have z := congrArg List.length hd
      simp at z
      omega
    rw [List.drop_eq_getElem_cons hlt] at hd
    obtain ⟨h1, h2⟩ := List.cons.inj hd
    obtain ⟨q, e1, ht, s⟩ := step j d e h (by rw [List.getElem?_eq_getElem hlt, h1]) i0
    rw [forGo_cons q ht]
    rcases s with ⟨e2, h3, z, i1⟩ | ⟨e2, h3, z, p⟩ | ⟨d, h3, z, p⟩
    · rcases z with z | z
      · rw [z]
        exact for_from I P l step fin ds (j + 1) e2 h3 h2 hlt i1
      · rw [z]
        exact for_from I P l step fin ds (j + 1) e2 h3 h2 hlt i1
    · rw [z]
      exact p
    · rw [z]
      exact p
theorem for_run (I : Nat → Lc → IH → Prop) (P : RS → Prop)
    (step : ∀ (i : Nat) (d : D) (e : Lc) (h : IH), ds[i]? = some d → I i e h → c h ∧ ∃ e1, tgS t d e = some e1 ∧ ((∃ e2 h2, (b e1 h = .nx e2 h2 ∨ b e1 h = .ct e2 h2) ∧ I (i + 1) e2 h2) ∨ (∃ e2 h2, b e1 h = .bk e2 h2 ∧ P (.nx e2 h2)) ∨ (∃ d h2, b e1 h = .rt d h2 ∧ P (.rt d h2))))
    (fin : ∀ e h, I ds.length e h → c h ∧ P (.nx e h)) (i0 : I 0 e h) : P (forGo c t b ds e h) := for_from I P ds step fin ds 0 e h rfl (Nat.zero_le _) i0
/-- [f for t in ..], f a plain reading -/
theorem lc_from {h1 : IH} {f : SE} (l ys : List D) (hl : l.length = ys.length) (hc : ∀ acc, c (h1 ++ [.lst acc])) (small : ys.length ≤ sizeLine)
    (step : ∀ (i : Nat) (d y : D), l[i]? = some d → ys[i]? = some y → ∃ e1, tgS t d e = some e1 ∧ ∀ acc, f e1 (h1 ++ [.lst acc]) = .ok y (h1 ++ [.lst acc])) :
    ∀ (ds : List D) (j : Nat), l.drop j = ds → j ≤ l.length → lcGo c t tYe f h1.length e ds (h1 ++ [.lst (ys.take j)]) = .ok (.ref h1.length) (h1 ++ [.lst ys])
  | [], j, hd, hj => by
    have e1 : j = l.length := by
      have z := congrArg List.length hd
      simp at z
      omega
    rw [lcGo, if_pos (hc _), e1, hl, List.take_length]
  | d :: ds, j, hd, hj => by
    have hlt : j < l.length := by
      have z := congrArg List.length hd
      simp at z
      omega
    have hlt2 : j < ys.length := by omega
    rw [List.drop_eq_getElem_cons hlt] at hd
    obtain ⟨q1, q2⟩ := List.cons.inj hd
    obtain ⟨e1, ht, s⟩ := step j d ys[j] (by rw [List.getElem?_eq_getElem hlt, q1]) (List.getElem?_eq_getElem hlt2)
    have at1 : (h1 ++ [HB.lst (ys.take j)])[h1.length]? = some (.lst (ys.take j)) := by simp
    have sm : (ys.take j).length < sizeLine := by
      rw [List.length_take]
      omega
    have st : (h1 ++ [HB.lst (ys.take j)]).set h1.length (.lst (ys.take j ++ [ys[j]])) = h1 ++ [.lst (ys.take (j + 1))] := by
      rw [List.take_succ_eq_append_getElem hlt2]
      simp
    rw [lcGo, if_pos (hc _), ht]
    show (R.ok true (h1 ++ [HB.lst (ys.take j)])).bindN _ = _
    rw [bindN_ok, if_pos rfl, s, bindN_ok, at1]
    dsimp only
    rw [if_pos sm, st]
    exact lc_from l ys hl hc small step ds (j + 1) q2 hlt
theorem lc_map {h1 : IH} {f : SE} {ys : List D} (hl : ds.length = ys.length) (hc : ∀ acc, c (h1 ++ [.lst acc])) (small : ys.length ≤ sizeLine)
    (step : ∀ (i : Nat) (d y : D), ds[i]? = some d → ys[i]? = some y → ∃ e1, tgS t d e = some e1 ∧ ∀ acc, f e1 (h1 ++ [.lst acc]) = .ok y (h1 ++ [.lst acc])) :
    lcGo c t tYe f h1.length e ds (h1 ++ [.lst []]) = .ok (.ref h1.length) (h1 ++ [.lst ys]) := lc_from ds ys hl hc small step ds 0 rfl (Nat.zero_le _)
end
theorem rgD_len {lo : Int} {n : Nat} : (rgD lo n).length = n := by simp [rgD]
theorem rgD_get {lo : Int} {n i : Nat} {d : D} (h : (rgD lo n)[i]? = some d) : i < n ∧ d = .int (lo + i) := by
  unfold rgD at h
  rw [List.getElem?_map] at h
  by_cases hi : i < n
  · rw [List.getElem?_range hi] at h
    exact ⟨hi, (Option.some.inj h).symm⟩
  · rw [List.getElem?_eq_none (by simpa using hi)] at h
    cases h
end Fl
/-! Fl, part 17: more calls: abs, str, list, tuple, sorted, max, min. -/
namespace Fl
open PySem L2
section
variable {X : Cx} {cl : Nat → Addr} {W : WX}
def bAbs : List D → IH → R D
  | [.int i], h => .ok (.int (if i < 0 then -i else i)) h
  | _, _ => .bad
theorem b_abs : BCall X cl W (.builtin "abs") bAbs := by
  refine ⟨_, call_abs, fun ws h H σ ds xs Q hr r q => ?_⟩
  unfold bAbs at q
  split at q
  · obtain ⟨x, rfl, rx⟩ := r.one
    obtain rfl := (show x = _ from rx)
    exact ⟨_, rfl, q.now hr rfl⟩
  · exact q.elim
def strI (i : Int) : Str := Str.ofString (toString i)
def bStr : List D → IH → R D
  | [.int i], h => if i.natAbs.log2 < 1920 then .ok (.str (strI i)) h else .bad
  | _, _ => .bad
theorem b_str : BCall X cl W (.type "str") bStr := by
  refine ⟨_, call_str_int, fun ws h H σ ds xs Q hr r q => ?_⟩
  unfold bStr at q
  split at q
  · split at q
    · rename_i hz
      obtain ⟨x, rfl, rx⟩ := r.one
      obtain rfl := (show x = _ from rx)
      exact ⟨_, rfl, hz, q.now hr rfl⟩
    · exact q.elim
  · exact q.elim
def kD : Key → D
  | .inl i => .int i
  | .inr s => .str s
theorem KR.keys {K : PySem.W.Frag} {ws : List Addr} {H : Hp} : ∀ {kvs : List (Key × D)} {xs : List (Key × V)}, KR K ws H kvs xs → xs.map (·.1) = kvs.map (·.1)
  | [], _, h => by cases h; rfl
  | _ :: _, _, h => by
    obtain ⟨x, r, rfl, h1, h2⟩ := h
    simp [KR.keys h2]
theorem kD_vr {K : PySem.W.Frag} {ws : List Addr} {H : Hp} : ∀ ks : List Key, VRs K ws H (ks.map kD) (ks.map kV)
  | [] => rfl
  | .inl i :: ks => ⟨_, _, rfl, rfl, kD_vr ks⟩
  | .inr i :: ks => ⟨_, _, rfl, rfl, kD_vr ks⟩
def bList : List D → IH → R D
  | [.tup l], h => .ok (.ref h.length) (h ++ [.lst l])
  | [.fls l], h => .ok (.ref h.length) (h ++ [.lst l])
  | [.ref n], h => match h[n]? with
    | some (.lst l) => .ok (.ref h.length) (h ++ [.lst l])
    | some (.dic kvs) => .ok (.ref h.length) (h ++ [.lst (kvs.map fun kv => kD kv.1)])
    | _ => .bad
  | _, _ => .bad
theorem b_list (hc : X.calm = true) : BCall X cl W (.type "list") bList := by
  refine ⟨_, call_list_of.or (call_listD hc), fun ws h H σ ds xs Q hr r q => ?_⟩
  unfold bList at q
  split at q
  · obtain ⟨x, rfl, a, ys, rfl, s, rl⟩ := r.one
    exact .inl ⟨a, ys, rfl, .inr s.t, fun p hp => q.newList hr hp rl fun e => VR.refI e⟩
  · obtain ⟨x, rfl, a, ys, rfl, s, rl⟩ := r.one
    exact .inl ⟨a, ys, rfl, .inl s.sq, fun p hp => q.newList hr hp rl fun e => VR.refI e⟩
  · obtain ⟨x, rfl, rx⟩ := r.one
    split at q
    · rename_i hl
      obtain ⟨a, ys, rfl, _, e3, rl⟩ := rx.list hr hl
      exact .inl ⟨a, ys, rfl, .inl (SqL.of e3), fun p hp => q.newList hr hp rl fun e => VR.refI e⟩
    · rename_i kvs hl
      obtain ⟨a, ys, rfl, _, e3, rl⟩ := rx.dict hr hl
      refine .inr ⟨a, ys, rfl, .inl e3, fun p hp => ?_⟩
      have e1 : ys.map (fun kv => kV kv.1) = (kvs.map (·.1)).map kV := by
        rw [← rl.keys, List.map_map]
        rfl
      rw [e1]
      have e2 : (kvs.map fun kv => kD kv.1) = (kvs.map (·.1)).map kD := by
        rw [List.map_map]
        rfl
      rw [e2] at q
      exact q.newList hr hp (kD_vr _) fun e => VR.refI e
    · exact q.elim
  · exact q.elim
def bTup : List D → IH → R D
  | [.tup l], h => .ok (.tup l) h
  | [.fls l], h => .ok (.tup l) h
  | [.ref n], h => match h[n]? with
    | some (.lst l) => .ok (.tup l) h
    | _ => .bad
  | _, _ => .bad
theorem b_tup : BCall X cl W (.type "tuple") bTup := by
  refine ⟨_, call_tupN, fun ws h H σ ds xs Q hr r q => ?_⟩
  unfold bTup at q
  split at q
  · obtain ⟨x, rfl, a, ys, rfl, s, rl⟩ := r.one
    exact ⟨a, ys, rfl, .inr ⟨s.t, q.now hr (VR.tupI s rl)⟩⟩
  · obtain ⟨x, rfl, a, ys, rfl, s, rl⟩ := r.one
    exact ⟨a, ys, rfl, .inl ⟨s.sq, fun p o hp hc hd => q.fresh hr hp fun le => VR.tupI (SqN.new hc hd) (rl.mono (List.prefix_refl _) le)⟩⟩
  · obtain ⟨x, rfl, rx⟩ := r.one
    split at q
    · rename_i hl
      obtain ⟨a, ys, rfl, _, e3, rl⟩ := rx.list hr hl
      exact ⟨a, ys, rfl, .inl ⟨SqL.of e3, fun p o hp hc hd => q.fresh hr hp fun le => VR.tupI (SqN.new hc hd) (rl.mono (List.prefix_refl _) le)⟩⟩
    · exact q.elim
  · exact q.elim
/-! ints -/
def intsD : List D → Option (List Int)
  | [] => some []
  | .int i :: l => (intsD l).map (i :: ·)
  | _ => none
theorem intsD_eq : ∀ {l : List D} {ns : List Int}, intsD l = some ns → l = ns.map D.int
  | [], ns, h => by cases h; rfl
  | .int i :: l, ns, h => by
    unfold intsD at h
    cases e : intsD l with
    | none => rw [e] at h; cases h
    | some ms =>
      rw [e] at h
      cases h
      rw [intsD_eq e]
      rfl
  | .non :: _, _, h => by cases h
  | .bl _ :: _, _, h => by cases h
  | .str _ :: _, _, h => by cases h
  | .tup _ :: _, _, h => by cases h
  | .fls _ :: _, _, h => by cases h
  | .ref _ :: _, _, h => by cases h
theorem intsD_map (ns : List Int) : intsD (ns.map D.int) = some ns := by
  induction ns with
  | nil => rfl
  | cons i ns ih => show (intsD (ns.map D.int)).map (i :: ·) = _; rw [ih]; rfl
/-- sorted -/
def insI (x : Int) : List Int → List Int
  | [] => [x]
  | y :: l => if x ≤ y then x :: y :: l else y :: insI x l
def srt : List Int → List Int
  | [] => []
  | x :: l => insI x (srt l)
theorem insI_perm (x : Int) : ∀ l, (insI x l).Perm (x :: l)
  | [] => .refl _
  | y :: l => by
    unfold insI
    split
    · exact .refl _
    · exact ((insI_perm x l).cons y).trans (.swap x y l)
theorem srt_perm : ∀ l, (srt l).Perm l
  | [] => .refl _
  | x :: l => (insI_perm x _).trans ((srt_perm l).cons x)
theorem insI_srt (x : Int) : ∀ {l : List Int}, l.Pairwise (· ≤ ·) → (insI x l).Pairwise (· ≤ ·)
  | [], _ => by simp [insI]
  | y :: l, h => by
    unfold insI
    obtain ⟨h1, h2⟩ := List.pairwise_cons.mp h
    split
    · rename_i hxy
      refine List.pairwise_cons.mpr ⟨fun z hz => ?_, h⟩
      rcases List.mem_cons.mp hz with rfl | hz
      · exact hxy
      · exact Int.le_trans hxy (h1 z hz)
    · rename_i hxy
      refine List.pairwise_cons.mpr ⟨fun z hz => ?_, insI_srt x h2⟩
      have z2 := (insI_perm x l).mem_iff.mp hz
      rcases List.mem_cons.mp z2 with rfl | z2
      · omega
      · exact h1 z z2
theorem srt_srt : ∀ l, (srt l).Pairwise (· ≤ ·)
  | [] => List.Pairwise.nil
  | x :: l => insI_srt x (srt_srt l)
theorem srt_uniq : ∀ {l m : List Int}, l.Perm m → l.Pairwise (· ≤ ·) → m.Pairwise (· ≤ ·) → l = m
  | [], m, p, _, _ => (p.symm.eq_nil).symm
  | x :: l, [], p, _, _ => absurd p.length_eq (by simp)
  | x :: l, y :: m, p, hl, hm => by
    obtain ⟨l1, l2⟩ := List.pairwise_cons.mp hl
    obtain ⟨m1, m2⟩ := List.pairwise_cons.mp hm
    have e : x = y := by
      have a1 : x ∈ y :: m := p.mem_iff.mp (List.mem_cons_self ..)
      have a2 : y ∈ x :: l := p.mem_iff.mpr (List.mem_cons_self ..)
      rcases List.mem_cons.mp a1 with e | a1
      · exact e
      · rcases List.mem_cons.mp a2 with e | a2
        · exact e.symm
        · have z1 := m1 x a1
          have z2 := l1 y a2
          omega
    subst e
    rw [srt_uniq (List.Perm.cons_inv p) l2 m2]
def dkeys (kvs : List (Key × D)) : Option (List Int) := kvs.foldr (fun kv r => match kv.1 with
  | .inl i => r.map (i :: ·)
  | .inr _ => none) (some [])
theorem dkeys_eq : ∀ {kvs : List (Key × D)} {ns : List Int}, dkeys kvs = some ns → kvs.map (·.1) = ns.map Sum.inl
  | [], ns, h => by cases h; rfl
  | (.inl i, d) :: kvs, ns, h => by
    have h : (dkeys kvs).map (i :: ·) = some ns := h
    cases e : dkeys kvs with
    | none => rw [e] at h; cases h
    | some ms =>
      rw [e] at h
      cases h
      show Sum.inl i :: kvs.map (·.1) = _
      rw [dkeys_eq e]
      rfl
  | (.inr i, d) :: kvs, ns, h => by
    have h : (none : Option (List Int)) = some ns := h
    cases h
def bSorted : List D → IH → R D
  | [.ref n], h => match h[n]? with
    | some (.lst l) => (match intsD l with
      | some ns => .ok (.ref h.length) (h ++ [.lst ((srt ns).map D.int)])
      | none => .bad)
    | some (.dic kvs) => (match dkeys kvs with
      | some ns => if ns.length < 64 then .ok (.ref h.length) (h ++ [.lst ((srt ns).map D.int)]) else .bad
      | none => .bad)
    | _ => .bad
  | _, _ => .bad
theorem b_sorted (hc : X.calm = true) : BCall X cl W (.builtin "sorted") bSorted := by
  refine ⟨_, cr_sortedI.or (call_sortedDI hc), fun ws h H σ ds xs Q hr r q => ?_⟩
  unfold bSorted at q
  split at q
  · obtain ⟨x, rfl, rx⟩ := r.one
    split at q
    · rename_i l hl
      obtain ⟨a, ys, rfl, _, e3, rl⟩ := rx.list hr hl
      split at q
      · rename_i ns hn
        have el := intsD_eq hn
        subst el
        rw [rl.of_ints] at e3
        refine .inl ⟨a, ns, rfl, SqL.of e3, fun ns' p hp hs hnp => ?_⟩
        rw [srt_uniq (hp.trans (srt_perm ns).symm) hs (srt_srt ns)]
        exact q.newList hr hnp (VRs.ints _) fun e => VR.refI e
      · exact q.elim
    · rename_i kvs hl
      obtain ⟨a, ys, rfl, _, e3, rl⟩ := rx.dict hr hl
      split at q
      · rename_i ns hn
        split at q
        · rename_i h64
          refine .inr ⟨a, ys, ns, rfl, .inl e3, by rw [rl.keys, dkeys_eq hn], h64, fun ns' p hp hs hnp => ?_⟩
          rw [srt_uniq (hp.trans (srt_perm ns).symm) hs (srt_srt ns)]
          exact q.newList hr hnp (VRs.ints _) fun e => VR.refI e
        · exact q.elim
      · exact q.elim
    · exact q.elim
  · exact q.elim
/-! max, min -/
def maxI : List Int → Int
  | [] => 0
  | x :: l => l.foldl max x
def minI : List Int → Int
  | [] => 0
  | x :: l => l.foldl min x
theorem fmax : ∀ (l : List Int) (x : Int), (l.foldl max x ∈ x :: l) ∧ ∀ y ∈ x :: l, y ≤ l.foldl max x
  | [], x => by simp
  | z :: l, x => by
    obtain ⟨h1, h2⟩ := fmax l (max x z)
    refine ⟨?_, fun y hy => ?_⟩
    · show l.foldl max (max x z) ∈ _
      rcases List.mem_cons.mp h1 with e | e
      · rw [e]
        by_cases hh : x ≤ z
        · rw [Int.max_eq_right hh]; simp
        · rw [Int.max_eq_left (by omega)]; simp
      · exact List.mem_cons_of_mem _ (List.mem_cons_of_mem _ e)
    · show y ≤ l.foldl max (max x z)
      have h3 := h2 (max x z) (List.mem_cons_self ..)
      rcases List.mem_cons.mp hy with rfl | hy
      · omega
      · rcases List.mem_cons.mp hy with rfl | hy
        · omega
        · exact h2 y (List.mem_cons_of_mem _ hy)
theorem fmin : ∀ (l : List Int) (x : Int), (l.foldl min x ∈ x :: l) ∧ ∀ y ∈ x :: l, l.foldl min x ≤ y
  | [], x => by simp
  | z :: l, x => by
    obtain ⟨h1, h2⟩ := fmin l (min x z)
    refine ⟨?_, fun y hy => ?_⟩
    · show l.foldl min (min x z) ∈ _
      rcases List.mem_cons.mp h1 with e | e
      · rw [e]
        by_cases hh : x ≤ z
        · rw [Int.min_eq_left hh]; simp
        · rw [Int.min_eq_right (by omega)]; simp
      · exact List.mem_cons_of_mem _ (List.mem_cons_of_mem _ e)
    · show l.foldl min (min x z) ≤ y
      have h3 := h2 (min x z) (List.mem_cons_self ..)
      rcases List.mem_cons.mp hy with rfl | hy
      · omega
      · rcases List.mem_cons.mp hy with rfl | hy
        · omega
        · exact h2 y (List.mem_cons_of_mem _ hy)
theorem maxI_is {l : List Int} {m : Int} (h : m ∈ l) (hm : ∀ y ∈ l, y ≤ m) : maxI l = m := by
  cases l with
  | nil => cases h
  | cons x l =>
    obtain ⟨h1, h2⟩ := fmax l x
    have a := hm _ h1
    have b := h2 _ h
    show l.foldl max x = m
    omega
theorem minI_is {l : List Int} {m : Int} (h : m ∈ l) (hm : ∀ y ∈ l, m ≤ y) : minI l = m := by
  cases l with
  | nil => cases h
  | cons x l =>
    obtain ⟨h1, h2⟩ := fmin l x
    have a := hm _ h1
    have b := h2 _ h
    show l.foldl min x = m
    omega
def bMax : List D → IH → R D
  | [.int i, .int j], h => .ok (.int (if j > i then j else i)) h
  | [.ref n], h => match h[n]? with
    | some (.lst l) => (match intsD l with
      | some ns => if 0 < ns.length then .ok (.int (maxI ns)) h else .bad
      | none => .bad)
    | _ => .bad
  | _, _ => .bad
def bMin : List D → IH → R D
  | [.int i, .int j], h => .ok (.int (if j < i then j else i)) h
  | [.ref n], h => match h[n]? with
    | some (.lst l) => (match intsD l with
      | some ns => if 0 < ns.length then .ok (.int (minI ns)) h else .bad
      | none => .bad)
    | _ => .bad
  | _, _ => .bad
theorem b_max (hc : X.calm = true) : BCall X cl W (.builtin "max") bMax := by
  refine ⟨_, (call_max2 hc).or (cr_max hc), fun ws h H σ ds xs Q hr r q => ?_⟩
  unfold bMax at q
  split at q
  · obtain ⟨x, t, rfl, rx, y, t2, rfl, ry, r3⟩ := r
    cases r3
    obtain rfl := (show x = _ from rx)
    obtain rfl := (show y = _ from ry)
    exact .inl ⟨_, _, rfl, q.now hr rfl⟩
  · obtain ⟨x, rfl, rx⟩ := r.one
    split at q
    · rename_i l hl
      obtain ⟨a, ys, rfl, _, e3, rl⟩ := rx.list hr hl
      split at q
      · rename_i ns hn
        split at q
        · rename_i hz
          have el := intsD_eq hn
          subst el
          rw [rl.of_ints] at e3
          refine .inr ⟨a, ns, rfl, SqL.of e3, hz, fun m h1 h2 => ?_⟩
          rw [← maxI_is h1 h2]
          exact q.now hr rfl
        · exact q.elim
      · exact q.elim
    · exact q.elim
  · exact q.elim
theorem b_min (hc : X.calm = true) : BCall X cl W (.builtin "min") bMin := by
  refine ⟨_, (call_min2 hc).or (cr_min hc), fun ws h H σ ds xs Q hr r q => ?_⟩
  unfold bMin at q
  split at q
  · obtain ⟨x, t, rfl, rx, y, t2, rfl, ry, r3⟩ := r
    cases r3
    obtain rfl := (show x = _ from rx)
    obtain rfl := (show y = _ from ry)
    exact .inl ⟨_, _, rfl, q.now hr rfl⟩
  · obtain ⟨x, rfl, rx⟩ := r.one
    split at q
    · rename_i l hl
      obtain ⟨a, ys, rfl, _, e3, rl⟩ := rx.list hr hl
      split at q
      · rename_i ns hn
        split at q
        · rename_i hz
          have el := intsD_eq hn
          subst el
          rw [rl.of_ints] at e3
          refine .inr ⟨a, ns, rfl, SqL.of e3, hz, fun m h1 h2 => ?_⟩
          rw [← minI_is h1 h2]
          exact q.now hr rfl
        · exact q.elim
      · exact q.elim
    · exact q.elim
  · exact q.elim
end
end Fl
/-! Fl, part 18: sorted(set(t)); methods of texts, tuples, lists; dicts. -/
namespace Fl
open PySem L2
def SetIO (w : World) (a : Addr) (S : Int → Bool) (n : Nat) : HO := .ext fun h => SetR w h a S n
theorem setIO_new {w : World} {P : Program} {H : Hp} {h : Heap} {a : Addr} {S : Int → Bool} {n : Nat} (R : SetR w h a S n) : ObjOk P w H h a (SetIO w a S n) :=
  ⟨R, (let ⟨o, _, _, _, e, _⟩ := R; ⟨o, e⟩), fun _ _ r k => SetR.at r fun o e => k o e⟩
theorem setIO_at {w : World} {P : Program} {H : Hp} {h : Heap} {a : Addr} {S : Int → Bool} {n : Nat} (ok : HOk P w H h) (e : H a = some (SetIO w a S n)) : SetR w h a S n := by
  have z : ObjOk P w H h a (SetIO w a S n) := ok a _ e
  exact z.1
section
variable {X : Cx}
theorem call_setTI (hc : X.calm = true) : CallR X (.type "set") (fun xs H Q => ∃ (p : Addr) (ns : List Int), xs = [.ref p] ∧ SqT X.K H p (ns.map V.int) ∧ ns.length ≤ 1000 ∧
    ∀ a c, H a = none → c ≤ ns.length → Q (.ref a) (upd H a (SetIO X.w a (fun j => decide (j ∈ ns)) c))) := by
  intro pins s σ H xs us Q I r ⟨p0, ns, e1, hq, hl, q⟩
  subst e1
  cases r with
  | cons r rr =>
    cases rr
    cases r
    obtain ⟨its, rv, pt, hz⟩ := I.tuple hq
    have hi : PyProof.Rows.IntsAre its.toArray.toList ns := ints_of_vals rv
    refine call_set_tupI ns (I.ok.hd hc) (show s.heap.IsTuple p0 its.toArray from pt) hi (by unfold scanBound; omega) fun h' tk c R1 hcn k => ?_
    exact ⟨.ref s.heap.objs.size, _, I.laid (t' := tk) k (Nat.le_refl _) (setIO_new R1), rfl, q _ c (I.hok.fresh (Nat.le_refl _)) hcn⟩
theorem call_sortedSI (hc : X.calm = true) : CallR X (.builtin "sorted") (fun xs H Q => ∃ (a : Addr) (S : Int → Bool) (n : Nat), xs = [.ref a] ∧ H a = some (SetIO X.w a S n) ∧ n < 64 ∧
    ∀ (ks : List Int) (p : Addr), ks.Pairwise (· < ·) → (∀ k, k ∈ ks ↔ S k = true) → H p = none → Q (.ref p) (upd H p (.lst (ks.map V.int)))) := by
  intro pins s σ H xs us Q I r ⟨a, S, n, e1, ea, h64, q⟩
  subst e1
  cases r with
  | cons r rr =>
    cases rr
    cases r
    refine sorted_set (setIO_at I.hok ea) (I.ok.hd hc) h64 fun s' p out c ns k g1 o1 hz hp h1 h2 h3 h4 => ?_
    have hn : H p = none := I.hok.fresh hz
    obtain ⟨h', g', d', t', os'⟩ := s'
    have hlen : (ns.map V.int).length ≤ sizeLine := by rw [List.length_map, h4]; exact small64 h64
    have un : Un (frs X.stack) [] H (upd H p (.lst (ns.map V.int))) s.heap h' := Un.laid k hz hn
    have ok' : HOk X.prog X.w (upd H p (.lst (ns.map V.int))) h' := I.hok.laid k hz ⟨hlen, out.toList, c, vals_of_ints h1, hp⟩
    refine ⟨.ref p, upd H p (.lst (ns.map V.int)), I.call' (ch := []) o1 un ok' (by rw [show g' = s.gens from g1]; exact I.bare) (fun _ z => nomatch z), rfl, q ns p h2 h3 hn⟩
end
/-! sorted(set(t)) -/
def insU (x : Int) : List Int → List Int
  | [] => [x]
  | y :: l => if x < y then x :: y :: l else if x = y then y :: l else y :: insU x l
def usrt : List Int → List Int
  | [] => []
  | x :: l => insU x (usrt l)
theorem insU_mem {x z : Int} : ∀ {l : List Int}, z ∈ insU x l ↔ z = x ∨ z ∈ l
  | [] => by simp [insU]
  | y :: l => by
    unfold insU
    split
    · simp
    · split
      · rename_i e
        subst e
        simp
      · simp [insU_mem (l := l)]
        constructor
        · rintro (h | h | h)
          · exact .inr (.inl h)
          · exact .inl h
          · exact .inr (.inr h)
        · rintro (h | h | h)
          · exact .inr (.inl h)
          · exact .inl h
          · exact .inr (.inr h)
theorem usrt_mem {z : Int} : ∀ {l : List Int}, z ∈ usrt l ↔ z ∈ l
  | [] => by simp [usrt]
  | x :: l => by
    unfold usrt
    rw [insU_mem, usrt_mem (l := l)]
    simp
theorem insU_srt {x : Int} : ∀ {l : List Int}, l.Pairwise (· < ·) → (insU x l).Pairwise (· < ·)
  | [], _ => by simp [insU]
  | y :: l, h => by
    obtain ⟨h1, h2⟩ := List.pairwise_cons.mp h
    unfold insU
    split
    · rename_i hx
      refine List.pairwise_cons.mpr ⟨fun z hz => ?_, h⟩
      rcases List.mem_cons.mp hz with rfl | hz
      · exact hx
      · exact Int.lt_trans hx (h1 z hz)
    · split
      · exact h
      · refine List.pairwise_cons.mpr ⟨fun z hz => ?_, insU_srt h2⟩
        rcases insU_mem.mp hz with rfl | hz
        · omega
        · exact h1 z hz
theorem usrt_srt : ∀ l : List Int, (usrt l).Pairwise (· < ·)
  | [] => List.Pairwise.nil
  | x :: l => insU_srt (usrt_srt l)
theorem usrt_uniq : ∀ {l m : List Int}, l.Pairwise (· < ·) → m.Pairwise (· < ·) → (∀ k, k ∈ l ↔ k ∈ m) → l = m
  | [], [], _, _, _ => rfl
  | [], y :: m, _, _, e => absurd ((e y).mpr (List.mem_cons_self ..)) (by simp)
  | x :: l, [], _, _, e => absurd ((e x).mp (List.mem_cons_self ..)) (by simp)
  | x :: l, y :: m, hl, hm, e => by
    obtain ⟨l1, l2⟩ := List.pairwise_cons.mp hl
    obtain ⟨m1, m2⟩ := List.pairwise_cons.mp hm
    have exy : x = y := by
      have a1 := (e x).mp (List.mem_cons_self ..)
      have a2 := (e y).mpr (List.mem_cons_self ..)
      rcases List.mem_cons.mp a1 with q | a1
      · exact q
      · rcases List.mem_cons.mp a2 with q | a2
        · exact q.symm
        · have z1 := m1 x a1
          have z2 := l1 y a2
          omega
    subst exy
    rw [usrt_uniq l2 m2 fun k => ?_]
    constructor
    · intro hk
      rcases List.mem_cons.mp ((e k).mp (List.mem_cons_of_mem _ hk)) with q | q
      · have z := l1 k hk
        omega
      · exact q
    · intro hk
      rcases List.mem_cons.mp ((e k).mpr (List.mem_cons_of_mem _ hk)) with q | q
      · have z := m1 k hk
        omega
      · exact q
section
variable {X : Cx} {cl : Nat → Addr} {W : WX}
def eSS (f : SE) : SE := fun e h => (f e h).bind fun d h1 => match d with
  | .tup l => (match intsD l with
    | some ns => if ns.length < 64 then .ok (.ref h1.length) (h1 ++ [.lst ((usrt ns).map D.int)]) else .bad
    | none => .bad)
  | _ => .bad
theorem de_srtset {p p2 pos pos2 : Pos} {a : Expr} {f : SE} (hc : X.calm = true) (hg : Gl X "sorted") (hm : X.mg "sorted" = none) (hg2 : Gl X "set") (hm2 : X.mg "set" = none) (ha : DE X cl W a f)
    (h1 : starEach [a] X.env = (false, eval a X.env) :: starEach [] X.env := by rfl) (h2 : starEach [.Call (.Name "set" p2) [a] [] pos2] X.env = (false, eval (.Call (.Name "set" p2) [a] [] pos2) X.env) :: starEach [] X.env := by rfl) :
    DE X cl W (.Call (.Name "sorted" p) [.Call (.Name "set" p2) [a] [] pos2] [] pos) (eSS f) := by
  have inner := pe_callTy (p := p2) (pos := pos2) (call_setTI hc) hg2 hm2 (by decide +kernel) (pa_cons ha.p pa_nil h1) (by decide) (by decide) h1 (by rfl)
  refine ⟨peImp (pe_callB (call_sortedSI hc) hg hm (by decide +kernel) (pa_cons inner pa_nil h2) (by decide) (by decide) h2 (by rfl)) fun σ H Q ⟨ws, lc, h, hr, lr, q⟩ => ⟨ws, lc, h, hr, lr, ?_⟩⟩
  refine rd.seq q fun ws1 d h1 H1 v p1 l1 hr1 r1 q1 => ?_
  split at q1
  · split at q1
    · rename_i l ns hn
      split at q1
      · rename_i h64
        have el := intsD_eq hn
        subst el
        obtain ⟨t, xs, rfl, sq, rl⟩ := r1
        rw [rl.of_ints] at sq
        refine ⟨t, ns, rfl, sq.t, by omega, fun b c nb hcn => ?_⟩
        have kb : Kept b H1 (upd H1 b (SetIO X.w b (fun j => decide (j ∈ ns)) c)) := Kept.new nb
        have hr2 := hr1.keep kb (hr1.free nb)
        refine ⟨b, _, c, rfl, upd_same, by omega, fun ks y hk1 hk2 ny => ?_⟩
        have e : ks = usrt ns := usrt_uniq hk1 (usrt_srt ns) fun k => by rw [hk2 k, usrt_mem, decide_eq_true_eq]
        rw [e]
        exact (rd.mono (List.prefix_refl _) kb.le q1).newList hr2 ny (VRs.ints _) fun e => VR.refI e
      · exact q1.elim
    · exact q1.elim
  · exact q1.elim
end
end Fl
/-! Fl, part 19: dicts; methods of texts, tuples, lists. -/
namespace Fl
open PySem L2
theorem peOr {X : Cx} {e : Expr} {t u : TE} (h : PE X e t) (k : PE X e u) : PE X e (fun σ H Q => t σ H Q ∨ u σ H Q) := ⟨fun pins s σ H Q I q => q.elim (h.run pins s σ H Q I) (k.run pins s σ H Q I)⟩
def keyD : D → Option Key
  | .int i => some (.inl i)
  | .str s => some (.inr s)
  | _ => none
theorem keyD_of {K : PySem.W.Frag} {ws : List Addr} {H : Hp} {d : D} {v : V} {k : Key} (r : VR K ws H d v) (e : keyD d = some k) : v = kV k := by
  cases d <;> first
    | (cases e; done)
    | skip
  · cases e
    exact r
  · cases e
    exact r
def putKD (kvs : List (Key × D)) (k : Key) (d : D) : List (Key × D) := if (kvs.any fun kv => decide (kv.1 = k)) = true then kvs.map (fun kv => if kv.1 = k then (kv.1, d) else kv) else kvs ++ [(k, d)]
section
variable {K : PySem.W.Frag} {ws : List Addr} {H : Hp}
theorem KR.any {k : Key} : ∀ {kvs : List (Key × D)} {xs : List (Key × V)}, KR K ws H kvs xs → (xs.any fun kv => decide (kv.1 = k)) = (kvs.any fun kv => decide (kv.1 = k))
  | [], _, h => by cases h; rfl
  | _ :: _, _, h => by
    obtain ⟨x, r, rfl, h1, h2⟩ := h
    rw [List.any_cons, List.any_cons, KR.any h2]
theorem KR.mapP {k : Key} {d : D} {v : V} (rv : VR K ws H d v) : ∀ {kvs : List (Key × D)} {xs : List (Key × V)}, KR K ws H kvs xs → KR K ws H (kvs.map fun kv => if kv.1 = k then (kv.1, d) else kv) (xs.map fun kv => if kv.1 = k then (kv.1, v) else kv)
  | [], _, h => by cases h; rfl
  | p :: _, _, h => by
    obtain ⟨x, r, rfl, h1, h2⟩ := h
    rw [List.map_cons, List.map_cons]
    by_cases e : p.1 = k
    · rw [if_pos e, if_pos (show (p.1, x).1 = k from e)]
      exact ⟨v, _, rfl, rv, KR.mapP rv h2⟩
    · rw [if_neg e, if_neg (show ¬ (p.1, x).1 = k from e)]
      exact ⟨x, _, rfl, h1, KR.mapP rv h2⟩
theorem KR.app : ∀ {a b : List (Key × D)} {x y : List (Key × V)}, KR K ws H a x → KR K ws H b y → KR K ws H (a ++ b) (x ++ y)
  | [], _, _, _, h, t => by cases h; exact t
  | _ :: _, _, _, _, h, t => by
    obtain ⟨x, r, rfl, h1, h2⟩ := h
    exact ⟨x, _, rfl, h1, KR.app h2 t⟩
theorem KR.put {k : Key} {d : D} {v : V} {kvs : List (Key × D)} {xs : List (Key × V)} (r : KR K ws H kvs xs) (rv : VR K ws H d v) : KR K ws H (putKD kvs k d) (putK xs k v) := by
  unfold putKD putK
  rw [r.any]
  split
  · exact r.mapP rv
  · exact r.app ⟨v, [], rfl, rv, rfl⟩
end
section
variable {X : Cx} {cl : Nat → Addr} {W : WX}
/-- {} -/
def eDic0 : SE := fun _ h => .ok (.ref h.length) (h ++ [.dic []])
theorem de_dic0 {pos : Pos} : DE X cl W (.Dict [] [] pos) eDic0 := by
  refine ⟨peImp pe_dnewK fun σ H Q ⟨ws, lc, h, hr, lr, q⟩ => fun p hp => ?_⟩
  have kk : Kept p H (upd H p (.dK [])) := Kept.new hp
  refine q (ws ++ [p]) _ _ (List.prefix_append _ _) kk.le (hr.new hp ⟨[], upd_same, rfl⟩) (VR.refI ?_)
  rw [← hr.len]
  simp
/-- d[k], d a list, a tuple, a text, a dict -/
def fIy : D → D → IH → R D
  | .ref n, k, h => match h[n]? with
    | some (.dic kvs) => (match keyD k with
      | some z => (match kvK kvs z with
        | some d => .ok d h
        | none => .bad)
      | none => .bad)
    | _ => fIx (.ref n) k h
  | a, b, h => fIx a b h
theorem de_iy {a b : Expr} {pos : Pos} {f g : SE} (hu : X.A.units + 1 < cLine) (ha : DE X cl W a f) (hb : DE X cl W b g) (hs : PlainIx b := by exact fun _ _ => rfl) (hs2 : NoSl b := by exact fun _ _ _ _ => rfl) : DE X cl W (.Subscript a b pos) (eOp fIy f g) := by
  have left : DE X cl W (.Subscript a b pos) (eOp fIx f g) := de_ix ha hb hs
  refine ⟨peImp (peOr left.p (pe_dget hu ha.p hb.p hs2)) fun σ H Q ⟨ws, lc, h, hr, lr, q⟩ => ?_⟩
  by_cases key : ∃ n h1 k h2 kvs, f lc h = .ok (.ref n) h1 ∧ g lc h1 = .ok k h2 ∧ h2[n]? = some (.dic kvs)
  · obtain ⟨n, h1, k, h2, kvs, e1, e2, e3⟩ := key
    unfold eOp at q
    rw [e1] at q
    have q : rd X.K cl W (VR X.K) ((g lc h1).bind fun b h2 => fIy (.ref n) b h2) ws H σ Q := q
    rw [e2] at q
    have q : rd X.K cl W (VR X.K) (fIy (.ref n) k h2) ws H σ Q := q
    refine .inr ⟨ws, lc, h, hr, lr, ?_⟩
    rw [e1]
    intro ws1 H1 v p1 l1 hr1 r1
    refine ⟨ws1, lc, h1, hr1, lr.mono p1 l1, ?_⟩
    rw [e2]
    intro ws2 H2 w p2 l2 hr2 r2
    have q3 := rd.mono (p1.trans p2) (l1.trans l2) q
    obtain ⟨a, ys, rfl, _, e4, kr⟩ := (r1.mono p2 l2).dict hr2 e3
    unfold fIy at q3
    dsimp only at q3
    rw [e3] at q3
    dsimp only at q3
    split at q3
    · rename_i z hz
      split at q3
      · rename_i d hd
        obtain ⟨x, ex, rx⟩ := (kvK_of kr).1 d hd
        exact ⟨a, x, rfl, .inl ⟨ys, z, .inl e4, keyD_of r2 hz, ex.symm⟩, q3.now hr2 rx⟩
      · exact q3.elim
    · exact q3.elim
  · refine .inl ⟨ws, lc, h, hr, lr, ?_⟩
    have e : eOp fIx f g lc h = eOp fIy f g lc h := by
      unfold eOp
      cases e1 : f lc h with
      | ok d h1 =>
        show (g lc h1).bind _ = (g lc h1).bind _
        cases e2 : g lc h1 with
        | ok k h2 =>
          show fIx d k h2 = fIy d k h2
          cases d with
          | ref n =>
            unfold fIy
            dsimp only
            split
            · rename_i kvs e3
              exact absurd ⟨n, h1, k, h2, kvs, e1, e2, e3⟩ key
            · rfl
          | _ => rfl
        | ex c fs h2 => rfl
        | bad => rfl
      | ex c fs h1 => rfl
      | bad => rfl
    rw [e]
    exact q
/-- d.get(k) -/
def eGet (f g : SE) : SE := fun e h => (f e h).bind fun d h1 => match d with
  | .ref n => (match h1[n]? with
    | some (.dic _) => (g e h1).bind fun k h2 => (match h2[n]? with
      | some (.dic kvs) => (match keyD k with
        | some z => .ok ((kvK kvs z).getD .non) h2
        | none => .bad)
      | _ => .bad)
    | _ => .bad)
  | _ => .bad
theorem de_get {o a : Expr} {apos cpos : Pos} {f g : SE} (hu : X.A.units + 1 < cLine) (ho : DE X cl W o f) (ha : DE X cl W a g) (m : M1 X o "get" apos a cpos) : DE X cl W (.Call (.Attribute o "get" apos) [a] [] cpos) (eGet f g) := by
  refine ⟨peImp (pe_dget1 hu ho.p ha.p m) fun σ H Q ⟨ws, lc, h, hr, lr, q⟩ => ⟨ws, lc, h, hr, lr, ?_⟩⟩
  refine rd.seq q fun ws1 d h1 H1 v p1 l1 hr1 r1 q1 => ?_
  split at q1
  · rename_i n
    split at q1
    · rename_i kv0 e3
      obtain ⟨a1, ys, rfl, ea, e4, kr⟩ := r1.dict hr1 e3
      refine ⟨a1, rfl, .inl ⟨ys, .inl e4⟩, ws1, lc, h1, hr1, lr.mono p1 l1, ?_⟩
      refine rd.seq q1 fun ws2 k h2 H2 w p2 l2 hr2 r2 q2 => ?_
      split at q2
      · rename_i kvs e5
        split at q2
        · rename_i z hz
          obtain ⟨a2, zs, e6, e7, e8, kr2⟩ := (VR.refI (K := X.K) (H := H2) (pre_get p2 ea)).dict hr2 e5
          cases e6
          have kk := kvK_of kr2 (k := z)
          cases e9 : kvK kvs z with
          | none =>
            rw [e9] at q2
            exact ⟨none, .inl ⟨zs, z, .inl e8, keyD_of r2 hz, (kk.2 e9).symm⟩, q2.now hr2 rfl⟩
          | some d =>
            rw [e9] at q2
            obtain ⟨x, ex, rx⟩ := kk.1 d e9
            exact ⟨some x, .inl ⟨zs, z, .inl e8, keyD_of r2 hz, ex.symm⟩, q2.now hr2 rx⟩
        · exact q2.elim
      · exact q2.elim
    · exact q1.elim
  · exact q1.elim
end
end Fl
/-! Fl, part 20: what is put into a dict; dict(pairs); join, split, index, remove, count. -/
namespace Fl
open PySem L2
theorem psetOr {X : Cx} {r r' : TSet} (h : PSet X r) (k : PSet X r') : PSet X (fun o i v H Q => r o i v H Q ∨ r' o i v H Q) := by
  intro pins s σ H o i v ov iv u Q I ro ri rv q
  rcases q with q | q
  · exact h pins s σ H o i v ov iv u Q I ro ri rv q
  · exact k pins s σ H o i v ov iv u Q I ro ri rv q
section
variable {X : Cx} {cl : Nat → Addr} {W : WX}
def fPuy : D → D → D → IH → Option IH
  | .ref n, k, d, h => match h[n]? with
    | some (.lst l) => (match k with
      | .int i => (match ixN l.length i with
        | some j => some (h.set n (.lst (l.set j d)))
        | none => none)
      | _ => none)
    | some (.dic kvs) => (match keyD k with
      | some z => if kvs.length < sizeLine then some (h.set n (.dic (putKD kvs z d))) else none
      | none => none)
    | _ => none
  | _, _, _, _ => none
def sPuy (fo fi f : SE) : SS := fun e h => (f e h).st e fun d h1 => (fo e h1).st e fun o h2 => (fi e h2).st e fun i h3 => match fPuy o i d h3 with
  | some h4 => .nx e h4
  | none => .bad
/-- o[i] = e, o a list or a dict -/
theorem ds_puy {o i e : Expr} {p pos : Pos} {fo fi f : SE} (hu : X.A.units + 1 < cLine) (he : DE X cl W e f) (ho : DE X cl W o fo) (hi : DE X cl W i fi)
    (ha : ∀ v, assign (.Subscript o i p) X.env v = (do
      let xv ← holding [v] (eval o X.env)
      let yv ← holding [v, xv] (eval i X.env)
      standAt p
      holding [v, xv, yv] (setItem xv yv v)
      release [v, xv, yv] []) := by intro _; rfl)
    (hs : swapsWithSole [.Subscript o i p] e pos.line X.env = pure false := by rfl) (hw : swappedStores [.Subscript o i p] e X.env = pure none := by rfl)
    (h1 : (assignEach [.Subscript o i p] X.env).map (·.2) = [assign (.Subscript o i p) X.env] := by rfl) : DS X cl W (.Assign [.Subscript o i p] e pos) (sPuy fo fi f) := by
  refine ⟨psImp (ps_asg he.p (pg_sub ho.p hi.p (psetOr set_list (set_dict hu)) ha) hs hw h1) fun D σ H ⟨ws, lc, h, hr, lr, q⟩ => ⟨ws, lc, h, hr, lr, ?_⟩⟩
  refine rdS.seq q lr fun ws1 d h1 H1 v p1 l1 hr1 r1 q1 => ⟨ws1, lc, h1, hr1, lr.mono p1 l1, ?_⟩
  refine rdS.seq q1 (lr.mono p1 l1) fun ws2 o h2 H2 vo p2 l2 hr2 r2 q2 => ⟨ws2, lc, h2, hr2, lr.mono (p1.trans p2) (l1.trans l2), ?_⟩
  refine rdS.seq q2 (lr.mono (p1.trans p2) (l1.trans l2)) fun ws3 i h3 H3 vi p3 l3 hr3 r3 q3 => ?_
  split at q3
  · rename_i h4 he4
    have lr3 := lr.mono (p1.trans (p2.trans p3)) (l1.trans (l2.trans l3))
    have rd := r1.mono (p2.trans p3) (l2.trans l3)
    have ro := r2.mono p3 l3
    unfold fPuy at he4
    split at he4
    · split at he4
      · rename_i l hl
        split at he4
        · split at he4
          · rename_i j hj
            cases he4
            obtain ⟨a, xs, rfl, ea, e3, rs⟩ := ro.list hr3 hl
            refine .inl ⟨a, xs, _, j, rfl, r3, e3, by rw [rs.len]; exact hj, ?_⟩
            have kk : Kept a H3 (upd H3 a (.lst (xs.set j v))) := Kept.wr e3 True.intro
            exact q3 ws3 _ σ (List.prefix_refl _) kk.le (hr3.set ea e3 True.intro ⟨_, upd_same, (VRs.set rd j rs).mono (List.prefix_refl _) kk.le⟩) (lr3.mono (List.prefix_refl _) kk.le)
          · cases he4
        · cases he4
      · rename_i kvs hl
        split at he4
        · rename_i z hz
          split at he4
          · rename_i sm
            cases he4
            obtain ⟨a, xs, rfl, ea, e3, rs⟩ := ro.dict hr3 hl
            refine .inr ⟨a, _, rfl, .inl ⟨xs, z, e3, keyD_of r3 hz, by rw [rs.len]; exact sm, rfl⟩, ?_⟩
            have kk : Kept a H3 (upd H3 a (.dK (putK xs z v))) := Kept.wr e3 True.intro
            exact q3 ws3 _ σ (List.prefix_refl _) kk.le (hr3.set ea e3 True.intro ⟨_, upd_same, (rs.put rd).mono (List.prefix_refl _) kk.le⟩) (lr3.mono (List.prefix_refl _) kk.le)
          · cases he4
        · cases he4
      · cases he4
    · cases he4
  · exact q3.elim
/-! dict(pairs) -/
def prsD : List D → Option (List (Key × D))
  | [] => some []
  | .tup [k, d] :: l => match keyD k, prsD l with
    | some z, some r => some ((z, d) :: r)
    | _, _ => none
  | _ => none
def mergeD (kvs more : List (Key × D)) : List (Key × D) := more.foldl (fun acc kv => putKD acc kv.1 kv.2) kvs
theorem KR.merge {K : PySem.W.Frag} {ws : List Addr} {H : Hp} : ∀ {more : List (Key × D)} {rs : List (Key × V)} {kvs : List (Key × D)} {xs : List (Key × V)}, KR K ws H more rs → KR K ws H kvs xs → KR K ws H (mergeD kvs more) (mergeK xs rs)
  | [], _, _, _, h, t => by cases h; exact t
  | p :: more, _, kvs, xs, h, t => by
    obtain ⟨x, r, rfl, h1, h2⟩ := h
    show KR K ws H (mergeD (putKD kvs p.1 p.2) more) (mergeK (putK xs p.1 x) r)
    exact KR.merge h2 (t.put h1)
theorem prs_of {K : PySem.W.Frag} {ws : List Addr} {H : Hp} : ∀ {l : List D} {xs : List V} {m : List (Key × D)}, VRs K ws H l xs → prsD l = some m → ∃ (ps : List Addr) (kvs : List (Key × V)), xs = ps.map V.ref ∧ Paired (fun p kv => SqT K H p [kV kv.1, kv.2]) ps kvs ∧ KR K ws H m kvs
  | [], _, _, h, e => by
    cases h
    cases e
    exact ⟨[], [], rfl, .nil, rfl⟩
  | d :: l, _, m, h, e => by
    obtain ⟨x, r, rfl, h1, h2⟩ := h
    unfold prsD at e
    split at e
    · rename_i e0
      cases e0
    · rename_i k d' l' e0
      obtain ⟨rfl, rfl⟩ := List.cons.inj e0
      split at e
      · rename_i z r' hk hp
        cases e
        obtain ⟨ps, kvs, rfl, pr, kr⟩ := prs_of h2 hp
        obtain ⟨a, ys, rfl, sq, rl⟩ := h1
        obtain ⟨y1, t1, rfl, ry1, y2, t2, rfl, ry2, r3⟩ := rl
        cases r3
        obtain rfl := keyD_of ry1 hk
        exact ⟨a :: ps, (z, y2) :: kvs, rfl, .cons sq.t pr, ⟨y2, kvs, rfl, ry2, kr⟩⟩
      · cases e
    · cases e
def bDict : List D → IH → R D
  | [.ref n], h => match h[n]? with
    | some (.lst l) => (match prsD l with
      | some m => .ok (.ref h.length) (h ++ [.dic (mergeD [] m)])
      | none => .bad)
    | _ => .bad
  | _, _ => .bad
theorem b_dict (hc : X.calm = true) : BCall X cl W (.type "dict") bDict := by
  refine ⟨_, call_dictP hc, fun ws h H σ ds xs Q hr r q => ?_⟩
  unfold bDict at q
  split at q
  · obtain ⟨x, rfl, rx⟩ := r.one
    split at q
    · rename_i l hl
      obtain ⟨a, ys, rfl, _, e3, rl⟩ := rx.list hr hl
      split at q
      · rename_i m hm
        obtain ⟨ps, kvs, rfl, pr, kr⟩ := prs_of rl hm
        refine ⟨a, ps, kvs, rfl, SqL.of e3, pr, fun p hp => ?_⟩
        have kk : Kept p H (upd H p (.dK (mergeK [] kvs))) := Kept.new hp
        refine q (ws ++ [p]) _ _ (List.prefix_append _ _) kk.le (hr.new hp ⟨_, upd_same, (KR.merge kr (kvs := []) rfl).mono (List.prefix_append _ _) kk.le⟩) (VR.refI ?_)
        rw [← hr.len]
        simp
      · exact q.elim
    · exact q.elim
  · exact q.elim
/-! methods -/
def strsD : List D → Option (List Str)
  | [] => some []
  | .str i :: l => (strsD l).map (i :: ·)
  | _ => none
theorem strsD_eq : ∀ {l : List D} {ns : List Str}, strsD l = some ns → l = ns.map D.str
  | [], ns, h => by cases h; rfl
  | .str i :: l, ns, h => by
    unfold strsD at h
    cases e : strsD l with
    | none => rw [e] at h; cases h
    | some ms =>
      rw [e] at h
      cases h
      rw [strsD_eq e]
      rfl
  | .non :: _, _, h => by cases h
  | .bl _ :: _, _, h => by cases h
  | .int _ :: _, _, h => by cases h
  | .tup _ :: _, _, h => by cases h
  | .fls _ :: _, _, h => by cases h
  | .ref _ :: _, _, h => by cases h
theorem strsD_map (ns : List Str) : strsD (ns.map D.str) = some ns := by
  induction ns with
  | nil => rfl
  | cons i ns ih => show (strsD (ns.map D.str)).map (i :: ·) = _; rw [ih]; rfl
def mJoin : D → List D → IH → R D
  | .str a, [.ref n], h => match h[n]? with
    | some (.lst l) => (match strsD l with
      | some ys => if (ys.map (·.length)).sum + ys.length * a.length ≤ 16777216 then .ok (.str (Txt.join a ys)) h else .bad
      | none => .bad)
    | _ => .bad
  | _, _, _ => .bad
theorem m_join : MtOk X cl W "str.join" mJoin := by
  refine ⟨_, mt_join, fun ws h H σ d ds x xs Q hr rx rs q => ?_⟩
  unfold mJoin at q
  split at q
  · split at q
    · rename_i l hl
      obtain ⟨y, rfl, ry⟩ := rs.one
      obtain ⟨b, zs, rfl, _, f3, r2⟩ := ry.list hr hl
      split at q
      · rename_i ys hy
        split at q
        · rename_i hz
          obtain rfl := strsD_eq hy
          rw [r2.of_strs] at f3
          obtain rfl := (show x = _ from rx)
          exact ⟨_, b, ys, rfl, rfl, .inl (SqL.of f3), hz, q.now hr rfl⟩
        · exact q.elim
      · exact q.elim
    · exact q.elim
  · exact q.elim
def mSplit : D → List D → IH → R D
  | .str a, [.str b], h => if (b.length == 0) = false ∧ a.length + 2 ≤ sizeLine then .ok (.ref h.length) (h ++ [.lst ((Txt.split a b).map D.str)]) else .bad
  | _, _, _ => .bad
theorem m_split : MtOk X cl W "str.split" mSplit := by
  refine ⟨_, mt_split, fun ws h H σ d ds x xs Q hr rx rs q => ?_⟩
  unfold mSplit at q
  split at q
  · split at q
    · rename_i hz
      obtain ⟨y, rfl, ry⟩ := rs.one
      obtain rfl := (show x = _ from rx)
      obtain rfl := (show y = _ from ry)
      exact ⟨_, _, rfl, rfl, hz.1, hz.2, fun p hp => q.newList hr hp (VRs.strs _) fun e => VR.refI e⟩
    · exact q.elim
  · exact q.elim
def mRemove : D → List D → IH → R D
  | .ref n, [.int k], h => match h[n]? with
    | some (.lst l) => (match intsD l with
      | some ns => if k ∈ ns then .ok .non (h.set n (.lst ((ns.eraseIdx (ns.idxOf k)).map D.int))) else .bad
      | none => .bad)
    | _ => .bad
  | _, _, _ => .bad
theorem idx_first {ns : List Int} {k : Int} (h : k ∈ ns) : ns[ns.idxOf k]? = some k ∧ ∀ m : Nat, m < ns.idxOf k → ns[m]? ≠ some k := by
  induction ns with
  | nil => cases h
  | cons x ns ih =>
    by_cases e : x = k
    · subst e
      simp
    · rcases List.mem_cons.mp h with q | q
      · exact absurd q.symm e
      · obtain ⟨h1, h2⟩ := ih q
        have ei : (x :: ns).idxOf k = ns.idxOf k + 1 := by
          rw [List.idxOf_cons]
          have : (x == k) = false := by simpa using e
          rw [this]
          rfl
        rw [ei]
        refine ⟨by simpa using h1, fun m hm => ?_⟩
        cases m with
        | zero => simpa using e
        | succ m => simpa using h2 m (by omega)
theorem m_remove : MtOk X cl W "list.remove" mRemove := by
  refine ⟨_, mt_remove, fun ws h H σ d ds x xs Q hr rx rs q => ?_⟩
  unfold mRemove at q
  split at q
  · split at q
    · rename_i l hl
      split at q
      · rename_i ns hn
        split at q
        · rename_i hk
          obtain rfl := intsD_eq hn
          obtain ⟨a, ys, rfl, ea, e3, r⟩ := rx.list hr hl
          rw [r.of_ints] at e3
          obtain ⟨y, rfl, ry⟩ := rs.one
          obtain rfl := (show y = _ from ry)
          obtain ⟨i1, i2⟩ := idx_first hk
          exact ⟨a, ns, _, _, rfl, rfl, e3, i1, i2, q ws _ _ (List.prefix_refl _) (Kept.wr e3 True.intro).le (hr.set ea e3 True.intro ⟨_, upd_same, VRs.ints _⟩) rfl⟩
        · exact q.elim
      · exact q.elim
    · exact q.elim
  · exact q.elim
def mCount : D → List D → IH → R D
  | .ref n, [.int k], h => match h[n]? with
    | some (.lst l) => (match intsD l with
      | some ns => .ok (.int (ns.count k : Nat)) h
      | none => .bad)
    | _ => .bad
  | _, _, _ => .bad
theorem m_count : MtOk X cl W "list.count" mCount := by
  refine ⟨_, mt_lcount, fun ws h H σ d ds x xs Q hr rx rs q => ?_⟩
  unfold mCount at q
  split at q
  · split at q
    · rename_i l hl
      split at q
      · rename_i ns hn
        obtain rfl := intsD_eq hn
        obtain ⟨a, ys, rfl, ea, e3, r⟩ := rx.list hr hl
        rw [r.of_ints] at e3
        obtain ⟨y, rfl, ry⟩ := rs.one
        obtain rfl := (show y = _ from ry)
        exact ⟨a, ns, _, rfl, rfl, SqL.of e3, q.now hr rfl⟩
      · exact q.elim
    · exact q.elim
  · exact q.elim
end
end Fl
/-! Fl, part 21: t.index(n); calls by keywords. -/
namespace Fl
open PySem L2
section
variable {X : Cx} {cl : Nat → Addr} {W : WX}
theorem mt_tixI : MtR X "tuple.index" (fun x xs H Q => ∃ (p : Addr) (ns : List Int) (z : Int) (j : Nat), x = .ref p ∧ xs = [.int z] ∧ SqT X.K H p (ns.map V.int) ∧ ns[j]? = some z ∧ (∀ m : Nat, m < j → ns[m]? ≠ some z) ∧ Q (.int (j : Nat)) H) := by
  intro pins s σ H x xs v us Q I rx rxs want
  obtain ⟨p, ns, k, j, rfl, rfl, hs, hj, hno, q⟩ := want
  cases rx
  obtain ⟨u, rfl, ru⟩ := rxs.one
  obtain ⟨t, rfl⟩ := ru
  obtain ⟨its, rv, ⟨⟨cls, dd, data, sl⟩, ho, hc, n, hd⟩, hlen⟩ := I.tuple hs
  simp only at hc hd
  subst hc hd
  have hi := ints_of_vals rv
  have hl : its.length = ns.length := by rw [← rv.length, List.length_map]
  have hjl : j < its.toArray.size := by rw [List.size_toArray, hl]; exact (List.getElem?_eq_some_iff.mp hj).1
  refine call_meets PySem.F.slot_tuple_index ⟨_, ho, rfl⟩ PySem.F.entry_tuple_index (PySem.F.args_tuple_index_2 _ _)
    (TI.tuple_indexAt p its.toArray n dd sl (.int k t) (eqk k) j hjl ?_ ?_) ⟨ho, fun y hy => (eqk_gives hi y (by simpa using hy)).at _ _, ?_⟩
  · obtain ⟨tj, hjt⟩ := hi.get j k hj
    obtain ⟨a1, a2⟩ := List.getElem?_eq_some_iff.mp hjt
    have e1 : its.toArray[j] = .int k tj := by simpa using a2
    rw [e1]
    exact beq_self_eq_true k
  · intro m hm hmj
    have hmn : m < ns.length := by rw [List.size_toArray] at hm; omega
    obtain ⟨tm, hmt⟩ := hi.get m _ (List.getElem?_eq_getElem hmn)
    obtain ⟨a1, a2⟩ := List.getElem?_eq_some_iff.mp hmt
    have e1 : its.toArray[m] = .int ns[m] tm := by simpa using a2
    rw [e1]
    refine beq_eq_false_iff_ne.mpr fun e2 => hno m hmj ?_
    rw [List.getElem?_eq_getElem hmn, e2]
  · exact ⟨.int (j : Nat), H, I.tok _, ⟨s.toks, rfl⟩, q⟩
def isTup : D → IH → Bool
  | .tup _, _ => true
  | _, _ => false
/-- a value that stands as a tuple without own names -/
def tupV (K : PySem.W.Frag) (x : V) (H : Hp) : Prop := ∃ p xs, x = .ref p ∧ SqN K H p xs
theorem tupV_is {pins : List (Addr × Obj)} {σ : St} {H : Hp} {s : Shared} {x : V} {v : Value} (I : Inv X pins σ H s) (r : RelV x v) (ty : tupV X.K x H) :
    s.TypeIs v "tuple" ∧ ∀ a, v = .ref a → ∃ ob, s.heap.get? a = some ob ∧ ob.dict = none := by
  obtain ⟨p, xs, rfl, hs⟩ := ty
  cases r
  rcases hs with ⟨o, hc, hd, e⟩ | ⟨o, its, n, hk, hc, hd, _⟩
  · have z := I.hok p _ e
    refine ⟨⟨o, z.1, hc⟩, fun a e => ?_⟩
    cases e
    exact ⟨o, z.1, hd⟩
  · refine ⟨⟨o, I.kIn p o hk, hc⟩, fun a e => ?_⟩
    cases e
    exact ⟨o, I.kIn _ o hk, hd⟩
def tBMt (K : PySem.W.Frag) (r : V → List V → Hp → VK → Prop) (to : TE) (t : TA) : TE := fun σ H Q => to σ H fun x H1 => tupV K x H1 ∧ t σ H1 fun xs H2 => r x xs H2 Q
theorem pe_bmt {o e : Expr} {es : List Expr} {to : TE} {t : TA} {name : Str} {apos cpos : Pos} {id : String} {r : V → List V → Hp → VK → Prop} (pa : PlainAttrs "tuple") (slot : Slot "tuple" name id) (hty : typeOf (.builtin id) = pure (.type "method_descriptor")) (hm : MtR X id r) (ho : PE X o to) (ha : PA X (e :: es) t)
    (hbase : attributeBase o name X.env (eval o X.env) = eval o X.env := by rfl)
    (hfew : ((backTo cpos (starEach (e :: es) X.env)).all (fun x => !x.1) && (backToKw cpos (keywordEach [] X.env)).all (fun x => x.1.isSome)
      && decide ((e :: es).length + ([] : List Keyword).length + (if ([] : List Keyword).isEmpty then 0 else 1) < 30)) = true := by rfl)
    (hline : (apos.endLine == cpos.line) = true := by rfl) (hs : starEach (e :: es) X.env = (false, eval e X.env) :: starEach es X.env := by rfl) (hplain : (backTo cpos (starEach es X.env)).any (·.1) = false := by rfl) :
    PE X (.Call (.Attribute o name apos) (e :: es) [] cpos) (tBMt X.K r to t) := by
  refine ⟨fun pins s σ H Q I h => ?_⟩
  refine wpAny_Call_method_late hbase hfew hline rfl (thn (ho.run pins s σ H _ I h) fun v s1 ⟨x, H1, I1, r1, ty, q1⟩ => ?_)
  obtain ⟨h1, h2⟩ := tupV_is I1 r1 ty
  refine ⟨"tuple", id, pa, slot, hty, h1, h2, ?_⟩
  have hA := ha.run cpos pins s1 σ H1 _ I1 q1
  rw [hs] at hA ⊢
  refine Calls.callWith_builtin (by show (false || (backTo cpos (starEach es X.env)).any (·.1)) = false; rw [hplain] <;> rfl) (Calls.evalArgs_plain ?_)
  exact thn hA fun us s2 ⟨vs, H2, I2, r2, q2⟩ => hm pins s2 σ H2 x vs v us Q I2 r1 r2 q2
theorem de_mtt {id : String} {name : Str} {o e : Expr} {es : List Expr} {apos cpos : Pos} {F : D → List D → IH → R D} {f : SE} {g : SA} (pa : PlainAttrs "tuple") (slot : Slot "tuple" name id) (hty : typeOf (.builtin id) = pure (.type "method_descriptor"))
    (m : MtOk X cl W id F) (ho : DE X cl W o f) (ha : DA X cl W (e :: es) g) (hbase : attributeBase o name X.env (eval o X.env) = eval o X.env := by rfl)
    (hfew : ((backTo cpos (starEach (e :: es) X.env)).all (fun x => !x.1) && (backToKw cpos (keywordEach [] X.env)).all (fun x => x.1.isSome)
      && decide ((e :: es).length + ([] : List Keyword).length + (if ([] : List Keyword).isEmpty then 0 else 1) < 30)) = true := by rfl)
    (hline : (apos.endLine == cpos.line) = true := by rfl) (hs : starEach (e :: es) X.env = (false, eval e X.env) :: starEach es X.env := by rfl) (hplain : (backTo cpos (starEach es X.env)).any (·.1) = false := by rfl) :
    DE X cl W (.Call (.Attribute o name apos) (e :: es) [] cpos) (eMt isTup F f g) := by
  obtain ⟨r, hm, hF⟩ := m
  refine ⟨peImp (pe_bmt pa slot hty hm ho.p ha.p hbase hfew hline hs hplain) fun σ H Q ⟨ws, lc, h, hr, lr, q⟩ => ⟨ws, lc, h, hr, lr, ?_⟩⟩
  refine rd.seq q fun ws1 d h1 H1 v p1 l1 hr1 r1 q1 => ?_
  split at q1
  · rename_i ht
    have ty : tupV X.K v H1 := by
      cases d <;> first
        | cases ht
        | skip
      obtain ⟨a, xs, rfl, s, _⟩ := r1
      exact ⟨a, xs, rfl, s⟩
    refine ⟨ty, ws1, lc, h1, hr1, lr.mono p1 l1, ?_⟩
    refine rd.seq q1 fun ws2 ds h2 H2 vs p2 l2 hr2 r2 q2 => ?_
    exact hF _ _ _ _ _ _ _ _ _ hr2 (r1.mono p2 l2) r2 q2
  · exact q1.elim
def mTix : D → List D → IH → R D
  | .tup l, [.int k], h => match intsD l with
    | some ns => if k ∈ ns then .ok (.int (ns.idxOf k : Nat)) h else .bad
    | none => .bad
  | _, _, _ => .bad
theorem m_tix : MtOk X cl W "tuple.index" mTix := by
  refine ⟨_, mt_tixI, fun ws h H σ d ds x xs Q hr rx rs q => ?_⟩
  unfold mTix at q
  split at q
  · split at q
    · rename_i ns hn
      split at q
      · rename_i hk
        obtain rfl := intsD_eq hn
        obtain ⟨a, ys, rfl, s, r⟩ := rx
        replace s := s.t
        rw [r.of_ints] at s
        obtain ⟨y, rfl, ry⟩ := rs.one
        obtain rfl := (show y = _ from ry)
        obtain ⟨i1, i2⟩ := idx_first hk
        exact ⟨a, ns, _, _, rfl, rfl, s, i1, i2, q.now hr rfl⟩
      · exact q.elim
    · exact q.elim
  · exact q.elim
end
end Fl
/-! Fl, part 22: calls of own defs by keywords alone. -/
namespace Fl
open PySem L2
section
variable {X : Cx} {cl : Nat → Addr} {W : WX}
def g0 {α : Type} (ix : List Nat) (us ws : List α) : List α := pick ix (us ++ ws)
/-- the keywords' values, put in the parameters' order -/
def aPick (m : Nat) (ix : List Nat) (g : SA) : SA := fun lc h => (g lc h).bind fun ds h1 => if ds.length = m then .ok (pick ix ds) h1 else .bad
theorem pick_ok {m : Nat} {ix : List Nat} {g : SA} {Q : List V → Hp → Prop} : ∀ σ H, tA X.K cl W (aPick m ix g) σ H Q → tA X.K cl W g σ H fun zs H1 => zs.length = m ∧ Q (pick ix zs) H1 := by
  intro σ H ⟨ws, lc, h, hr, lr, q⟩
  refine ⟨ws, lc, h, hr, lr, ?_⟩
  refine rd.seq q fun ws1 ds h1 H1 vs p1 l1 hr1 r1 q1 => ?_
  split at q1
  · rename_i hl
    exact ⟨by rw [r1.len, hl], q1.now hr1 (r1.pick ix)⟩
  · exact q1.elim
theorem de_callK0 {k : Nat} {f : Addr} {fd : FuncData} {ps ks : List Str} {ar : Nat} {ix : List Nat} {F : List D → IH → R D} {g : SA} {x : Str} {p pos : Pos} {kws : List Keyword} (Fo : FnOk X.prog X.w X.K X.mg X.base (L2.CX X.prog X.w) k f fd ps (spI X.K cl ar F)) (hA : Ar ar F)
    (hr : Room k X.A) (tk : Takes X W) (hm : X.mg x = some (.ref f)) (hk : PySem.W.keepIn X.K (.ref f) = true) (hb : KBn X.K fd ps 0 ks (g0 ix) (g0 ix)) (kw : DK X cl W kws g) (hg : Gl X x := by rfl)
    (hall : (backToKw pos (keywordEach kws X.env)).all (·.1.isSome) = true := by rfl) (nms : (backToKw pos (keywordEach kws X.env)).filterMap (·.1) = ks := by rfl) (hdb : (x == ("__debug__" : Str)) = false := by decide)
    (hpl : ((backTo pos (starEach [] X.env)).any (·.1) || (backToKw pos (keywordEach kws X.env)).any (·.1.isNone)) = false := by rfl) :
    DE X cl W (.Call (.Name x p) [] kws pos) (eB F (aPick ks.length ix g)) := by
  refine ⟨⟨fun pins s σ H Q I want => wpAny_Call_Name_kw (ld_glob I hg hm ?_ hdb)⟩⟩
  have w2 := pick_ok _ _ (call_ok (X := X) hA σ H Q want)
  refine PySem.W.callWith_KW0 (h₀ := X.base) I.ok.mod.kin hk hall (thn (kw.p.run pos pins s σ H _ I w2) fun ws s2 ⟨zs, H2, I2, rz, l2, q2⟩ => ⟨I2.kIn, ?_⟩) hpl
  rw [nms]
  have r2 := hb.rel (.nil : Vals [] []) rz
  have b := hb.to s2 [] ws I2.kIn rfl (rz.length.symm.trans l2)
  refine wpAny_call (codeAny_mono (Fo.run X.A X.stack s2 H2 ⟨[], ks.zip ws⟩ (g0 ix [] ws) (g0 ix [] zs) Q (WE W σ) hr I2.env0 b r2 q2) fun r s' hq => ?_)
  cases r with
  | error e => exact passAt tk σ pins H2 s2 e s' I2 hq
  | ok fl =>
    cases fl with
    | ret u => exact I2.after hq
    | next => exact False.elim hq
    | brk => exact False.elim hq
    | cont => exact False.elim hq
/-- how a def is called by keywords alone -/
theorem kb0 {K : PySem.W.Frag} {name qual : Str} {st : Stmt} {f : Addr} {fd : FuncData} {ps ks : List Str} {ix : List Nat} (F : Fun K name qual st f fd)
    (h : ∀ (kV doc pm : Value) (an : Option Addr) (cdv ct : Value) (ws : List Value), ws.length = ks.length → bindArgs (PySem.W.fnOf name qual (defArgs st) (defBody st) (defScope st) .none kV doc pm an cdv ct) ⟨[], ks.zip ws⟩ = pure (ps.zip (g0 ix [] ws))) :
    KBn K fd ps 0 ks (g0 ix) (g0 ix) := by
  obtain ⟨oc, od, kV, doc, pm, an, cdv, ct, osl, rfl, lk, cd⟩ := F.ex
  refine ⟨fun s us ws _ l1 l2 => ?_, fun r1 r2 => Vals.pick (r1.append r2) ix⟩
  obtain rfl := List.length_eq_zero_iff.mp l1
  exact .of_eq (h kV doc pm an cdv ct ws l2)
end
end Fl
/-! Fl, part 23: a comprehension with a test. -/
namespace Fl
open PySem L2
section
variable {c : IH → Prop} {t : Tg} {e : Lc}
theorem lc_filt_from {h1 : IH} {k : ST} {f : SE} {w : D → Option D} (hc : ∀ acc, c (h1 ++ [.lst acc])) : ∀ (ds acc : List D), acc.length + ds.length ≤ sizeLine →
    (∀ d ∈ ds, ∃ e1, tgS t d e = some e1 ∧ ∀ acc, match w d with
      | some y => k e1 (h1 ++ [.lst acc]) = .ok true (h1 ++ [.lst acc]) ∧ f e1 (h1 ++ [.lst acc]) = .ok y (h1 ++ [.lst acc])
      | none => k e1 (h1 ++ [.lst acc]) = .ok false (h1 ++ [.lst acc])) →
    lcGo c t k f h1.length e ds (h1 ++ [.lst acc]) = .ok (.ref h1.length) (h1 ++ [.lst (acc ++ ds.filterMap w)])
  | [], acc, _, _ => by
    unfold lcGo
    rw [if_pos (hc acc)]
    simp
  | d :: ds, acc, small, step => by
    obtain ⟨e1, st, q⟩ := step d (.head _)
    have q := q acc
    have st2 : ∀ d ∈ ds, _ := fun d hd => step d (.tail _ hd)
    unfold lcGo
    rw [if_pos (hc acc), st]
    rw [List.length_cons] at small
    cases hw : w d with
    | none =>
      rw [hw] at q
      dsimp only at q ⊢
      rw [q]
      show lcGo c t k f h1.length e ds (h1 ++ [.lst acc]) = _
      rw [lc_filt_from hc ds acc (by omega) st2, List.filterMap_cons_none hw]
    | some y =>
      rw [hw] at q
      dsimp only at q ⊢
      rw [q.1]
      show ((f e1 (h1 ++ [.lst acc])).bindN _) = _
      rw [q.2]
      have g1 : (h1 ++ [HB.lst acc])[h1.length]? = some (.lst acc) := by simp
      have g2 : (h1 ++ [HB.lst acc]).set h1.length (.lst (acc ++ [y])) = h1 ++ [.lst (acc ++ [y])] := by simp
      have z := lc_filt_from hc ds (acc ++ [y]) (by rw [List.length_append]; simp only [List.length_cons, List.length_nil]; omega) st2
      rw [List.filterMap_cons_some hw]
      have e2 : acc ++ y :: ds.filterMap w = acc ++ [y] ++ ds.filterMap w := by simp
      rw [e2, ← z, bindN_ok, g1]
      dsimp only
      rw [if_pos (by omega), g2]
theorem lc_filt {h1 : IH} {k : ST} {f : SE} {ds : List D} {w : D → Option D} (hc : ∀ acc, c (h1 ++ [.lst acc])) (small : ds.length ≤ sizeLine)
    (step : ∀ d ∈ ds, ∃ e1, tgS t d e = some e1 ∧ ∀ acc, match w d with
      | some y => k e1 (h1 ++ [.lst acc]) = .ok true (h1 ++ [.lst acc]) ∧ f e1 (h1 ++ [.lst acc]) = .ok y (h1 ++ [.lst acc])
      | none => k e1 (h1 ++ [.lst acc]) = .ok false (h1 ++ [.lst acc])) :
    lcGo c t k f h1.length e ds (h1 ++ [.lst []]) = .ok (.ref h1.length) (h1 ++ [.lst (ds.filterMap w)]) := lc_filt_from hc ds [] (by simpa using small) step
end
end Fl
/-! Fl, part 24: what a def laid aside is forgotten (gc), a new list that nobody changes is data (fz). -/
namespace Fl
open PySem L2
mutual
/-- no place at or behind n is named -/
def clD (n : Nat) : D → Bool
  | .ref m => decide (m < n)
  | .tup l => clDs n l
  | .fls l => clDs n l
  | _ => true
def clDs (n : Nat) : List D → Bool
  | [] => true
  | d :: l => clD n d && clDs n l
end
def clB (n : Nat) : HB → Bool
  | .lst l => clDs n l
  | .dic kvs => kvs.all fun p => clD n p.2
  | .ins _ fs => fs.all fun p => clD n p.2
  | .exc _ fs => fs.all fun p => clD n p.2
section
variable {n : Nat}
@[simp] theorem clD_non : clD n .non = true := by simp only [clD]
@[simp] theorem clD_bl {b : Bool} : clD n (.bl b) = true := by simp only [clD]
@[simp] theorem clD_int {i : Int} : clD n (.int i) = true := by simp only [clD]
@[simp] theorem clD_str {s : Str} : clD n (.str s) = true := by simp only [clD]
@[simp] theorem clD_ref {m : Nat} : clD n (.ref m) = decide (m < n) := by simp only [clD]
@[simp] theorem clD_tup {l : List D} : clD n (.tup l) = clDs n l := by simp only [clD]
@[simp] theorem clD_fls {l : List D} : clD n (.fls l) = clDs n l := by simp only [clD]
@[simp] theorem clDs_nil : clDs n [] = true := by simp only [clDs]
@[simp] theorem clDs_cons {d : D} {l : List D} : clDs n (d :: l) = (clD n d && clDs n l) := by simp only [clDs]
theorem clDs_all : ∀ {l : List D}, clDs n l = l.all (clD n)
  | [] => by simp
  | d :: l => by rw [clDs_cons, List.all_cons, clDs_all]
theorem clDs_iff {l : List D} : clDs n l = true ↔ ∀ d ∈ l, clD n d = true := by rw [clDs_all, List.all_eq_true]
@[simp] theorem clDs_append {l m : List D} : clDs n (l ++ m) = (clDs n l && clDs n m) := by rw [clDs_all, clDs_all, clDs_all, List.all_append]
theorem clDs_map {α : Type} {l : List α} {f : α → D} (h : ∀ x ∈ l, clD n (f x) = true) : clDs n (l.map f) = true := by
  rw [clDs_iff]
  intro d hd
  obtain ⟨x, hx, rfl⟩ := List.mem_map.mp hd
  exact h x hx
end
section
variable {K : PySem.W.Frag} {cl : Nat → Addr} {W : WX} {ws ws' : List Addr} {h h' : IH} {H H' : Hp}
theorem ref_cl {a : Addr} {m : Nat} (e : ws[m]? = some a) : m < ws.length := (List.getElem?_eq_some_iff.mp e).1
mutual
theorem VR.clo : ∀ {d : D} {v : V}, VR K ws H d v → clD ws.length d = true
  | .non, _, _ => by simp
  | .bl _, _, _ => by simp
  | .int _, _, _ => by simp
  | .str _, _, _ => by simp
  | .tup _, _, h => by
    obtain ⟨a, xs, e, s, r⟩ := h
    rw [clD_tup]
    exact VRs.clo r
  | .fls _, _, h => by
    obtain ⟨a, xs, e, s, r⟩ := h
    rw [clD_fls]
    exact VRs.clo r
  | .ref _, _, h => by
    obtain ⟨a, e, s⟩ := h
    rw [clD_ref]
    exact decide_eq_true (ref_cl s)
theorem VRs.clo : ∀ {ds : List D} {xs : List V}, VRs K ws H ds xs → clDs ws.length ds = true
  | [], _, _ => by simp
  | _ :: _, _, h => by
    obtain ⟨x, r, e, h1, h2⟩ := h
    rw [clDs_cons, VR.clo h1, VRs.clo h2]
    rfl
end
mutual
theorem VR.down (p : ws <+: ws') : ∀ {d : D} {v : V}, clD ws.length d = true → VR K ws' H d v → VR K ws H d v
  | .non, _, _, h => h
  | .bl _, _, _, h => h
  | .int _, _, _, h => h
  | .str _, _, _, h => h
  | .tup _, _, c, h => by
    obtain ⟨a, xs, e, s, r⟩ := h
    exact ⟨a, xs, e, s, VRs.down p (by rw [clD_tup] at c; exact c) r⟩
  | .fls _, _, c, h => by
    obtain ⟨a, xs, e, s, r⟩ := h
    exact ⟨a, xs, e, s, VRs.down p (by rw [clD_fls] at c; exact c) r⟩
  | .ref m, _, c, h => by
    obtain ⟨a, e, s⟩ := h
    rw [clD_ref] at c
    have c := of_decide_eq_true c
    refine ⟨a, e, ?_⟩
    obtain ⟨t, rfl⟩ := p
    rw [List.getElem?_append_left c] at s
    exact s
theorem VRs.down (p : ws <+: ws') : ∀ {ds : List D} {xs : List V}, clDs ws.length ds = true → VRs K ws' H ds xs → VRs K ws H ds xs
  | [], _, _, h => h
  | _ :: _, _, c, h => by
    obtain ⟨x, r, e, h1, h2⟩ := h
    rw [clDs_cons, Bool.and_eq_true] at c
    exact ⟨x, r, e, VR.down p c.1 h1, VRs.down p c.2 h2⟩
end
theorem FR.clo : ∀ {fs : List (Str × D)} {xs : List (Str × V)}, FR K ws H fs xs → (fs.all fun p => clD ws.length p.2) = true
  | [], _, _ => rfl
  | _ :: _, _, h => by
    obtain ⟨x, r, e, h1, h2⟩ := h
    rw [List.all_cons, h1.clo, FR.clo h2]
    rfl
theorem KR.clo : ∀ {fs : List (Key × D)} {xs : List (Key × V)}, KR K ws H fs xs → (fs.all fun p => clD ws.length p.2) = true
  | [], _, _ => rfl
  | _ :: _, _, h => by
    obtain ⟨x, r, e, h1, h2⟩ := h
    rw [List.all_cons, h1.clo, KR.clo h2]
    rfl
theorem FR.down (p : ws <+: ws') : ∀ {fs : List (Str × D)} {xs : List (Str × V)}, (fs.all fun p => clD ws.length p.2) = true → FR K ws' H fs xs → FR K ws H fs xs
  | [], _, _, h => h
  | _ :: _, _, c, h => by
    obtain ⟨x, r, e, h1, h2⟩ := h
    rw [List.all_cons, Bool.and_eq_true] at c
    exact ⟨x, r, e, VR.down p c.1 h1, FR.down p c.2 h2⟩
theorem KR.down (p : ws <+: ws') : ∀ {fs : List (Key × D)} {xs : List (Key × V)}, (fs.all fun p => clD ws.length p.2) = true → KR K ws' H fs xs → KR K ws H fs xs
  | [], _, _, h => h
  | _ :: _, _, c, h => by
    obtain ⟨x, r, e, h1, h2⟩ := h
    rw [List.all_cons, Bool.and_eq_true] at c
    exact ⟨x, r, e, VR.down p c.1 h1, KR.down p c.2 h2⟩
theorem OR.clo {a : Addr} : ∀ {o : HB}, OR K cl ws H a o → clB ws.length o = true
  | .lst _, h => by
    obtain ⟨xs, e, r⟩ := h
    exact r.clo
  | .dic _, h => by
    obtain ⟨xs, e, r⟩ := h
    exact r.clo
  | .ins _ _, h => by
    obtain ⟨dx, xs, e, r⟩ := h
    exact r.clo
  | .exc _ _, h => by
    obtain ⟨dd, xs, e, e2, r⟩ := h
    exact r.clo
theorem OR.down {a : Addr} (p : ws <+: ws') : ∀ {o : HB}, clB ws.length o = true → OR K cl ws' H a o → OR K cl ws H a o
  | .lst _, c, h => by
    obtain ⟨xs, e, r⟩ := h
    exact ⟨xs, e, r.down p c⟩
  | .dic _, c, h => by
    obtain ⟨xs, e, r⟩ := h
    exact ⟨xs, e, r.down p c⟩
  | .ins _ _, c, h => by
    obtain ⟨dx, xs, e, r⟩ := h
    exact ⟨dx, xs, e, r.down p c⟩
  | .exc _ _, c, h => by
    obtain ⟨dd, xs, e, e2, r⟩ := h
    exact ⟨dd, xs, e, e2, r.down p c⟩
/-! ### gc -/
def gcH (h h' : IH) : Prop := ∀ i o, i < h.length → h'[i]? = some o → h[i]? = some o ∨ clB h.length o = true
theorem gc_hr (hr : HR K cl ws h H) (p : ws <+: ws') (hr' : HR K cl ws' h' H') (g : gcH h h') : HR K cl ws (h'.take h.length) H' := by
  refine ⟨?_, hr.nd, fun m o a e1 e2 => ?_⟩
  · rw [List.length_take, hr.len, ← hr'.len, ← hr.len]
    have := p.length_le
    omega
  · have hm : m < h.length := by rw [← hr.len]; exact ref_cl e2
    rw [List.getElem?_take_of_lt hm] at e1
    have q := hr'.ob m o a e1 (pre_get p e2)
    refine q.down p ?_
    rcases g m o hm e1 with z | z
    · exact (hr.ob m o a z e2).clo
    · rw [hr.len]; exact z
open Classical in
noncomputable def gc (h : IH) : R D → R D
  | .ok d h' => if clD h.length d = true ∧ gcH h h' then .ok d (h'.take h.length) else .ok d h'
  | .ex c fs h' => if (fs.all fun p => clD h.length p.2) = true ∧ gcH h h' then .ex c fs (h'.take h.length) else .ex c fs h'
  | .bad => .bad
theorem gc_ok {σ : St} {Q : VK} {r : R D} (hr : HR K cl ws h H) (q : rd K cl W (VR K) (gc h r) ws H σ Q) : rd K cl W (VR K) r ws H σ Q := by
  cases r with
  | ok d h' =>
    dsimp only [gc] at q
    split at q
    · rename_i c
      intro ws' H' v p l hr' r
      exact q ws H' v (List.prefix_refl _) l (gc_hr hr p hr' c.2) (r.down p (by rw [hr.len]; exact c.1))
    · exact q
  | ex c fs h' =>
    dsimp only [gc] at q
    split at q
    · rename_i c
      intro ws' H' dd xs p l hr' e r
      exact q ws H' dd xs (List.prefix_refl _) l (gc_hr hr p hr' c.2) e (r.down p (by rw [hr.len]; exact c.1))
    · exact q
  | bad => exact q
noncomputable def gcF (F : List D → IH → R D) : List D → IH → R D := fun ds h => gc h (F ds h)
noncomputable def fnG (ar n : Nat) (b : SS) : List D → IH → R D := gcF (fnR ar n b)
theorem fnG_ar {ar n : Nat} {b : SS} : Ar ar (fnG ar n b) := fun ds h hl => by
  show gc h (fnR ar n b ds h) = _
  rw [fnR_ar ds h hl]
  rfl
theorem sp_gc {ar : Nat} {F : List D → IH → R D} {vs : List V} {Q : VK} {E : XK} (q : spI K cl ar (gcF F) vs H Q E) : spI K cl ar F vs H Q E := by
  obtain ⟨hl, ws, h, ds, hr, r, q⟩ := q
  exact ⟨hl, ws, h, ds, hr, r, gc_ok hr q⟩
theorem ok_gc {P : Program} {w : World} {mg : Str → Option Value} {base : Heap} {k : Nat} {f : Addr} {fd : FuncData} {ps : List Str} {ar n : Nat} {b : SS} (F : FnOk P w K mg base (L2.CX P w) k f fd ps (spI K cl ar (fnR ar n b))) :
    FnOk P w K mg base (L2.CX P w) k f fd ps (spI K cl ar (fnG ar n b)) := F.imp fun _ _ _ _ q => sp_gc q
theorem ok_gcA {P : Program} {w : World} {mg : Str → Option Value} {base : Heap} {k : Nat} {f : Addr} {fd : FuncData} {ps : List Str} {ar n : Nat} {b : SS} (F : FnA P w K mg base k f fd ps (spI K cl ar (fnR ar n b))) :
    FnA P w K mg base k f fd ps (spI K cl ar (fnG ar n b)) :=
  ⟨fun vs H Q E q => F.len vs H Q E (sp_gc q), fun A outer s H args us vs Q E hr he hb hv hs => F.run A outer s H args us vs Q E hr he hb hv (sp_gc hs)⟩
/-! ### fz -/
theorem fz_hr {p : Addr} {xs : List V} {od : Obj} {m : Nat} (hr : HR K cl ws h H) (hp : ws <+: ws') (g : gcH h h') (hr' : HR K cl ws' h' H') (ep : ws'[m]? = some p) (hm : h.length ≤ m) (e : H' p = some (.lst xs)) :
    HR K cl ws (h'.take h.length) (upd H' p (.frz od (.lst xs))) := by
  refine (gc_hr hr hp hr' g).keep (Kept.wr e True.intro) fun z => ?_
  obtain ⟨i, hi, e1⟩ := List.getElem_of_mem z
  have e2 := pre_get hp (List.getElem?_eq_getElem hi)
  rw [e1] at e2
  obtain ⟨h1, e1'⟩ := List.getElem?_eq_some_iff.mp e2
  obtain ⟨h2, e2'⟩ := List.getElem?_eq_some_iff.mp ep
  have q := (List.getElem_inj hr'.nd).mp (e1'.trans e2'.symm)
  have := hr.len
  omega
/-- a list is new: it is data -/
def FzQ (Q : VK) : VK := fun v H' => (∃ p xs, v = .ref p ∧ H' p = some (.lst xs) ∧ ∀ od, Q v (upd H' p (.frz od (.lst xs)))) ∨ Q v H'
open Classical in
noncomputable def fz (h : IH) : R D → R D
  | .ok (.ref n) h' => match h'[n]? with
    | some (.lst l) => if gcH h h' ∧ h.length ≤ n ∧ clDs h.length l = true then .ok (.fls l) (h'.take h.length) else .ok (.ref n) h'
    | _ => .ok (.ref n) h'
  | r => r
theorem fz_one {p : Addr} {n : Nat} {l : List D} (hr : HR K cl ws h H) (hp : ws <+: ws') (g : gcH h h') (hr' : HR K cl ws' h' H') (ep : ws'[n]? = some p) (hn : h.length ≤ n) (hl : h'[n]? = some (.lst l)) (c : clDs h.length l = true) :
    ∃ xs, H' p = some (.lst xs) ∧ ∀ od, HR K cl ws (h'.take h.length) (upd H' p (.frz od (.lst xs))) ∧ VR K ws (upd H' p (.frz od (.lst xs))) (.fls l) (.ref p) ∧ Le K H' (upd H' p (.frz od (.lst xs))) := by
  obtain ⟨xs, e1, e2⟩ := hr'.ob n _ p hl ep
  refine ⟨xs, e1, fun od => ?_⟩
  have kl : Le K H' (upd H' p (.frz od (.lst xs))) := (Kept.wr e1 True.intro).le
  exact ⟨fz_hr hr hp g hr' ep hn e1, ⟨p, xs, rfl, .inl ⟨od, upd_same⟩, ((e2.down hp (by rw [hr.len]; exact c))).mono (List.prefix_refl _) kl⟩, kl⟩
theorem fz_ok {σ : St} {Q : VK} {r : R D} (hr : HR K cl ws h H) (q : rd K cl W (VR K) (fz h r) ws H σ Q) : rd K cl W (VR K) r ws H σ (FzQ Q) := by
  have pass : ∀ {r : R D}, rd K cl W (VR K) r ws H σ Q → rd K cl W (VR K) r ws H σ (FzQ Q) := fun {r} q => by
    cases r with
    | ok d h' => exact fun ws' H' v p l hr r => .inr (q ws' H' v p l hr r)
    | ex c fs h' => exact q
    | bad => exact q
  unfold fz at q
  split at q
  · rename_i n h'
    split at q
    · rename_i l hl
      split at q
      · rename_i c
        obtain ⟨g, hn, c⟩ := c
        intro ws' H' v p le hr' r
        obtain ⟨a, rfl, ea⟩ := r
        obtain ⟨xs, e1, w⟩ := fz_one hr p g hr' ea hn hl c
        refine .inl ⟨a, xs, rfl, e1, fun od => ?_⟩
        obtain ⟨w1, w2, w3⟩ := w od
        exact q ws _ _ (List.prefix_refl _) (le.trans w3) w1 w2
      · exact pass q
    · exact pass q
  · exact pass q
noncomputable def eFz (f : SE) : SE := fun e h => fz h (f e h)
theorem fzs_ok {σ : St} {D0 : Ends} {r : R D} {i : Nat} {e : Lc} (hr : HR K cl ws h H) (lr : LR K ws H e σ) (q : rdS K cl W ((fz h r).st e fun d h1 => match tgS (.n i) d e with
    | some e1 => .nx e1 h1
    | none => .bad) ws H D0) : rdS K cl W (r.st e fun d h1 => match tgS (.n i) d e with
    | some e1 => .nx e1 h1
    | none => .bad) ws H { D0 with nx := fun σ' H' => (∃ p xs, H' p = some (.lst xs) ∧ ∀ od, D0.nx σ' (upd H' p (.frz od (.lst xs)))) ∨ D0.nx σ' H' } := by
  have pass : ∀ {r : R D}, rdS K cl W (r.st e fun d h1 => match tgS (.n i) d e with
    | some e1 => .nx e1 h1
    | none => .bad) ws H D0 → rdS K cl W (r.st e fun d h1 => match tgS (.n i) d e with
    | some e1 => .nx e1 h1
    | none => .bad) ws H { D0 with nx := fun σ' H' => (∃ p xs, H' p = some (.lst xs) ∧ ∀ od, D0.nx σ' (upd H' p (.frz od (.lst xs)))) ∨ D0.nx σ' H' } := fun {r} q => by
    cases r with
    | ok d h' => exact fun ws' H' σ' p l hr lr => .inr (q ws' H' σ' p l hr lr)
    | ex c fs h' => exact q
    | bad => exact q
  unfold fz at q
  split at q
  · rename_i n h'
    split at q
    · rename_i l hl
      split at q
      · rename_i c
        obtain ⟨g, hn, c⟩ := c
        intro ws' H' σ' p le hr' lr'
        obtain ⟨a, ea, _⟩ := hr'.at hl
        obtain ⟨xs, e1, w⟩ := fz_one hr p g hr' ea hn hl c
        refine .inl ⟨a, xs, e1, fun od => ?_⟩
        obtain ⟨w1, w2, w3⟩ := w od
        refine q ws _ _ (List.prefix_refl _) (le.trans w3) w1 ⟨?_, fun j d hj => ?_⟩
        · rw [List.length_set, ← lr'.1, List.length_set]
        · have hjl := (List.getElem?_eq_some_iff.mp hj).1
          rw [List.length_set] at hjl
          by_cases hij : i = j
          · subst hij
            rw [List.getElem?_set_self hjl] at hj
            cases hj
            obtain ⟨v, z1, z2⟩ := lr'.2 i (.ref n) (List.getElem?_set_self hjl)
            obtain ⟨b, rfl, eb⟩ := z2
            rw [ea] at eb
            cases eb
            exact ⟨_, z1, w2⟩
          · rw [List.getElem?_set_ne hij] at hj
            obtain ⟨v, z1, z2⟩ := lr'.2 j d (by rw [List.getElem?_set_ne hij]; exact hj)
            obtain ⟨v0, z3, z4⟩ := lr.2 j d hj
            exact ⟨v, z1, (z2.down p z4.clo).mono (List.prefix_refl _) w3⟩
      · exact pass q
    · exact pass q
  · exact pass q
end
section
variable {X : Cx} {cl : Nat → Addr} {W : WX}
theorem pe_frz {e : Expr} {t : TE} (h : PE X e t) : PE X e (fun σ H Q => t σ H (FzQ Q)) := by
  refine ⟨fun pins s σ H Q I q => thn (h.run pins s σ H _ I q) fun u s1 ⟨v, H1, I1, r, w⟩ => ?_⟩
  rcases w with ⟨p, xs, rfl, hp, w⟩ | w
  · obtain ⟨od, I2⟩ := I1.lock hp True.intro
    exact ⟨_, _, I2, r, w od⟩
  · exact ⟨_, _, I1, r, w⟩
theorem de_fz {e : Expr} {f : SE} (h : DE X cl W e f) : DE X cl W e (eFz f) :=
  ⟨peImp (pe_frz h.p) fun σ H Q ⟨ws, lc, hp, hr, lr, q⟩ => ⟨ws, lc, hp, hr, lr, fz_ok hr q⟩⟩
theorem ps_frz {s : Stmt} {t : TS} (h : PS X s t) : PS X s (fun D0 σ H => t { D0 with nx := fun σ' H' => (∃ p xs, H' p = some (.lst xs) ∧ ∀ od, D0.nx σ' (upd H' p (.frz od (.lst xs)))) ∨ D0.nx σ' H' } σ H) := by
  refine ⟨fun pins z σ H D0 I q => thn (h.run pins z σ H _ I q) fun fl s1 sp => ?_⟩
  cases fl with
  | next =>
    obtain ⟨σ', H', I1, w⟩ := sp
    rcases w with ⟨p, xs, hp, w⟩ | w
    · obtain ⟨od, I2⟩ := I1.lock hp True.intro
      exact ⟨_, _, I2, w od⟩
    · exact ⟨_, _, I1, w⟩
  | brk => exact sp
  | cont => exact sp
  | ret u => exact sp
theorem ds_setLcF (i : Nat) {y : Str} {py : Pos} {elt tg iter : Expr} {ifs : List Expr} {scope : Scope} {own : List (Str × Nat)} {pos spos : Pos} {t : Tg} {s : Src} {k : ST} {f : SE} (hc : X.calm = true) (hN : X.N.Nodup)
    (hi : DI X cl W iter s) (ok : BlkOk X.N X.env.scope scope own)
    (hg : ∀ (z : Shared) (H : Hp) (C : Addr) (cel : List (Str × Addr)) (fp : List Addr), DG (X.blk z H scope (compEnvC scope cel C X.env) fp) tg t)
    (ht : ∀ (z : Shared) (H : Hp) (C : Addr) (cel : List (Str × Addr)) (fp : List Addr), DTs (X.blk z H scope (compEnvC scope cel C X.env) fp) cl WN ifs k)
    (he : ∀ (z : Shared) (H : Hp) (C : Addr) (cel : List (Str × Addr)) (fp : List Addr), DE (X.blk z H scope (compEnvC scope cel C X.env) fp) cl WN elt f)
    (hsw : swapsWith (.ListComp elt [⟨tg, iter, ifs, 0⟩] scope pos) (some (.Name y py)) spos.line X.env = pure true) (hy : X.N[i]? = some y := by rfl) (hyl : X.env.scope.names.lookup y = some .local := by rfl)
    (hv : ∀ i ∈ tgL t, i ∈ own.map (·.2) := by decide) (hs : ∀ x, foldedSetIterable iter X.env x = pure x := by intro _; rfl) :
    DS X cl W (.Assign [.Name y py] (.ListComp elt [⟨tg, iter, ifs, 0⟩] scope pos) spos) (sAs (.n i) (eFz (eLc (own.map (·.2)) t s k f))) := by
  refine ⟨psImp (ps_frz (ds_setLc (t := t) (s := s) (k := k) (f := f) i hc hN hi ok hg ht he hsw hy hyl hv hs).p) fun D0 σ H ⟨ws, lc, h, hr, lr, q⟩ => ⟨ws, lc, h, hr, lr, fzs_ok hr lr q⟩⟩
end
/-! ### rules for simp -/
section
variable {h g h' : IH} {d : D} {c n : Nat} {fs : List (Str × D)} {l : List D} {i : Int} {b : Bool} {s : Str}
theorem gcH_app : gcH h (h ++ g) := fun i o hi e => .inl (by rw [List.getElem?_append_left hi] at e; exact e)
theorem gc_app (q : clD h.length d = true) : gc h (.ok d (h ++ g)) = .ok d h := by
  dsimp only [gc]
  rw [if_pos ⟨q, gcH_app⟩, List.take_left]
@[simp] theorem gc_self : gc h (.ok d h) = .ok d h := by
  dsimp only [gc]
  split
  · rw [List.take_length]
  · rfl
theorem gc_appx (q : (fs.all fun p => clD h.length p.2) = true) : gc h (.ex c fs (h ++ g)) = .ex c fs h := by
  dsimp only [gc]
  rw [if_pos ⟨q, gcH_app⟩, List.take_left]
@[simp] theorem gc_selfx : gc h (.ex c fs h) = .ex c fs h := by
  dsimp only [gc]
  split
  · rw [List.take_length]
  · rfl
theorem gc_set {n : Nat} {o : HB} (q : clD h.length d = true) (qo : clB h.length o = true) (hn : n < h.length) : gc h (.ok d (h.set n o ++ g)) = .ok d (h.set n o) := by
  dsimp only [gc]
  rw [if_pos, List.take_append_of_le_length (by simp), List.take_of_length_le (by simp)]
  refine ⟨q, fun i u hi e => ?_⟩
  rw [List.getElem?_append_left (by simpa using hi)] at e
  by_cases hin : n = i
  · subst hin
    rw [List.getElem?_set_self hn] at e
    cases e
    exact .inr qo
  · rw [List.getElem?_set_ne hin] at e
    exact .inl e
theorem gc_same {hh : IH} (q : clD h.length d = true) (hl : hh.length = h.length) (w : gcH h hh) : gc h (.ok d (hh ++ g)) = .ok d hh := by
  dsimp only [gc]
  rw [if_pos, ← hl, List.take_left]
  refine ⟨q, fun i u hi e => ?_⟩
  rw [List.getElem?_append_left (by omega)] at e
  exact w i u hi e
@[simp] theorem eFz_s {f : SE} {e : Lc} : eFz f e h = fz h (f e h) := rfl
theorem fz_lst (q : clDs h.length l = true) : fz h (.ok (.ref h.length) (h ++ [.lst l])) = .ok (.fls l) h := by
  dsimp only [fz]
  have e : (h ++ [HB.lst l])[h.length]? = some (.lst l) := by simp
  rw [e]
  dsimp only
  rw [if_pos ⟨gcH_app, Nat.le_refl _, q⟩, List.take_left]
theorem fz_app (e : (h ++ g)[n]? = some (.lst l)) (hn : h.length ≤ n) (q : clDs h.length l = true) : fz h (.ok (.ref n) (h ++ g)) = .ok (.fls l) h := by
  dsimp only [fz]
  rw [e]
  dsimp only
  rw [if_pos ⟨gcH_app, hn, q⟩, List.take_left]
theorem fz_same {hh : IH} (hl : hh.length = h.length) (w : gcH h hh) (q : clDs h.length l = true) : fz h (.ok (.ref h.length) (hh ++ [.lst l])) = .ok (.fls l) hh := by
  dsimp only [fz]
  have e : (hh ++ [HB.lst l])[h.length]? = some (.lst l) := by rw [← hl]; simp
  rw [e]
  dsimp only
  have tk : List.take h.length (hh ++ [HB.lst l]) = hh := by rw [← hl]; simp
  have gg : gcH h (hh ++ [HB.lst l]) := fun i u hi e => by
    rw [List.getElem?_append_left (by omega)] at e
    exact w i u hi e
  rw [if_pos ⟨gg, Nat.le_refl _, q⟩, tk]
@[simp] theorem fz_int : fz h (.ok (.int i) h') = .ok (.int i) h' := rfl
@[simp] theorem fz_bl : fz h (.ok (.bl b) h') = .ok (.bl b) h' := rfl
@[simp] theorem fz_non : fz h (.ok .non h') = .ok .non h' := rfl
@[simp] theorem fz_str : fz h (.ok (.str s) h') = .ok (.str s) h' := rfl
@[simp] theorem fz_tup : fz h (.ok (.tup l) h') = .ok (.tup l) h' := rfl
@[simp] theorem fz_fls : fz h (.ok (.fls l) h') = .ok (.fls l) h' := rfl
@[simp] theorem fz_ex : fz h (.ex c fs h') = .ex c fs h' := rfl
@[simp] theorem fnG_ap {m : Nat} {t : SS} {ds : List D} : fnG n m t ds h = gc h (if ds.length = n then endS (t (ds.map some ++ List.replicate (m - ds.length) none) h) else .bad) := id rfl
end
end Fl
namespace PySem.FlX
open PySem PySem.Spec PySem.Calls PyProof.Rows L2
theorem ext_any (T : String) (hT : T = "list" ∨ T = "tuple") (l : Addr) (items : Array Value) (n : Nat) (b : Addr) (items2 : Array Value) (n2 : Nat) (dd : Option Addr) (sl : Array (Option Value))
    (hs0 : ¬(!items.isEmpty && Builtin.List.listTooLong (items.size + items2.size)) = true) (hs1 : items.size ≤ sizeLine) (hs2 : items.size + items2.size ≤ sizeLine + 1) :
    Meets (Builtin.«list.extend» ⟨[.ref l, .ref b], []⟩) (fun _ R s => s.heap.get? l = some { cls := .type "list", data := .seq items n } ∧ s.heap.get? b = some { cls := .type T, dict := dd, data := .seq items2 n2, slots := sl } ∧
      R (.ok (.ret Value.none)) { s with heap := s.heap.update l (Obj.mapSeq fun x => x ++ items2) }) :=
  .of_wp fun prog w A R s h => by
    obtain ⟨hp, g, d, tk, os⟩ := s
    obtain ⟨hl, hb, h⟩ := h
    have f2 := AutoSeq1.sub_tuple_tuple
    have f3 := AutoSeq1.sub_list_list
    have f4 := AutoSeq1.sub_tuple_list
    have f5 := AutoSeq1.sub_list_tuple
    have hz' : (items ++ items2).size ≤ sizeLine + 1 := by rw [Array.size_append]; exact hs2
    rcases hT with rfl | rfl
    · wp_walk using (wpAny_updateSeq hl rfl (hz := hs1) (_hz' := hz')), AutoSeq1.wpAny_loadPart' hl, AutoSeq1.wpAny_loadPart' hb
      exact ⟨_, rfl, h⟩
    · wp_walk using (wpAny_updateSeq hl rfl (hz := hs1) (_hz' := hz')), AutoSeq1.wpAny_loadPart' hl, AutoSeq1.wpAny_loadPart' hb
      exact ⟨_, rfl, h⟩
theorem add_any (l : Addr) (items : Array Value) (n : Nat) (d1 : Option Addr) (sl1 : Array (Option Value)) (b : Addr) (items2 : Array Value) (n2 : Nat) (d2 : Option Addr) (sl2 : Array (Option Value)) (hc0 : items.size + items2.size ≤ sizeLine) :
    Meets (Builtin.«list.__add__» ⟨[.ref l, .ref b], []⟩) (fun _ R s => s.heap.get? l = some { cls := .type "list", dict := d1, data := .seq items n, slots := sl1 } ∧ s.heap.get? b = some { cls := .type "list", dict := d2, data := .seq items2 n2, slots := sl2 } ∧
      R (.ok (.ret (Value.ref s.heap.objs.size))) { s with heap := s.heap.push { cls := Value.type "list", data := Data.seq (items ++ items2) } }) :=
  .of_wp fun prog w A R s h => by
    obtain ⟨hp, g, d, tk, os⟩ := s
    obtain ⟨hl, hb, h⟩ := h
    have f2 := AutoSeq1.sub_tuple_tuple
    have f3 := AutoSeq1.sub_list_list
    have f4 := AutoSeq1.sub_tuple_list
    have f5 := AutoSeq1.sub_list_tuple
    wp_walk using AutoSeq1.wpAny_loadPart' hl, AutoSeq1.wpAny_loadPart' hb
    exact ⟨_, rfl, h⟩
end PySem.FlX
/-! Fl, part 25: lists of either kind (data, places) as operands. -/
namespace Fl
open PySem L2
/-- a list: data or a place -/
def lsV : D → IH → Option (List D)
  | .fls l, _ => some l
  | .ref n, h => match h[n]? with
    | some (.lst l) => some l
    | _ => none
  | _, _ => none
/-- a list or a tuple -/
def sqV : D → IH → Option (List D)
  | .tup l, _ => some l
  | d, h => lsV d h
section
variable {X : Cx} {cl : Nat → Addr} {W : WX} {K : PySem.W.Frag} {ws : List Addr} {h : IH} {H : Hp}
theorem lsV_of {d : D} {v : V} {l : List D} (hr : HR K cl ws h H) (r : VR K ws H d v) (e : lsV d h = some l) : ∃ a xs, v = .ref a ∧ SqL K H a xs ∧ VRs K ws H l xs := by
  unfold lsV at e
  split at e
  · cases e
    obtain ⟨a, xs, rfl, s, rl⟩ := r
    exact ⟨a, xs, rfl, s.sq, rl⟩
  · split at e
    · rename_i hn
      cases e
      obtain ⟨a, xs, rfl, _, e3, rl⟩ := r.list hr hn
      exact ⟨a, xs, rfl, SqL.of e3, rl⟩
    · cases e
  · cases e
theorem sqV_of {d : D} {v : V} {l : List D} (hr : HR K cl ws h H) (r : VR K ws H d v) (e : sqV d h = some l) : ∃ a xs, v = .ref a ∧ (SqL K H a xs ∨ SqT K H a xs) ∧ VRs K ws H l xs := by
  unfold sqV at e
  split at e
  · cases e
    obtain ⟨a, xs, rfl, s, rl⟩ := r
    exact ⟨a, xs, rfl, .inr s.t, rl⟩
  · obtain ⟨a, xs, e1, e2, e3⟩ := lsV_of hr r e
    exact ⟨a, xs, e1, .inl e2, e3⟩
/-- list + list, of either kind -/
def rCatL (K : PySem.W.Frag) : R2 := fun x y H Q => ∃ l b xs zs, x = .ref l ∧ y = .ref b ∧ SqL K H l xs ∧ SqL K H b zs ∧ xs.length + zs.length ≤ sizeLine ∧ ∀ p, H p = none → Q (.ref p) (upd H p (.lst (xs ++ zs)))
theorem op_catL : OpR X (binaryOp .Add) (rCatL X.K) := by
  intro pins s σ H x y v u Q I rx ry h
  obtain ⟨l, b, xs, zs, rfl, rfl, hH, hB, hz, q⟩ := h
  cases rx
  cases ry
  obtain ⟨its, r, ⟨⟨c1, d1, da1, sl1⟩, n1, e1, hc1, hd1, hdt1⟩, z1⟩ := I.list hH
  obtain ⟨its2, r2, ⟨⟨c2, d2, da2, sl2⟩, n2, e2, hc2, hd2, hdt2⟩, z2⟩ := I.list hB
  simp only at hc1 hdt1 hc2 hdt2
  subst hc1 hdt1 hc2 hdt2
  have e3 := r.length
  have e4 := r2.length
  refine PySem.concat_meets ⟨_, e1, rfl⟩ ⟨_, e2, rfl⟩ noFill_list_add seq_list_add F.slot_list_add F.entry_list_add (F.args_list_add_2 _ _) (PySem.FlX.add_any l its.toArray n1 d1 sl1 b its2.toArray n2 d2 sl2 (by rw [List.size_toArray, List.size_toArray]; omega)) ⟨e1, e2, ?_⟩
  have ea : its.toArray ++ its2.toArray = (its ++ its2).toArray := by simp
  rw [ea]
  exact ⟨.ref _, _, I.lnew (t' := s.toks) (r.append r2) (by rw [List.length_append]; omega), rfl, q _ I.fresh⟩
def gAdd : D → D → IH → R D := fun a b h => match lsV a h, lsV b h with
  | some l, some m => if l.length + m.length ≤ sizeLine then .ok (.ref h.length) (h ++ [.lst (l ++ m)]) else .bad
  | _, _ => fAdd a b h
theorem op_gAdd : Op2 X cl W (binaryOp .Add) gAdd := by
  obtain ⟨r0, o0, f0⟩ := op_fAdd (X := X) (cl := cl) (W := W)
  refine ⟨_, op_catL.or o0, fun ws h H σ a b x y Q hr ra rb q => ?_⟩
  unfold gAdd at q
  split at q
  · rename_i l m h1 h2
    split at q
    · rename_i hz
      obtain ⟨p1, xs, rfl, s1, r1⟩ := lsV_of hr ra h1
      obtain ⟨p2, ys, rfl, s2, r2⟩ := lsV_of hr rb h2
      exact .inl ⟨p1, p2, xs, ys, rfl, rfl, s1, s2, by rw [r1.len, r2.len]; exact hz, fun p hp => q.newList hr hp (r1.append r2) fun e => VR.refI e⟩
    · exact q.elim
  · exact .inr (f0 ws h H σ a b x y Q hr ra rb q)
/-- xs.extend(ys), ys a list or a tuple -/
def rExtA (K : PySem.W.Frag) : V → List V → Hp → VK → Prop := fun x vs H Q => ∃ l b xs zs, x = .ref l ∧ vs = [.ref b] ∧ H l = some (.lst xs) ∧ (SqL K H b zs ∨ SqT K H b zs) ∧ xs.length + zs.length ≤ sizeLine ∧ Q .non (upd H l (.lst (xs ++ zs)))
theorem mt_extA : MtM X "list.extend" (rExtA X.K) := by
  intro pins s σ H x vs v us Q I rx rv h
  obtain ⟨l, b, xs, zs, rfl, rfl, hH, hB, hz, q⟩ := h
  cases rx
  obtain ⟨u, rfl, ru⟩ := rv.one
  cases ru
  obtain ⟨z, its, n, r, hl, e⟩ := I.lstM hH
  have obj : ∃ (T : String) (its2 : List Value) (n2 : Nat) (dd : Option Addr) (sl : Array (Option Value)), (T = "list" ∨ T = "tuple") ∧ Vals zs its2 ∧ s.heap.get? b = some { cls := .type T, dict := dd, data := .seq its2.toArray n2, slots := sl } := by
    rcases hB with hB | hB
    · obtain ⟨its2, r2, ⟨⟨c2, d2, da2, sl2⟩, n2, e2, hc2, hd2, hdt2⟩, z2⟩ := I.list hB
      simp only at hc2 hdt2
      subst hc2 hdt2
      exact ⟨_, its2, n2, d2, sl2, .inl rfl, r2, e2⟩
    · obtain ⟨its2, r2, ⟨⟨c2, d2, da2, sl2⟩, e2, hc2, n2, hdt2⟩, z2⟩ := I.tuple hB
      simp only at hc2 hdt2
      subst hc2 hdt2
      exact ⟨_, its2, n2, d2, sl2, .inr rfl, r2, e2⟩
  obtain ⟨T, its2, n2, dd, sl, hT, r2, e2⟩ := obj
  have e4 := r2.length
  have hsz : its.toArray.size + its2.toArray.size ≤ sizeLine := by rw [List.size_toArray, List.size_toArray]; omega
  have hlong : ¬ (!its.toArray.isEmpty && Builtin.List.listTooLong (its.toArray.size + its2.toArray.size)) = true := by
    rw [notLongL hsz, Bool.and_false]
    exact Bool.false_ne_true
  refine call_meets PySem.F.slot_list_extend ⟨_, e, rfl⟩ PySem.F.entry_list_extend (PySem.F.args_list_extend_2 _ _)
    (PySem.FlX.ext_any T hT l its.toArray n b its2.toArray n2 dd sl hlong (by rw [List.size_toArray]; omega) (by omega)) ⟨e, e2, ?_⟩
  refine ⟨.non, _, I.lset (its' := its ++ its2) hH e (by simp) (r.append r2) ?_, rfl, q⟩
  rw [List.length_append]
  omega
def gExt : D → List D → IH → R D
  | .ref n, [d], h => match h[n]?, sqV d h with
    | some (.lst l), some k => if l.length + k.length ≤ sizeLine then .ok .non (h.set n (.lst (l ++ k))) else .bad
    | _, _ => .bad
  | _, _, _ => .bad
theorem m_gExt : MtOk X cl W "list.extend" gExt := by
  refine ⟨_, mt_extA, fun ws h H σ d ds x xs Q hr rx rs q => ?_⟩
  unfold gExt at q
  split at q
  · split at q
    · rename_i hl hk
      split at q
      · rename_i hz
        obtain ⟨a, ys, rfl, ea, e3, r⟩ := rx.list hr hl
        obtain ⟨y, rfl, ry⟩ := rs.one
        obtain ⟨b, zs, rfl, f3, r2⟩ := sqV_of hr ry hk
        refine ⟨a, b, ys, zs, rfl, rfl, e3, f3, by rw [r.len, r2.len]; exact hz, ?_⟩
        have kk : Kept a H (upd H a (.lst (ys ++ zs))) := Kept.wr e3 True.intro
        exact q ws _ _ (List.prefix_refl _) kk.le (hr.set ea e3 True.intro ⟨_, upd_same, (r.append r2).mono (List.prefix_refl _) kk.le⟩) rfl
      · exact q.elim
    · exact q.elim
  · exact q.elim
/-- s.join(xs), either kind -/
def gJoin : D → List D → IH → R D
  | .str a, [d], h => match lsV d h with
    | some l => (match strsD l with
      | some ys => if (ys.map (·.length)).sum + ys.length * a.length ≤ 16777216 then .ok (.str (Txt.join a ys)) h else .bad
      | none => .bad)
    | none => .bad
  | _, _, _ => .bad
theorem m_gJoin : MtOk X cl W "str.join" gJoin := by
  refine ⟨_, mt_join, fun ws h H σ d ds x xs Q hr rx rs q => ?_⟩
  unfold gJoin at q
  split at q
  · split at q
    · rename_i l hl
      obtain ⟨y, rfl, ry⟩ := rs.one
      obtain ⟨b, zs, rfl, f3, r2⟩ := lsV_of hr ry hl
      split at q
      · rename_i ys hy
        split at q
        · rename_i hz
          obtain rfl := strsD_eq hy
          rw [r2.of_strs] at f3
          obtain rfl := (show x = _ from rx)
          exact ⟨_, b, ys, rfl, rfl, .inl f3, hz, q.now hr rfl⟩
        · exact q.elim
      · exact q.elim
    · exact q.elim
  · exact q.elim
/-- max, min of a list of ints of either kind -/
def gMax : List D → IH → R D
  | [.int i, .int j], h => .ok (.int (if j > i then j else i)) h
  | [d], h => match lsV d h with
    | some l => (match intsD l with
      | some ns => if 0 < ns.length then .ok (.int (maxI ns)) h else .bad
      | none => .bad)
    | _ => .bad
  | _, _ => .bad
theorem b_gMax (hc : X.calm = true) : BCall X cl W (.builtin "max") gMax := by
  refine ⟨_, (call_max2 hc).or (cr_max hc), fun ws h H σ ds xs Q hr r q => ?_⟩
  unfold gMax at q
  split at q
  · obtain ⟨x, t, rfl, rx, y, t2, rfl, ry, r3⟩ := r
    cases r3
    obtain rfl := (show x = _ from rx)
    obtain rfl := (show y = _ from ry)
    exact .inl ⟨_, _, rfl, q.now hr rfl⟩
  · obtain ⟨x, rfl, rx⟩ := r.one
    split at q
    · rename_i l hl
      obtain ⟨a, ys, rfl, e3, rl⟩ := lsV_of hr rx hl
      split at q
      · rename_i ns hn
        split at q
        · rename_i hz
          have el := intsD_eq hn
          subst el
          rw [rl.of_ints] at e3
          refine .inr ⟨a, ns, rfl, e3, hz, fun m h1 h2 => ?_⟩
          rw [← maxI_is h1 h2]
          exact q.now hr rfl
        · exact q.elim
      · exact q.elim
    · exact q.elim
  · exact q.elim
/-! pairs of ints -/
def prsP : List D → Option (List (Int × Int))
  | [] => some []
  | .tup [.int i, .int j] :: l => (prsP l).map ((i, j) :: ·)
  | _ => none
def pD (p : Int × Int) : D := .tup [.int p.1, .int p.2]
theorem prsP_eq : ∀ {l : List D} {ps : List (Int × Int)}, prsP l = some ps → l = ps.map pD
  | [], ps, h => by cases h; rfl
  | d :: l, ps, h => by
    unfold prsP at h
    split at h
    · rename_i heq
      cases heq
    · rename_i i j l' heq
      cases heq
      cases e : prsP l with
      | none => rw [e] at h; cases h
      | some ms =>
        rw [e] at h
        cases h
        rw [prsP_eq e]
        rfl
    · cases h
theorem prsP_map (ps : List (Int × Int)) : prsP (ps.map pD) = some ps := by
  induction ps with
  | nil => rfl
  | cons p ps ih => show (prsP (ps.map pD)).map ((p.1, p.2) :: ·) = _; rw [ih]; rfl
end
end Fl
/-! Fl, part 26: rows of ints sorted, the least of them; for over a text. -/
namespace Fl
open PySem L2 PySem.W PyProof.Rows
/-- a row of ints -/
def rowD (r : List Int) : D := .tup (r.map D.int)
def rowsD : List D → Option (List (List Int))
  | [] => some []
  | .tup t :: l => match intsD t with
    | some r => (rowsD l).map (r :: ·)
    | none => none
  | _ => none
theorem rowsD_eq : ∀ {l : List D} {ps : List (List Int)}, rowsD l = some ps → l = ps.map rowD
  | [], ps, h => by cases h; rfl
  | d :: l, ps, h => by
    unfold rowsD at h
    split at h
    · rename_i heq
      cases heq
    · rename_i t l' heq
      cases heq
      split at h
      · rename_i r hr
        cases e : rowsD l with
        | none => rw [e] at h; cases h
        | some ms =>
          rw [e] at h
          cases h
          rw [rowsD_eq e, intsD_eq hr]
          rfl
      · cases h
    · cases h
theorem rowsD_map (ps : List (List Int)) : rowsD (ps.map rowD) = some ps := by
  induction ps with
  | nil => rfl
  | cons p ps ih =>
    show (match intsD (p.map D.int) with
      | some r => (rowsD (ps.map rowD)).map (r :: ·)
      | none => none) = _
    rw [intsD_map, ih]
    rfl
def rowP (r : List Int) : PyData := .tuple (r.map PyData.int)
theorem rowP_alike (r s : List Int) : alike (rowP r) (rowP s) = true := by
  unfold rowP
  rw [alike]
  exact alike_ints r s
theorem rowP_lt (r s : List Int) : dataLt (rowP r) (rowP s) = decide (r < s) := by
  unfold rowP
  rw [dataLt_tuple]
  exact dataLt_ints r s
theorem rowP_depth (r : List Int) : (rowP r).depth ≤ 1 := by
  unfold rowP
  simp only [PyData.depth]
  rw [depth_ints]
  omega
theorem rowP_le : dataLe false (fun r : List Int => rowP r) = fun p q => decide (p ≤ q) := by
  funext p q
  rw [dataLe_eq]
  show (!dataLt (rowP q) (rowP p)) = _
  rw [rowP_lt]
  by_cases h : q < p
  · have h' : ¬ p ≤ q := fun z => z h
    simp [h, h']
  · have h' : p ≤ q := h
    simp [h, h']
def srtR (rs : List (List Int)) : List (List Int) := rs.mergeSort fun p q => decide (p ≤ q)
section
variable {K : PySem.W.Frag} {ws : List Addr} {H : Hp}
theorem ints_dp : ∀ {r : List Int}, DpAll K H (r.map V.int) (r.map PyData.int)
  | [] => .nil
  | i :: r => .cons (.int i) ints_dp
theorem row_dp {r : List Int} {x : V} (q : VR K ws H (rowD r) x) : Dp K H x (rowP r) := by
  obtain ⟨a, xs, rfl, s, rl⟩ := q
  rw [rl.of_ints] at s
  exact .tup s.t ints_dp
theorem rows_dp : ∀ {rs : List (List Int)} {xs : List V}, VRs K ws H (rs.map rowD) xs → DpAll K H xs (rs.map rowP)
  | [], _, h => by cases h; exact .nil
  | _ :: _, _, h => by
    obtain ⟨x, t, rfl, h1, h2⟩ := h
    exact .cons (row_dp h1) (rows_dp h2)
end
/-- the value of a row -/
def RwV (K : PySem.W.Frag) (ws : List Addr) (H : Hp) (v : Value) (r : List Int) : Prop := ∃ x, RelV x v ∧ VR K ws H (rowD r) x
section
variable {K : PySem.W.Frag} {ws : List Addr} {H : Hp}
theorem each_rows : ∀ {rs : List (List Int)} {xs : List V} {us : List Value}, VRs K ws H (rs.map rowD) xs → Vals xs us → EachIs (RwV K ws H) us rs
  | [], _, _, h, v => by cases h; cases v; exact .nil
  | _ :: _, _, _, h, v => by
    obtain ⟨x, t, rfl, h1, h2⟩ := h
    cases v with
    | cons r v => exact .cons ⟨x, r, h1⟩ (each_rows h2 v)
theorem rows_each : ∀ {rs : List (List Int)} {us : List Value}, EachIs (RwV K ws H) us rs → ∃ xs, VRs K ws H (rs.map rowD) xs ∧ Vals xs us
  | _, _, .nil => ⟨[], rfl, .nil⟩
  | _, _, .cons ⟨x, r, h1⟩ e => by
    obtain ⟨xs, h2, v⟩ := rows_each e
    exact ⟨x :: xs, ⟨x, xs, rfl, h1, h2⟩, .cons r v⟩
end
section
variable {X : Cx} {cl : Nat → Addr} {W : WX}
/-- sorted(rows) -/
def rSrtR (K : PySem.W.Frag) : List V → Hp → VK → Prop := fun vs H Q => ∃ (a : Addr) (xs : List V) (rs : List (List Int)) (ws : List Addr), vs = [V.ref a] ∧ SqL K H a xs ∧ VRs K ws H (rs.map rowD) xs ∧ (∀ r ∈ rs, r ≠ []) ∧
  ∀ (p : Addr) (ys : List V), VRs K ws H ((srtR rs).map rowD) ys → H p = none → Q (.ref p) (upd H p (.lst ys))
theorem cr_srtR (hu : X.A.units + 64 < cLine) : CallR X (.builtin "sorted") (rSrtR X.K) := by
  intro pins s σ H vs us Q I r h
  obtain ⟨a, xs, rs, ws, rfl, hs, hx, ne, q⟩ := h
  obtain ⟨its, rv, hl, hz⟩ := I.list hs
  rw [Vals.ref1 r]
  obtain ⟨as, rd0⟩ := Dp.readsAll I _ xs its (rows_dp hx) rv
  have len : rs.length = xs.length := by rw [hx.len, List.length_map]
  refine sorted_data (enc := rowP) (R := RwV X.K ws H) (bs := rs) hl.isList (each_rows hx rv) (readsAll_each rowP rd0) (AllAlike.of rowP_alike) (.inl fun d hd => ?_) (by omega) (fun r hr => ?_) fun out hlen he => ?_
  · obtain ⟨r, hr, rfl⟩ := List.mem_map.mp hd
    cases r with
    | nil => exact absurd rfl (ne _ hr)
    | cons i r => exact ⟨_, _, rfl⟩
  · have := rowP_depth r
    omega
  · rw [rowP_le] at he
    obtain ⟨ys, h1, h2⟩ := rows_each he
    obtain ⟨ep, he'⟩ := PyProof.Rows.sortedAll_at s.heap its out.toArray
    have hlen2 : ys.length ≤ sizeLine := by rw [h2.length, hlen]; omega
    exact ⟨.ref _, upd H (s.heap.objs.size + 1) (.lst ys), I.laid (t' := s.toks) (fun _ _ => PyProof.Rows.sortedAll_old) (Nat.le_succ _) ⟨hlen2, out, ep, h2, he'⟩, rfl, q _ _ h1 (I.hok.fresh (Nat.le_succ _))⟩
def minRw : List (List Int) → List Int
  | [] => []
  | r :: rs => rs.foldl (fun a y => if y < a then y else a) r
theorem minD_rows : ∀ (rs : List (List Int)) (r : List Int), minD (rowP r) (rs.map rowP) = rowP (rs.foldl (fun a y => if y < a then y else a) r)
  | [], r => rfl
  | s :: rs, r => by
    have e : minD (rowP r) ((s :: rs).map rowP) = minD (if dataLt (rowP s) (rowP r) = true then rowP s else rowP r) (rs.map rowP) := rfl
    rw [e, rowP_lt, List.foldl_cons]
    by_cases h : s < r
    · rw [if_pos (decide_eq_true h), if_pos h, minD_rows rs s]
    · rw [if_neg (by simpa using h), if_neg h, minD_rows rs r]
theorem rowP_inj {r s : List Int} (h : rowP r = rowP s) : r = s := by
  unfold rowP at h
  have e := PyData.tuple.inj h
  clear h
  induction r generalizing s with
  | nil =>
    cases s with
    | nil => rfl
    | cons j s => cases e
  | cons i r ih =>
    cases s with
    | nil => cases e
    | cons j s =>
      rw [List.map_cons, List.map_cons] at e
      obtain ⟨e1, e2⟩ := List.cons.inj e
      rw [PyData.int.inj e1, ih e2]
def rMinR (K : PySem.W.Frag) : List V → Hp → VK → Prop := fun vs H Q => ∃ (a : Addr) (xs : List V) (rs : List (List Int)) (ws : List Addr), vs = [V.ref a] ∧ SqL K H a xs ∧ VRs K ws H (rs.map rowD) xs ∧ rs ≠ [] ∧
  ∀ v, VR K ws H (rowD (minRw rs)) v → Q v H
theorem VRs.row_at {K : PySem.W.Frag} {ws : List Addr} {H : Hp} {rs : List (List Int)} {xs : List V} (hx : VRs K ws H (rs.map rowD) xs) {i : Nat} {x : V} (e : xs[i]? = some x) : ∃ r, rs[i]? = some r ∧ VR K ws H (rowD r) x := by
  obtain ⟨d, e1, e2⟩ := hx.get' e
  rw [List.getElem?_map] at e1
  cases hr : rs[i]? with
  | none => rw [hr] at e1; cases e1
  | some r => rw [hr] at e1; cases e1; exact ⟨r, rfl, e2⟩
theorem cr_minR (hc : X.calm = true) (hu : X.A.units + 64 < cLine) : CallR X (.builtin "min") (rMinR X.K) := by
  intro pins s σ H vs us Q I r h
  obtain ⟨a, xs, rs, ws, rfl, hs, hx, ne, q⟩ := h
  obtain ⟨its, rv, hl, hz⟩ := I.list hs
  rw [Vals.ref1 r]
  obtain ⟨as, rd0⟩ := Dp.readsAll I _ xs its (rows_dp hx) rv
  cases rs with
  | nil => exact absurd rfl ne
  | cons r0 rs =>
    refine min_list_data (x := rowP r0) (xs := rs.map rowP) (I.ok.hd hc) hl.isList rd0 ⟨fun x hx y hy => ?_, fun x hx => ?_⟩ ?_ fun i v h' tk bs hv hrd kp => ?_
    · have hx' : x ∈ (r0 :: rs).map rowP := hx
      have hy' : y ∈ (r0 :: rs).map rowP := hy
      obtain ⟨r1, _, rfl⟩ := List.mem_map.mp hx'
      obtain ⟨r2, _, rfl⟩ := List.mem_map.mp hy'
      exact rowP_alike _ _
    · have hx' : x ∈ (r0 :: rs).map rowP := hx
      obtain ⟨r1, _, rfl⟩ := List.mem_map.mp hx'
      exact fun z => by cases z
    · have dp : ∀ rs : List (List Int), PyData.depthAll (rs.map rowP) ≤ 1 := by
        intro rs
        induction rs with
        | nil => simp [PyData.depthAll]
        | cons r rs ih =>
          rw [List.map_cons, PyData.depthAll]
          have := rowP_depth r
          omega
      have := dp (r0 :: rs)
      rw [List.map_cons] at this
      omega
    · have hv' : its[i]? = some v := by simpa using hv
      have hil := (List.getElem?_eq_some_iff.mp hv').1
      have hxl : i < xs.length := by rw [rv.length]; exact hil
      obtain ⟨r1, e1, e2⟩ := hx.row_at (List.getElem?_eq_getElem hxl)
      obtain ⟨u, e3, e4⟩ := rv.get (List.getElem?_eq_getElem hxl)
      rw [hv'] at e3
      cases e3
      have I' : Inv X pins σ H { s with heap := h', toks := tk } := I.kept kp
      obtain ⟨cs, rd1⟩ := Dp.reads I' _ _ _ (row_dp e2) e4
      rw [minD_rows] at hrd
      have same : rowP r1 = rowP (minRw (r0 :: rs)) := by
        exact (reads_det (fun _ _ e _ => e) rd1 hrd).1.symm
      have er := rowP_inj same
      rw [er] at e2
      exact ⟨_, H, I', e4, q _ e2⟩
/-- min -/
def gMin : List D → IH → R D
  | [.int i, .int j], h => .ok (.int (if j < i then j else i)) h
  | [d], h => match lsV d h with
    | some l => (match intsD l with
      | some ns => if 0 < ns.length then .ok (.int (minI ns)) h else .bad
      | none => (match rowsD l with
        | some (r :: rs) => .ok (rowD (minRw (r :: rs))) h
        | _ => .bad))
    | _ => .bad
  | _, _ => .bad
theorem b_gMin (hc : X.calm = true) (hu : X.A.units + 64 < cLine) : BCall X cl W (.builtin "min") gMin := by
  refine ⟨_, ((call_min2 hc).or (cr_min hc)).or (cr_minR hc hu), fun ws h H σ ds xs Q hr r q => ?_⟩
  unfold gMin at q
  split at q
  · obtain ⟨x, t, rfl, rx, y, t2, rfl, ry, r3⟩ := r
    cases r3
    obtain rfl := (show x = _ from rx)
    obtain rfl := (show y = _ from ry)
    exact .inl (.inl ⟨_, _, rfl, q.now hr rfl⟩)
  · obtain ⟨x, rfl, rx⟩ := r.one
    split at q
    · rename_i l hl
      obtain ⟨a, ys, rfl, e3, rl⟩ := lsV_of hr rx hl
      split at q
      · rename_i ns hn
        split at q
        · rename_i hz
          have el := intsD_eq hn
          subst el
          rw [rl.of_ints] at e3
          refine .inl (.inr ⟨a, ns, rfl, e3, hz, fun m h1 h2 => ?_⟩)
          rw [← minI_is h1 h2]
          exact q.now hr rfl
        · exact q.elim
      · split at q
        · rename_i r rs hn
          have el := rowsD_eq hn
          subst el
          exact .inr ⟨a, ys, r :: rs, ws, rfl, e3, rl, (fun z => by cases z), fun v hv => q.now hr hv⟩
        · exact q.elim
    · exact q.elim
  · exact q.elim
/-- sorted -/
def gSorted : List D → IH → R D
  | [d], h => match lsV d h with
    | some l => (match intsD l with
      | some ns => .ok (.ref h.length) (h ++ [.lst ((srt ns).map D.int)])
      | none => (match rowsD l with
        | some rs => if (rs.all fun r => !r.isEmpty) = true then .ok (.ref h.length) (h ++ [.lst ((srtR rs).map rowD)]) else .bad
        | none => .bad))
    | none => bSorted [d] h
  | _, _ => .bad
theorem b_gSorted (hc : X.calm = true) (hu : X.A.units + 64 < cLine) : BCall X cl W (.builtin "sorted") gSorted := by
  obtain ⟨r0, o0, f0⟩ := b_sorted (cl := cl) (W := W) hc
  refine ⟨_, (cr_sortedI.or (cr_srtR hu)).or o0, fun ws h H σ ds xs Q hr r q => ?_⟩
  unfold gSorted at q
  split at q
  · rename_i d
    split at q
    · rename_i l hl
      obtain ⟨x, rfl, rx⟩ := r.one
      obtain ⟨a, ys, rfl, e3, rl⟩ := lsV_of hr rx hl
      split at q
      · rename_i ns hn
        have el := intsD_eq hn
        subst el
        rw [rl.of_ints] at e3
        refine .inl (.inl ⟨a, ns, rfl, e3, fun ns' p hp hs hnp => ?_⟩)
        rw [srt_uniq (hp.trans (srt_perm ns).symm) hs (srt_srt ns)]
        exact q.newList hr hnp (VRs.ints _) fun e => VR.refI e
      · split at q
        · rename_i rs hn
          split at q
          · rename_i hne
            have el := rowsD_eq hn
            subst el
            refine .inl (.inr ⟨a, ys, rs, ws, rfl, e3, rl, fun r hr2 z => ?_, fun p zs hz hnp => q.newList hr hnp hz fun e => VR.refI e⟩)
            have := List.all_eq_true.mp hne r hr2
            rw [z] at this
            cases this
          · exact q.elim
        · exact q.elim
    · exact .inr (f0 ws h H σ _ xs Q hr r q)
  · exact q.elim
/-! for over a text -/
def chD (z : Str) : List D := z.cps.toList.map fun c => .str ⟨#[c]⟩
def chV (z : Str) : List V := z.cps.toList.map fun c => .str ⟨#[c]⟩
theorem ch_vr {K : PySem.W.Frag} {ws : List Addr} {H : Hp} (z : Str) : VRs K ws H (chD z) (chV z) := by
  unfold chD chV
  induction z.cps.toList with
  | nil => rfl
  | cons c l ih => exact ⟨_, _, rfl, rfl, ih⟩
theorem relI_str {K : PySem.W.Frag} {cl : Nat → Addr} {ws : List Addr} {H : Hp} {c : IH → Prop} (z : Str) : relI K cl ws H (chD z, c) (Its z) := by
  intro ws' h' H' pw le hr hc i
  have hl : (chD z).length = z.cps.size := by simp [chD]
  refine ⟨fun d hd => ?_, fun hi => ?_⟩
  · have hil := (List.getElem?_eq_some_iff.mp hd).1
    rw [hl] at hil
    refine ⟨hil, fun x H2 y => ?_⟩
    obtain ⟨rfl, c, hc, rfl⟩ := y
    refine ⟨rfl, ?_⟩
    unfold chD at hd
    rw [List.getElem?_map, Array.getElem?_toList, hc] at hd
    cases hd
    rfl
  · show z.cps.size ≤ i
    have hi' : (chD z).length ≤ i := hi
    omega
def iS (f : SE) : Src := fun e h => (f e h).bind fun d h1 => match d with
  | .str z => .ok (chD z, fun _ => True) h1
  | _ => .bad
theorem di_s {iter : Expr} {f : SE} (ha : DE X cl W iter f) : DI X cl W iter (iS f) := by
  refine ⟨fun tg => piImp (pi_str ha.p) fun σ H Q ⟨ws, lc, h, hr, lr, q⟩ => ⟨ws, lc, h, hr, lr, ?_⟩⟩
  refine rd.seq q fun ws1 d h1 H1 v p1 l1 hr1 r1 q1 => ?_
  split at q1
  · rename_i z
    obtain rfl := (show v = _ from r1)
    exact ⟨z, rfl, q1.now hr1 (relI_str z)⟩
  · exact q1.elim
end
end Fl
/-! Fl, part 27: list(range(n)), comprehensions within one another. -/
namespace Fl
open PySem L2
theorem relab_l {c : NameKind → Str → Bool} {x : Str} : ∀ {l : List (Str × NameKind)}, (l.lookup x = some .cell ∨ l.lookup x = some .free) →
    (l.map fun p => if c p.2 p.1 = true then (p.1, NameKind.cell) else (p.1, p.2)).lookup x = some .cell ∨ (l.map fun p => if c p.2 p.1 = true then (p.1, NameKind.cell) else (p.1, p.2)).lookup x = some .free
  | [], q => by simp at q
  | (n, k) :: l, q => by
    rw [List.map_cons]
    cases hb : x == n with
    | true =>
      simp only [List.lookup, hb] at q
      dsimp only
      split
      · simp only [List.lookup, hb]
        simp
      · simp only [List.lookup, hb]
        exact q
    | false =>
      simp only [List.lookup, hb] at q
      have z := relab_l (c := c) q
      dsimp only
      split
      · simp only [List.lookup, hb]
        exact z
      · simp only [List.lookup, hb]
        exact z
theorem relab {scope : Scope} {env : Env} {x : Str} (q : scope.names.lookup x = some .cell ∨ scope.names.lookup x = some .free) : (relabel scope env).names.lookup x = some .cell ∨ (relabel scope env).names.lookup x = some .free :=
  relab_l (c := fun k n => k == .free && env.scope.kind == .function && env.kindOf n == some .cell) q
theorem BlkOk.blk {X : Cx} {z : Shared} {H : Hp} {scope0 scope : Scope} {C : Addr} {cel : List (Str × Addr)} {fp : List Addr} {own : List (Str × Nat)} {N : List Str} (h : BlkOk N scope0 scope own) (e : X.N = N := by rfl) :
    BlkOk (X.blk z H scope0 (compEnvC scope0 cel C X.env) fp).N (X.blk z H scope0 (compEnvC scope0 cel C X.env) fp).env.scope scope own := by
  subst e
  refine ⟨h.kind, h.uniq, h.ix, fun y hy hf => ?_, h.own⟩
  have q := h.free y hy hf
  show (relabel scope0 X.env).names.lookup y.1 = some .cell ∨ (relabel scope0 X.env).names.lookup y.1 = some .free
  exact relab q
section
variable {X : Cx} {cl : Nat → Addr} {W : WX}
theorem rgV_same (n : Int) : L2.rgV 0 n = Fl.rgV 0 n.toNat := by
  unfold L2.rgV Fl.rgV
  rw [Int.sub_zero]
def eLr (f : SE) : SE := fun e h => (f e h).bind fun d h1 => match d with
  | .int j => if -1000000 ≤ j ∧ j ≤ 1000000 then .ok (.ref h1.length) (h1 ++ [.lst (rgD 0 j.toNat)]) else .bad
  | _ => .bad
theorem de_listRg {p p2 pos pos2 : Pos} {a : Expr} {f : SE} (hc : X.calm = true) (hg : Gl X "list") (hm : X.mg "list" = none) (hg2 : Gl X "range") (hm2 : X.mg "range" = none) (ha : DE X cl W a f)
    (na : starEach [a] X.env = (false, eval a X.env) :: starEach [] X.env := by rfl)
    (nb : starEach [.Call (.Name "range" p2) [a] [] pos2] X.env = (false, eval (.Call (.Name "range" p2) [a] [] pos2) X.env) :: starEach [] X.env := by rfl) :
    DE X cl W (.Call (.Name "list" p) [.Call (.Name "range" p2) [a] [] pos2] [] pos) (eLr f) := by
  refine ⟨peImp (pe_listRg hc hg hm (prg_1 hg2 hm2 ha.p na) nb) fun σ H Q ⟨ws, lc, h, hr, lr, q⟩ => ?_⟩
  refine ⟨ws, lc, h, hr, lr, ?_⟩
  refine rd.seq q fun ws1 d h1 H1 v p1 l1 hr1 r1 q1 => ?_
  split at q1
  · rename_i j
    split at q1
    · rename_i hz
      obtain rfl := (show v = _ from r1)
      have hj : RgOk 0 j := ⟨by omega, by omega, by omega, by omega, by omega⟩
      refine ⟨j, rfl, hj, fun p hp => ?_⟩
      rw [rgV_same]
      exact q1.newList hr1 hp (rg_vr 0 j.toNat) fun e => VR.refI e
    · exact q1.elim
  · exact q1.elim
/-- dict(pairs), a list of either kind -/
def gDict : List D → IH → R D
  | [d], h => match lsV d h with
    | some l => (match prsD l with
      | some m => .ok (.ref h.length) (h ++ [.dic (mergeD [] m)])
      | none => .bad)
    | _ => .bad
  | _, _ => .bad
theorem b_gDict (hc : X.calm = true) : BCall X cl W (.type "dict") gDict := by
  refine ⟨_, call_dictP hc, fun ws h H σ ds xs Q hr r q => ?_⟩
  unfold gDict at q
  split at q
  · obtain ⟨x, rfl, rx⟩ := r.one
    split at q
    · rename_i l hl
      obtain ⟨a, ys, rfl, e3, rl⟩ := lsV_of hr rx hl
      split at q
      · rename_i m hm
        obtain ⟨ps, kvs, rfl, pr, kr⟩ := prs_of rl hm
        refine ⟨a, ps, kvs, rfl, e3, pr, fun p hp => ?_⟩
        have kk : Kept p H (upd H p (.dK (mergeK [] kvs))) := Kept.new hp
        refine q (ws ++ [p]) _ _ (List.prefix_append _ _) kk.le (hr.new hp ⟨_, upd_same, (KR.merge kr (kvs := []) rfl).mono (List.prefix_append _ _) kk.le⟩) (VR.refI ?_)
        rw [← hr.len]
        simp
      · exact q.elim
    · exact q.elim
  · exact q.elim
end
end Fl
/-! Fl, part 28: a if t else b as a test; more rules for simp. -/
namespace Fl
open PySem L2
section
variable {X : Cx} {cl : Nat → Addr} {W : WX}
def tIfx (t u v : ST) : ST := fun e h => (t e h).bind fun b h1 => if b = true then u e h1 else v e h1
theorem dt_ifx {c a b : Expr} {pos : Pos} {t u v : ST} (hc : DT X cl W c t) (ha : DT X cl W a u) (hb : DT X cl W b v) : DT X cl W (.IfExp c a b pos) (tIfx t u v) := by
  refine ⟨⟨fun pins s σ H Q I ⟨ws, lc, h, hr, lr, q⟩ => ?_⟩⟩
  refine PyProof.Rows.isTrue_IfExp ?_
  refine thn (hc.p.run pins s σ H _ I ⟨ws, lc, h, hr, lr, rd.seq (T := fun (d : Bool) H1 => if d = true then tT X.K cl W u σ H1 Q else tT X.K cl W v σ H1 Q) q fun ws1 d h1 H1 w p1 l1 hr1 r1 q1 => ?_⟩) fun d s1 ⟨H1, I1, q1⟩ => ?_
  · obtain rfl := (show d = w from r1)
    cases d with
    | true => exact iteT ⟨ws1, lc, h1, hr1, lr.mono p1 l1, q1⟩
    | false => exact iteF ⟨ws1, lc, h1, hr1, lr.mono p1 l1, q1⟩
  · cases d with
    | true => exact ha.p.run pins s1 σ H1 Q I1 q1
    | false => exact hb.p.run pins s1 σ H1 Q I1 q1
end
def R.ift (r : R Bool) (u v : ST) (e : Lc) : R Bool := r.bind fun b h1 => if b = true then u e h1 else v e h1
def lrO (d : D) (h1 : IH) : R D := match d with
  | .int j => if -1000000 ≤ j ∧ j ≤ 1000000 then .ok (.ref h1.length) (h1 ++ [.lst (rgD 0 j.toNat)]) else .bad
  | _ => .bad
def R.elr (r : R D) : R D := r.bind lrO
def ssO (d : D) (h1 : IH) : R D := match d with
  | .tup l => (match intsD l with
    | some ns => if ns.length < 64 then .ok (.ref h1.length) (h1 ++ [.lst ((usrt ns).map D.int)]) else .bad
    | none => .bad)
  | _ => .bad
def R.ess (r : R D) : R D := r.bind ssO
def gtO3 (o : Option HB) (k : D) (h2 : IH) : R D := match o with
  | some (.dic kvs) => (match keyD k with
    | some z => .ok ((kvK kvs z).getD .non) h2
    | none => .bad)
  | _ => .bad
def R.get2 (r : R D) (n : Nat) : R D := r.bind fun k h2 => gtO3 h2[n]? k h2
def gtO1 (o : Option HB) (n : Nat) (g : SE) (e : Lc) (h1 : IH) : R D := match o with
  | some (.dic _) => (g e h1).get2 n
  | _ => .bad
def R.get1 (r : R D) (g : SE) (e : Lc) : R D := r.bind fun d h1 => match d with
  | .ref n => gtO1 h1[n]? n g e h1
  | _ => .bad
def pyO (o : Option IH) (e : Lc) : RS := match o with
  | some h4 => .nx e h4
  | none => .bad
def R.pu3 (r : R D) (e : Lc) (d o : D) : RS := r.st e fun i h3 => pyO (fPuy o i d h3) e
def R.pu2 (r : R D) (g : SE) (e : Lc) (d : D) : RS := r.st e fun o h2 => (g e h2).pu3 e d o
def R.pu1 (r : R D) (f g : SE) (e : Lc) : RS := r.st e fun d h1 => (f e h1).pu2 g e d
def R.pk (r : R (List D)) (m : Nat) (ix : List Nat) : R (List D) := r.bind fun ds h1 => if ds.length = m then .ok (pick ix ds) h1 else .bad
def R.is (r : R D) : R (List D × (IH → Prop)) := r.bind fun d h1 => match d with
  | .str z => .ok (chD z, (fun _ => True : IH → Prop)) h1
  | _ => .bad
section
variable {α β : Type} {a b d o z : D} {h : IH} {e : Lc} {f g k : SE} {t u v : ST} {i n m : Nat} {ix : List Nat} {ds : List D} {as : SA} {q : Bool} {y : Int} {x : Str} {l : List D}
@[simp] theorem tIfx_s : tIfx t u v e h = (t e h).ift u v e := id rfl
@[simp] theorem k_ift : (R.ok q h).ift u v e = if q = true then u e h else v e h := id rfl
@[simp] theorem eLr_s : eLr f e h = (f e h).elr := id rfl
@[simp] theorem k_elr : (R.ok (.int y) h).elr = if -1000000 ≤ y ∧ y ≤ 1000000 then .ok (.ref h.length) (h ++ [.lst (rgD 0 y.toNat)]) else .bad := id rfl
@[simp] theorem eSS_s : eSS f e h = (f e h).ess := id rfl
@[simp] theorem k_ess : (R.ok d h).ess = ssO d h := id rfl
@[simp] theorem eGet_s : eGet f g e h = (f e h).get1 g e := id rfl
@[simp] theorem k_get1 : (R.ok (.ref n) h).get1 g e = gtO1 h[n]? n g e h := id rfl
@[simp] theorem gtO1_s {kvs : List (Key × D)} : gtO1 (some (.dic kvs)) n g e h = (g e h).get2 n := id rfl
@[simp] theorem k_get2 : (R.ok d h).get2 n = gtO3 h[n]? d h := id rfl
@[simp] theorem gtO3_i {kvs : List (Key × D)} : gtO3 (some (.dic kvs)) (.int y) h = .ok ((kvK kvs (.inl y)).getD .non) h := id rfl
@[simp] theorem sPuy_s : sPuy f g k e h = (k e h).pu1 f g e := id rfl
@[simp] theorem k_pu1 : (R.ok d h).pu1 f g e = (f e h).pu2 g e d := id rfl
@[simp] theorem k_pu2 : (R.ok o h).pu2 g e d = (g e h).pu3 e d o := id rfl
@[simp] theorem k_pu3 : (R.ok z h).pu3 e d o = pyO (fPuy o z d h) e := id rfl
@[simp] theorem pyO_s {h4 : IH} : pyO (some h4) e = .nx e h4 := id rfl
@[simp] theorem aPick_s : aPick m ix as e h = (as e h).pk m ix := id rfl
@[simp] theorem k_pk : (R.ok ds h).pk m ix = if ds.length = m then .ok (pick ix ds) h else .bad := id rfl
@[simp] theorem iS_s : iS f e h = (f e h).is := id rfl
@[simp] theorem k_is1 : (R.ok (.str x) h).is = .ok (chD x, (fun _ => True : IH → Prop)) h := id rfl
@[simp] theorem eDic0_s : eDic0 e h = .ok (.ref h.length) (h ++ [.dic []]) := id rfl
@[simp] theorem bStr_s : bStr [.int y] h = if y.natAbs.log2 < 1920 then .ok (.str (strI y)) h else .bad := id rfl
@[simp] theorem bTup_tup : bTup [.tup l] h = .ok (.tup l) h := id rfl
@[simp] theorem bTup_fls : bTup [.fls l] h = .ok (.tup l) h := id rfl
def tpO (o : Option HB) (h : IH) : R D := match o with
  | some (.lst l) => .ok (.tup l) h
  | _ => .bad
@[simp] theorem bTup_ref : bTup [.ref n] h = tpO h[n]? h := id rfl
@[simp] theorem tpO_s : tpO (some (.lst l)) h = .ok (.tup l) h := id rfl
@[simp] theorem bLen_fls : bLen [.fls l] h = .ok (.int l.length) h := id rfl
def lnO (o : Option HB) (h : IH) : R D := match o with
  | some (.lst l) => .ok (.int l.length) h
  | some (.dic l) => .ok (.int l.length) h
  | _ => .bad
@[simp] theorem bLen_ref : bLen [.ref n] h = lnO h[n]? h := id rfl
@[simp] theorem lnO_s : lnO (some (.lst l)) h = .ok (.int l.length) h := id rfl
@[simp] theorem lnO_d {kvs : List (Key × D)} : lnO (some (.dic kvs)) h = .ok (.int kvs.length) h := id rfl
@[simp] theorem bLen_str : bLen [.str x] h = if x.length ≤ sizeLine then .ok (.int x.length) h else .bad := id rfl
@[simp] theorem bInt_bl : bInt [.bl q] h = .ok (.int (if q then 1 else 0)) h := id rfl
@[simp] theorem bAbs_int : bAbs [.int y] h = .ok (.int (if y < 0 then -y else y)) h := id rfl
@[simp] theorem itS_tup : itS (.tup l) h = some (l, fun _ => True) := id rfl
@[simp] theorem itS_fls : itS (.fls l) h = some (l, fun _ => True) := id rfl
def itO (o : Option HB) (n : Nat) : Option (List D × (IH → Prop)) := match o with
  | some (.lst l) => some (l, fun h' => h'[n]? = some (.lst l))
  | _ => none
@[simp] theorem itS_ref : itS (.ref n) h = itO h[n]? n := id rfl
@[simp] theorem itO_s : itO (some (.lst l)) n = some (l, fun h' => h'[n]? = some (.lst l)) := id rfl
def atO (o : Option D) (h : IH) : R D := match o with
  | some d => .ok d h
  | none => .bad
@[simp] theorem atO_s : atO (some d) h = .ok d h := id rfl
@[simp] theorem fIy_tup : fIy (.tup l) (.int y) h = atO (atI l y) h := id rfl
@[simp] theorem fIy_fls : fIy (.fls l) (.int y) h = atO (atI l y) h := id rfl
def iyO (o : Option HB) (k : D) (h : IH) : R D := match o with
  | some (.dic kvs) => (match keyD k with
    | some z => atO (kvK kvs z) h
    | none => .bad)
  | some (.lst l) => (match k with
    | .int i => atO (atI l i) h
    | _ => .bad)
  | _ => .bad
@[simp] theorem fIy_ref : fIy (.ref n) b h = iyO h[n]? b h := by
  cases e : h[n]? with
  | none => cases b <;> (simp [fIy, fIx, iyO, e]; done)
  | some o => cases o <;> cases b <;> simp [fIy, fIx, iyO, e, atO] <;> rfl
@[simp] theorem iyO_l : iyO (some (.lst l)) (.int y) h = atO (atI l y) h := id rfl
@[simp] theorem iyO_d {kvs : List (Key × D)} : iyO (some (.dic kvs)) (.int y) h = atO (kvK kvs (.inl y)) h := id rfl
end
end Fl
/-! Fl, part 29: loops and comprehensions over plain data. -/
namespace Fl
open PySem L2
/-- h, and more behind it -/
def Keep (h H : IH) : Prop := ∃ g, H = h ++ g
section
variable {h H : IH}
theorem Keep.refl : Keep h h := ⟨[], by simp⟩
theorem Keep.app {g : IH} (k : Keep h H) : Keep h (H ++ g) := by
  obtain ⟨a, rfl⟩ := k
  exact ⟨a ++ g, by simp⟩
theorem Keep.trans {h2 : IH} (k : Keep h H) (k2 : Keep H h2) : Keep h h2 := by
  obtain ⟨a, rfl⟩ := k
  obtain ⟨b, rfl⟩ := k2
  exact ⟨a ++ b, by simp⟩
theorem Keep.le (k : Keep h H) : h.length ≤ H.length := by
  obtain ⟨a, rfl⟩ := k
  simp
theorem Keep.set {p : Nat} {o : HB} (k : Keep h H) (hp : h.length ≤ p) : Keep h (H.set p o) := by
  obtain ⟨a, rfl⟩ := k
  exact ⟨a.set (p - h.length) o, by rw [List.set_append_right _ _ hp]⟩
theorem Keep.at {p : Nat} {o : HB} (k : Keep h H) (e : h[p]? = some o) : H[p]? = some o := by
  obtain ⟨a, rfl⟩ := k
  rw [List.getElem?_append_left (List.getElem?_eq_some_iff.mp e).1]
  exact e
theorem gc_keep {d : D} (k : Keep h H) (q : clD h.length d = true) : gc h (.ok d H) = .ok d h := by
  obtain ⟨a, rfl⟩ := k
  exact gc_app q
theorem gc_keepx {c : Nat} {fs : List (Str × D)} (k : Keep h H) (q : (fs.all fun p => clD h.length p.2) = true) : gc h (.ex c fs H) = .ex c fs h := by
  obtain ⟨a, rfl⟩ := k
  exact gc_appx q
theorem fz_keep {n : Nat} {l : List D} (k : Keep h H) (e : H[n]? = some (.lst l)) (hn : h.length ≤ n) (q : clDs h.length l = true) : fz h (.ok (.ref n) H) = .ok (.fls l) h := by
  obtain ⟨a, rfl⟩ := k
  exact fz_app e hn q
end
/-! comprehensions that change nothing -/
section
variable {c : IH → Prop} {t : Tg} {k : ST} {f : SE} {r : Nat} {e : Lc} {h H0 : IH} {α : Type}
theorem fz_filt (xs : List α) (enc : α → D) (w : α → Option D) (hr : r = h.length) (hH : H0 = h ++ [.lst []]) (hc : ∀ acc, c (h ++ [.lst acc])) (small : xs.length ≤ 16777216)
    (step : ∀ x ∈ xs, ∃ e1, tgS t (enc x) e = some e1 ∧ ∀ acc H, H = h ++ [.lst acc] → match w x with
      | some y => k e1 H = .ok true H ∧ f e1 H = .ok y H
      | none => k e1 H = .ok false H)
    (cl : clDs h.length (xs.filterMap w) = true) : fz h (lcGo c t k f r e (xs.map enc) H0) = .ok (.fls (xs.filterMap w)) h := by
  subst hr hH
  have z : ∀ (xs : List α) (acc : List D), acc.length + xs.length ≤ sizeLine → (∀ x ∈ xs, ∃ e1, tgS t (enc x) e = some e1 ∧ ∀ acc H, H = h ++ [.lst acc] → match w x with
      | some y => k e1 H = .ok true H ∧ f e1 H = .ok y H
      | none => k e1 H = .ok false H) → lcGo c t k f h.length e (xs.map enc) (h ++ [.lst acc]) = .ok (.ref h.length) (h ++ [.lst (acc ++ xs.filterMap w)]) := by
    intro xs
    induction xs with
    | nil =>
      intro acc _ _
      rw [List.map_nil]
      unfold lcGo
      rw [if_pos (hc acc)]
      simp
    | cons x xs ih =>
      intro acc small step
      obtain ⟨e1, st, q⟩ := step x (.head _)
      have q := q acc _ rfl
      have st2 := fun y hy => step y (.tail _ hy)
      rw [List.map_cons]
      unfold lcGo
      rw [if_pos (hc acc), st]
      rw [List.length_cons] at small
      cases hw : w x with
      | none =>
        rw [hw] at q
        dsimp only at q ⊢
        rw [q]
        show lcGo c t k f h.length e (xs.map enc) (h ++ [.lst acc]) = _
        rw [ih acc (by omega) st2, List.filterMap_cons_none hw]
      | some y =>
        rw [hw] at q
        dsimp only at q ⊢
        rw [q.1]
        show ((f e1 (h ++ [.lst acc])).bindN _) = _
        rw [q.2]
        have g1 : (h ++ [HB.lst acc])[h.length]? = some (.lst acc) := by simp
        have g2 : (h ++ [HB.lst acc]).set h.length (.lst (acc ++ [y])) = h ++ [.lst (acc ++ [y])] := by simp
        have z := ih (acc ++ [y]) (by rw [List.length_append]; simp only [List.length_cons, List.length_nil]; omega) st2
        rw [List.filterMap_cons_some hw]
        have e2 : acc ++ y :: xs.filterMap w = acc ++ [y] ++ xs.filterMap w := by simp
        rw [e2, ← z, bindN_ok, g1]
        dsimp only
        rw [if_pos (by omega), g2]
  have y := z xs [] (by rw [sizeLine_eq]; simpa using small) step
  rw [y]
  exact fz_lst (by simpa using cl)
theorem fz_map (xs : List α) (enc g : α → D) (hr : r = h.length) (hH : H0 = h ++ [.lst []]) (hc : ∀ acc, c (h ++ [.lst acc])) (small : xs.length ≤ 16777216)
    (step : ∀ x ∈ xs, ∃ e1, tgS t (enc x) e = some e1 ∧ ∀ acc H, H = h ++ [.lst acc] → f e1 H = .ok (g x) H)
    (cl : clDs h.length (xs.map g) = true) : fz h (lcGo c t tYe f r e (xs.map enc) H0) = .ok (.fls (xs.map g)) h := by
  have e1 : xs.map g = xs.filterMap fun x => some (g x) := by rw [← List.filterMap_eq_map]; rfl
  rw [e1] at cl ⊢
  refine fz_filt xs enc (fun x => some (g x)) hr hH hc small (fun x hx => ?_) cl
  obtain ⟨e1, s1, s2⟩ := step x hx
  exact ⟨e1, s1, fun acc H hH => ⟨rfl, s2 acc H hH⟩⟩
end
@[simp] theorem wipeD_nil {e : Lc} : wipeD e [] = e := rfl
@[simp] theorem wipeD_cons {e : Lc} {v : Nat} {vs : List Nat} : wipeD e (v :: vs) = (wipeD e vs).set v none := rfl
theorem intsD_nat : ∀ l : List Nat, intsD (l.map fun t : Nat => D.int t) = some (l.map fun t : Nat => (t : Int))
  | [] => rfl
  | x :: l => by
    show (intsD (l.map fun t : Nat => D.int t)).map ((x : Int) :: ·) = _
    rw [intsD_nat l]
    rfl
theorem Keep.one {h : IH} {o : HB} {n : Nat} {x : HB} (e : h[n]? = some x) : (h ++ [o])[n]? = some x := by
  rw [List.getElem?_append_left (List.getElem?_eq_some_iff.mp e).1]
  exact e
theorem rgD_map (n : Nat) : rgD 0 n = (List.range n).map fun i => D.int (i : Nat) := by
  unfold rgD
  simp
/-! while -/
theorem wh_run {c : ST} {b : SS} (I : Nat → Lc → IH → Prop) (P : RS → Prop) (nb : ¬ P .bad)
    (step : ∀ (m : Nat) (e : Lc) (h : IH), I m e h → (∃ h1, c e h = .ok false h1 ∧ P (.nx e h1)) ∨ (∃ h1, c e h = .ok true h1 ∧ ((∃ e2 h2 m2, (b e h1 = .nx e2 h2 ∨ b e h1 = .ct e2 h2) ∧ m2 < m ∧ I m2 e2 h2) ∨
      (∃ e2 h2, b e h1 = .bk e2 h2 ∧ P (.nx e2 h2)) ∨ (∃ d h2, b e h1 = .rt d h2 ∧ P (.rt d h2))))) {m : Nat} {e : Lc} {h : IH} (i0 : I m e h) : P (sWh c b e h) := by
  have key : ∀ (m : Nat) (e : Lc) (h : IH), I m e h → ∃ n, P (wlGo c b n e h) := by
    intro m
    induction m using Nat.strongRecOn with
    | ind m ih =>
      intro e h i
      rcases step m e h i with ⟨h1, z, p⟩ | ⟨h1, z, p⟩
      · refine ⟨1, ?_⟩
        unfold wlGo
        rw [z]
        exact p
      · rcases p with ⟨e2, h2, m2, y, lt, i2⟩ | ⟨e2, h2, y, p⟩ | ⟨d, h2, y, p⟩
        · obtain ⟨n, p⟩ := ih m2 lt e2 h2 i2
          refine ⟨n + 1, ?_⟩
          unfold wlGo
          rw [z]
          simp only [R.st, if_true]
          rcases y with y | y
          · rw [y]; exact p
          · rw [y]; exact p
        · refine ⟨1, ?_⟩
          unfold wlGo
          rw [z]
          simp only [R.st, if_true]
          rw [y]
          exact p
        · refine ⟨1, ?_⟩
          unfold wlGo
          rw [z]
          simp only [R.st, if_true]
          rw [y]
          exact p
  obtain ⟨n, p⟩ := key m e h i0
  have hb : wlGo c b n e h ≠ .bad := fun z => nb (z ▸ p)
  rw [sWh_eq rfl hb]
  exact p
end Fl
/-! Fl, part 30: lists of naturals and pairs. -/
namespace Fl
open PySem L2
abbrev nDs (l : List Nat) : List D := l.map fun t : Nat => D.int t
@[simp] theorem cl_nDs {n : Nat} {l : List Nat} : clDs n (l.map fun t : Nat => D.int t) = true := clDs_map fun _ _ => by simp
def pN (p : Nat × Nat) : D := .tup [.int p.1, .int p.2]
/-- the least, the greatest -/
def lmin : List Nat → Nat
  | [] => 0
  | x :: l => l.foldl min x
def lmax : List Nat → Nat
  | [] => 0
  | x :: l => l.foldl max x
theorem minI_nat : ∀ l : List Nat, minI (l.map fun t : Nat => (t : Int)) = ((lmin l : Nat) : Int)
  | [] => rfl
  | x :: l => by
    show (l.map fun t : Nat => (t : Int)).foldl min (x : Int) = ((l.foldl min x : Nat) : Int)
    induction l generalizing x with
    | nil => rfl
    | cons y l ih =>
      rw [List.map_cons, List.foldl_cons, List.foldl_cons, ← ih]
      congr 1
      omega
theorem maxI_nat : ∀ l : List Nat, maxI (l.map fun t : Nat => (t : Int)) = ((lmax l : Nat) : Int)
  | [] => rfl
  | x :: l => by
    show (l.map fun t : Nat => (t : Int)).foldl max (x : Int) = ((l.foldl max x : Nat) : Int)
    induction l generalizing x with
    | nil => rfl
    | cons y l ih =>
      rw [List.map_cons, List.foldl_cons, List.foldl_cons, ← ih]
      congr 1
      omega
section
variable {h : IH} {l : List Nat} {n : Nat}
theorem gMin_s (ne : l ≠ []) : gMin [.fls (nDs l)] h = .ok (.int (lmin l : Nat)) h := by
  have := List.length_pos_iff.mpr ne
  simp [gMin, lsV, intsD_nat, minI_nat, this]
theorem gMax_s (ne : l ≠ []) : gMax [.fls (nDs l)] h = .ok (.int (lmax l : Nat)) h := by
  have := List.length_pos_iff.mpr ne
  simp [gMax, lsV, intsD_nat, maxI_nat, this]
@[simp] theorem gAdd_int {i j : Int} : gAdd (.int i) (.int j) h = .ok (.int (i + j)) h := rfl
@[simp] theorem gAdd_str {i j : Str} : gAdd (.str i) (.str j) h = if i.length + j.length ≤ sizeLine then .ok (.str (i ++ j)) h else .bad := id rfl
@[simp] theorem gAdd_tup {i j : List D} : gAdd (.tup i) (.tup j) h = if i.length + j.length ≤ sizeLine then .ok (.tup (i ++ j)) h else .bad := id rfl
@[simp] theorem gAdd_fls {i j : List D} : gAdd (.fls i) (.fls j) h = if i.length + j.length ≤ sizeLine then .ok (.ref h.length) (h ++ [.lst (i ++ j)]) else .bad := id rfl
theorem fPuy_l {d : D} {L : List D} {i : Nat} (e : h[n]? = some (.lst L)) (hi : i < L.length) : fPuy (.ref n) (.int (i : Nat)) d h = some (h.set n (.lst (L.set i d))) := by
  have e2 : ixN L.length (i : Int) = some i := by
    unfold ixN
    rw [if_pos (by omega), if_pos (by omega)]
    simp
  simp [fPuy, e, e2]
theorem isLst_r {L : List D} (e : h[n]? = some (.lst L)) : isLst (.ref n) h = true := by simp [e]
theorem mAppend_s {L : List D} {d : D} (e : h[n]? = some (.lst L)) (hz : L.length < 16777216) : mAppend (.ref n) [d] h = .ok .non (h.set n (.lst (L ++ [d]))) := by
  have : L.length < sizeLine := by rw [sizeLine_eq]; exact hz
  simp [mAppend, e, this]
theorem mPop_s {L : List D} {d : D} (e : h[n]? = some (.lst (L ++ [d]))) : mPop (.ref n) [] h = .ok d (h.set n (.lst L)) := by
  simp [mPop, e]
theorem gExt_s {L M : List D} {d : D} (e : h[n]? = some (.lst L)) (ed : sqV d h = some M) (hz : L.length + M.length ≤ 16777216) : gExt (.ref n) [d] h = .ok .non (h.set n (.lst (L ++ M))) := by
  have : L.length + M.length ≤ sizeLine := by rw [sizeLine_eq]; exact hz
  simp [gExt, e, ed, this]
theorem mRemove_s {k : Nat} (e : h[n]? = some (.lst (nDs l))) (hk : k ∈ l) : mRemove (.ref n) [.int k] h = .ok .non (h.set n (.lst (nDs (l.erase k)))) := by
  have m : (k : Int) ∈ l.map fun t : Nat => (t : Int) := List.mem_map.mpr ⟨k, hk, rfl⟩
  have ix : ∀ l : List Nat, (l.map fun t : Nat => (t : Int)).idxOf (k : Int) = l.idxOf k := by
    intro l
    induction l with
    | nil => rfl
    | cons x l ih =>
      rw [List.map_cons, List.idxOf_cons, List.idxOf_cons, ih]
      by_cases q : x = k
      · simp [q]
      · have q2 : ((x : Int) == (k : Int)) = false := beq_eq_false_iff_ne.mpr (by omega)
        have q3 : (x == k) = false := by simpa using q
        rw [q2, q3]
  have er : ∀ l : List Nat, k ∈ l → l.eraseIdx (l.idxOf k) = l.erase k := fun l hl => (List.erase_eq_eraseIdx_of_idxOf (by rfl)).symm
  have ers : ∀ (l : List Nat) (i : Nat), (l.map fun t : Nat => (t : Int)).eraseIdx i = (l.eraseIdx i).map fun t : Nat => (t : Int) := by
    intro l
    induction l with
    | nil => intro i; simp
    | cons x l ih =>
      intro i
      cases i with
      | zero => simp
      | succ i => simp [ih]
  have e3 : ((l.map fun t : Nat => (t : Int)).eraseIdx ((l.map fun t : Nat => (t : Int)).idxOf (k : Int))).map D.int = nDs (l.erase k) := by
    rw [ix, ← er l hk, ers, List.map_map]
    rfl
  dsimp only [mRemove]
  rw [e]
  dsimp only
  rw [intsD_nat]
  dsimp only
  rw [if_pos m, e3]
end
/-! the least row -/
theorem minRw_mem : ∀ (rs : List (List Int)) (r : List Int), rs.foldl (fun a y => if y < a then y else a) r ∈ r :: rs ∧ ∀ x ∈ r :: rs, ¬ x < rs.foldl (fun a y => if y < a then y else a) r
  | [], r => by simp [List.lt_irrefl]
  | s :: rs, r => by
    rw [List.foldl_cons]
    by_cases q : s < r
    · rw [if_pos q]
      obtain ⟨h1, h2⟩ := minRw_mem rs s
      refine ⟨List.mem_cons_of_mem _ h1, fun x hx => ?_⟩
      rcases List.mem_cons.mp hx with rfl | hx
      · intro z
        exact h2 s (List.mem_cons_self ..) (List.lt_trans q z)
      · exact h2 x hx
    · rw [if_neg q]
      obtain ⟨h1, h2⟩ := minRw_mem rs r
      refine ⟨?_, fun x hx => ?_⟩
      · rcases List.mem_cons.mp h1 with z | z
        · rw [z]; exact List.mem_cons_self ..
        · exact List.mem_cons_of_mem _ (List.mem_cons_of_mem _ z)
      · rcases List.mem_cons.mp hx with rfl | hx
        · exact h2 _ (List.mem_cons_self ..)
        · rcases List.mem_cons.mp hx with rfl | hx
          · intro z
            have le : ¬ x < r := q
            have le2 := h2 r (List.mem_cons_self ..)
            rcases List.mem_cons.mp h1 with y | y
            · rw [y] at z
              exact q z
            · exact le2 (List.lt_of_le_of_lt (List.not_lt.mp q) z)
          · exact h2 x (List.mem_cons_of_mem _ hx)
def rP (p : Nat × Nat) : List Int := [(p.1 : Int), (p.2 : Int)]
theorem rP_lt {p q : Nat × Nat} : rP p < rP q ↔ p.1 < q.1 ∨ (p.1 = q.1 ∧ p.2 < q.2) := by
  unfold rP
  rw [List.cons_lt_cons_iff, List.cons_lt_cons_iff]
  simp [List.lt_irrefl]
  omega
theorem intsD_pN {p : Nat × Nat} {l : List (Nat × Nat)} : intsD (pN p :: l.map pN) = none := rfl
theorem rowsD_pN (l : List (Nat × Nat)) : rowsD (l.map pN) = some (l.map rP) := by
  have e : l.map pN = (l.map rP).map rowD := by
    rw [List.map_map]
    rfl
  rw [e, rowsD_map]
/-- p is the least one of l -/
def LeastP (l : List (Nat × Nat)) (p : Nat × Nat) : Prop := p ∈ l ∧ ∀ q ∈ l, p.1 < q.1 ∨ (p.1 = q.1 ∧ p.2 ≤ q.2)
theorem LeastP.uniq {l : List (Nat × Nat)} {p q : Nat × Nat} (a : LeastP l p) (b : LeastP l q) : p = q := by
  have h1 := a.2 q b.1
  have h2 := b.2 p a.1
  exact Prod.ext (by omega) (by omega)
theorem leastP_ex {l : List (Nat × Nat)} (ne : l ≠ []) : ∃ p, LeastP l p := by
  induction l with
  | nil => exact absurd rfl ne
  | cons x l ih =>
    by_cases q : l = []
    · subst q
      exact ⟨x, by simp, fun y hy => by simp at hy; subst hy; omega⟩
    · obtain ⟨p, h1, h2⟩ := ih q
      by_cases c : p.1 < x.1 ∨ (p.1 = x.1 ∧ p.2 ≤ x.2)
      · refine ⟨p, List.mem_cons_of_mem _ h1, fun y hy => ?_⟩
        rcases List.mem_cons.mp hy with rfl | hy
        · exact c
        · exact h2 y hy
      · refine ⟨x, List.mem_cons_self .., fun y hy => ?_⟩
        rcases List.mem_cons.mp hy with rfl | hy
        · omega
        · have := h2 y hy
          omega
theorem gMin_p {l : List (Nat × Nat)} {p : Nat × Nat} {h : IH} (hp : LeastP l p) : gMin [.fls (l.map pN)] h = .ok (pN p) h := by
  cases l with
  | nil => exact absurd hp.1 (by simp)
  | cons x l =>
    have e : minRw ((x :: l).map rP) = rP p := by
      obtain ⟨h1, h2⟩ := minRw_mem (l.map rP) (rP x)
      rw [← List.map_cons] at h1 h2
      obtain ⟨y, hy, ey⟩ := List.mem_map.mp h1
      have h3 := h2 (rP p) (List.mem_map.mpr ⟨p, hp.1, rfl⟩)
      rw [← ey, rP_lt] at h3
      have h4 := hp.2 y hy
      have e3 : y = p := Prod.ext (by omega) (by omega)
      show List.foldl _ (rP x) (l.map rP) = _
      rw [← ey, e3]
    have e2 := rowsD_pN (x :: l)
    rw [List.map_cons] at e2 e
    show (match intsD (pN x :: l.map pN) with
        | some ns => if 0 < ns.length then R.ok (D.int (minI ns)) h else R.bad
        | none => (match rowsD (pN x :: l.map pN) with
          | some (r :: rs) => R.ok (rowD (minRw (r :: rs))) h
          | _ => R.bad)) = _
    rw [intsD_pN, e2]
    show R.ok (rowD (minRw (rP x :: l.map rP))) h = _
    rw [e]
    rfl
/-! x in a tuple of naturals -/
theorem flat_nat (l : List Nat) : (nDs l).all flatD = true := by simp [flatD]
theorem inF_nat (k : Nat) : ∀ l : List Nat, inF (.int k) (nDs l) = decide (k ∈ l)
  | [] => by simp [inF]
  | x :: l => by
    have ih := inF_nat k l
    unfold inF at ih ⊢
    rw [show nDs (x :: l) = .int x :: nDs l from rfl, List.any_cons, ih]
    by_cases q : x = k
    · simp [eqF, q]
    · have : ¬ (x : Int) = (k : Int) := by omega
      have q2 : ¬ k = x := fun z => q z.symm
      simp [eqF, this, q2]
theorem fIn_tup {neg : Bool} {k : Nat} {l : List Nat} {h : IH} : fIn neg (.int k) (.tup (nDs l)) h = .ok (.bl (neg != decide (k ∈ l))) h := by
  dsimp only [fIn]
  rw [if_pos (by simp [flatD, flat_nat]), inF_nat]
theorem fIn_fls {neg : Bool} {k : Nat} {l : List Nat} {h : IH} : fIn neg (.int k) (.fls (nDs l)) h = .ok (.bl (neg != decide (k ∈ l))) h := by
  dsimp only [fIn]
  rw [if_pos (by simp [flatD, flat_nat]), inF_nat]
theorem fIn_ref {neg : Bool} {k n : Nat} {l : List Nat} {h : IH} (e : h[n]? = some (.lst (nDs l))) : fIn neg (.int k) (.ref n) h = .ok (.bl (neg != decide (k ∈ l))) h := by
  dsimp only [fIn]
  rw [e]
  dsimp only
  rw [if_pos (flat_nat l), inF_nat]
theorem fIn_dic {neg : Bool} {i : Int} {n : Nat} {kvs : List (Key × D)} {h : IH} (e : h[n]? = some (.dic kvs)) : fIn neg (.int i) (.ref n) h = .ok (.bl (neg != (kvK kvs (.inl i)).isSome)) h := by
  dsimp only [fIn]
  rw [e]
section
variable {h : IH} {l : List D} {a b : HB} {n : Nat} {k : Int}
theorem fz_two (q : clDs h.length l = true) : fz h (.ok (.ref (h.length + 1)) (h ++ [a, .lst l])) = .ok (.fls l) h := fz_app (by simp) (by omega) q
theorem fz_three (q : clDs h.length l = true) : fz h (.ok (.ref (h.length + 2)) (h ++ [a, b, .lst l])) = .ok (.fls l) h := fz_app (by simp) (by omega) q
def muO (o : Option HB) (k : Int) (h : IH) : R D := match o with
  | some (.lst a) => if -(2 ^ 63) ≤ k ∧ k < 2 ^ 63 ∧ a.length * k.toNat ≤ sizeLine then .ok (.ref h.length) (h ++ [.lst (List.replicate k.toNat a).flatten]) else .bad
  | _ => .bad
@[simp] theorem fMul_ref : fMul (.ref n) (.int k) h = muO h[n]? k h := id rfl
theorem muO_s {m : Nat} (hm : l.length * m ≤ 16777216) (hm2 : m ≤ 16777216) : muO (some (.lst l)) (m : Nat) h = .ok (.ref h.length) (h ++ [.lst (List.replicate m l).flatten]) := by
  have : l.length * m ≤ sizeLine := by rw [sizeLine_eq]; exact hm
  unfold muO
  dsimp only
  rw [if_pos ⟨by omega, by omega, by simpa using this⟩]
  simp
@[simp] theorem bList_tup : bList [.tup l] h = .ok (.ref h.length) (h ++ [.lst l]) := rfl
@[simp] theorem bList_fls : bList [.fls l] h = .ok (.ref h.length) (h ++ [.lst l]) := rfl
@[simp] theorem fSl_tup {lo hi : Option Int} : fSl lo hi (.tup l) h = .ok (.tup (cutD l lo hi)) h := rfl
@[simp] theorem fSl_fls {lo hi : Option Int} : fSl lo hi (.fls l) h = .ok (.ref h.length) (h ++ [.lst (cutD l lo hi)]) := rfl
def slO (o : Option HB) (lo hi : Option Int) (h : IH) : R D := match o with
  | some (.lst l) => .ok (.ref h.length) (h ++ [.lst (cutD l lo hi)])
  | _ => .bad
@[simp] theorem fSl_ref {lo hi : Option Int} : fSl lo hi (.ref n) h = slO h[n]? lo hi h := id rfl
@[simp] theorem slO_s {lo hi : Option Int} : slO (some (.lst l)) lo hi h = .ok (.ref h.length) (h ++ [.lst (cutD l lo hi)]) := id rfl
theorem cut_from {α : Type} {l : List α} {n : Nat} (hn : n ≤ l.length) : cutD l (some (n : Nat)) none = l.drop n := by
  have e : HT.sIx l.length 0 (some (n : Nat)) = n := by rw [HT.sIx_nat]; omega
  unfold cutD
  rw [e, HT.sIx_none, List.take_of_length_le (by simp)]
theorem cut_to {α : Type} {l : List α} {n : Nat} (hn : n ≤ l.length) : cutD l none (some (n : Nat)) = l.take n := by
  have e : HT.sIx l.length l.length (some (n : Nat)) = n := by rw [HT.sIx_nat]; omega
  unfold cutD
  rw [e, HT.sIx_none]
  simp
end
/-- facts about a small number, for simp -/
theorem small {n : Nat} (h : n ≤ 4000) : n ≤ 16777216 ∧ (-1000000 : Int) ≤ (n : Int) ∧ (n : Int) ≤ 1000000 ∧ (-4611686018427387904 : Int) ≤ (n : Int) ∧ (n : Int) < 4611686018427387904 ∧ ¬ (n : Int) < 0 ∧ (0 : Int) ≤ (n : Int) := by omega
theorem fm_congr {α β : Type} {f g : α → Option β} : ∀ {l : List α}, (∀ x ∈ l, f x = g x) → l.filterMap f = l.filterMap g
  | [], _ => rfl
  | x :: l, h => by
    rw [List.filterMap_cons, List.filterMap_cons, h x (.head _), fm_congr fun y hy => h y (.tail _ hy)]
/-! a dict as a set of naturals -/
def dS (F : List Nat) : List (Key × D) := F.map fun k : Nat => ((.inl (k : Int) : Key), D.bl true)
theorem kvK_dS (k : Nat) : ∀ F : List Nat, (kvK (dS F) (.inl (k : Int))).isSome = decide (k ∈ F)
  | [] => by simp [kvK, dS]
  | x :: F => by
    have ih := kvK_dS k F
    unfold kvK dS at ih ⊢
    rw [List.map_cons, List.find?_cons]
    by_cases q : x = k
    · subst q
      simp
    · have q2 : decide ((Sum.inl (x : Int) : Key) = .inl (k : Int)) = false := decide_eq_false fun z => q (by have := Sum.inl.inj z; omega)
      dsimp only
      rw [q2]
      dsimp only
      rw [ih]
      have q3 : ¬ k = x := fun z => q z.symm
      simp [q3]
theorem putKD_dS {F : List Nat} {k : Nat} (hk : k ∉ F) : putKD (dS F) (.inl (k : Int)) (.bl true) = dS (F ++ [k]) := by
  have e : ((dS F).any fun kv => decide (kv.1 = .inl (k : Int))) = false := by
    rw [List.any_eq_false]
    intro kv hkv
    obtain ⟨x, hx, rfl⟩ := List.mem_map.mp hkv
    simp only [decide_eq_true_eq]
    intro z
    have z2 := Sum.inl.inj z
    have : x = k := by omega
    exact hk (this ▸ hx)
  unfold putKD
  rw [e]
  simp [dS]
theorem fPuy_dS {F : List Nat} {k n : Nat} {h : IH} (e : h[n]? = some (.dic (dS F))) (hk : k ∉ F) (hz : F.length < 16777216) : fPuy (.ref n) (.int (k : Nat)) (.bl true) h = some (h.set n (.dic (dS (F ++ [k])))) := by
  have z : (dS F).length < sizeLine := by rw [sizeLine_eq]; simpa [dS] using hz
  simp only [fPuy, e, keyD]
  rw [if_pos z, putKD_dS hk]
theorem dkeys_dS : ∀ F : List Nat, dkeys (dS F) = some (F.map fun k : Nat => (k : Int))
  | [] => rfl
  | k :: F => by
    have ih := dkeys_dS F
    unfold dkeys dS at ih ⊢
    rw [List.map_cons, List.foldr_cons, ih]
    rfl
theorem nDs_int (l : List Nat) : (l.map fun k : Nat => (k : Int)).map D.int = nDs l := by
  rw [List.map_map]
  rfl
/-- sorted(..) of a list or dict of naturals that stand in l, l ascending -/
theorem srt_to {F l : List Nat} (hF : F.Nodup) (hl : l.Pairwise (· < ·)) (hm : ∀ k, k ∈ F ↔ k ∈ l) : srt (F.map fun k : Nat => (k : Int)) = l.map fun k : Nat => (k : Int) := by
  have nd : l.Nodup := hl.imp fun h => Nat.ne_of_lt h
  have p : F.Perm l := (List.perm_ext_iff_of_nodup hF nd).mpr hm
  refine srt_uniq ((srt_perm _).trans (p.map _)) (srt_srt _) ?_
  rw [List.pairwise_map]
  exact hl.imp fun h => by omega
theorem gSorted_dS {F l : List Nat} {n : Nat} {h : IH} (e : h[n]? = some (.dic (dS F))) (h64 : F.length < 64) (hF : F.Nodup) (hl : l.Pairwise (· < ·)) (hm : ∀ k, k ∈ F ↔ k ∈ l) :
    gSorted [.ref n] h = .ok (.ref h.length) (h ++ [.lst (nDs l)]) := by
  have e1 : lsV (.ref n) h = none := by simp [lsV, e]
  unfold gSorted
  dsimp only
  rw [e1]
  dsimp only [bSorted]
  rw [e]
  dsimp only
  rw [dkeys_dS]
  dsimp only
  rw [if_pos (by simpa using h64), srt_to hF hl hm, nDs_int]
theorem gSorted_nat {d : D} {F l : List Nat} {h : IH} (e : lsV d h = some (nDs F)) (hF : F.Nodup) (hl : l.Pairwise (· < ·)) (hm : ∀ k, k ∈ F ↔ k ∈ l) :
    gSorted [d] h = .ok (.ref h.length) (h ++ [.lst (nDs l)]) := by
  unfold gSorted
  dsimp only
  rw [e]
  dsimp only
  rw [intsD_nat]
  dsimp only
  rw [srt_to hF hl hm, nDs_int]
@[simp] theorem lsV_fls {l : List D} {h : IH} : lsV (.fls l) h = some l := rfl
theorem lsV_ref {l : List D} {n : Nat} {h : IH} (e : h[n]? = some (.lst l)) : lsV (.ref n) h = some l := by simp [lsV, e]
@[simp] theorem sqV_fls {l : List D} {h : IH} : sqV (.fls l) h = some l := rfl
@[simp] theorem sqV_tup {l : List D} {h : IH} : sqV (.tup l) h = some l := rfl
theorem range_lt (n : Nat) : (List.range n).Pairwise (· < ·) := List.pairwise_lt_range
/-! for over a range, over a mapped list -/
section
variable {c : IH → Prop} {t : Tg} {b : SS} {e : Lc} {h : IH} {n : Nat} {α : Type}
theorem for_map (xs : List α) (enc : α → D) (I : Nat → Lc → IH → Prop) (P : RS → Prop)
    (step : ∀ (i : Nat) (x : α) (e : Lc) (h : IH), xs[i]? = some x → I i e h → c h ∧ ∃ e1, tgS t (enc x) e = some e1 ∧ ((∃ e2 h2, (b e1 h = .nx e2 h2 ∨ b e1 h = .ct e2 h2) ∧ I (i + 1) e2 h2) ∨ (∃ e2 h2, b e1 h = .bk e2 h2 ∧ P (.nx e2 h2)) ∨ (∃ d h2, b e1 h = .rt d h2 ∧ P (.rt d h2))))
    (fin : ∀ e h, I xs.length e h → c h ∧ P (.nx e h)) (i0 : I 0 e h) : P (forGo c t b (xs.map enc) e h) := by
  refine for_run I P (fun i d e h hd hi => ?_) (fun e h hi => fin e h (by simpa using hi)) i0
  rw [List.getElem?_map] at hd
  obtain ⟨x, hx, rfl⟩ := Option.map_eq_some_iff.mp hd
  exact step i x e h hx hi
theorem for_rg (I : Nat → Lc → IH → Prop) (P : RS → Prop)
    (step : ∀ (i : Nat) (e : Lc) (h : IH), i < n → I i e h → c h ∧ ∃ e1, tgS t (.int (i : Nat)) e = some e1 ∧ ((∃ e2 h2, (b e1 h = .nx e2 h2 ∨ b e1 h = .ct e2 h2) ∧ I (i + 1) e2 h2) ∨ (∃ e2 h2, b e1 h = .bk e2 h2 ∧ P (.nx e2 h2)) ∨ (∃ d h2, b e1 h = .rt d h2 ∧ P (.rt d h2))))
    (fin : ∀ e h, I n e h → c h ∧ P (.nx e h)) (i0 : I 0 e h) : P (forGo c t b (rgD 0 n) e h) := by
  refine for_run I P (fun i d e h hd hi => ?_) (fun e h hi => fin e h (by rwa [rgD_len] at hi)) i0
  obtain ⟨h1, rfl⟩ := rgD_get hd
  rw [Int.zero_add]
  exact step i e h h1 hi
end
theorem filter_succ (p : Nat → Bool) (i : Nat) : (List.range (i + 1)).filter p = (List.range i).filter p ++ (if p i = true then [i] else []) := by
  rw [List.range_succ, List.filter_append]
  by_cases q : p i = true <;> simp [q]
theorem filter_rg_le (p : Nat → Bool) (i : Nat) : ((List.range i).filter p).length ≤ i := by
  have := List.length_filter_le p (List.range i)
  rwa [List.length_range] at this
theorem fm_filter {α β : Type} {p : α → Prop} [DecidablePred p] (f : α → β) : ∀ l : List α, l.filterMap (fun j => if p j then some (f j) else none) = (l.filter fun j => decide (p j)).map f
  | [] => rfl
  | x :: l => by
    rw [List.filterMap_cons, List.filter_cons, fm_filter f l]
    by_cases q : p x <;> simp [q]
/-! a dict from naturals to naturals -/
def dN (ps : List (Nat × Nat)) : List (Key × D) := ps.map fun p => ((.inl (p.1 : Int) : Key), D.int p.2)
theorem kvK_dN (k : Nat) : ∀ ps : List (Nat × Nat), kvK (dN ps) (.inl (k : Int)) = (ps.lookup k).map fun v : Nat => D.int v
  | [] => rfl
  | p :: ps => by
    have ih := kvK_dN k ps
    unfold kvK dN at ih ⊢
    rw [List.map_cons, List.find?_cons]
    obtain ⟨a, b⟩ := p
    by_cases q : a = k
    · subst q
      simp [List.lookup]
    · have q2 : decide ((Sum.inl (a : Int) : Key) = .inl (k : Int)) = false := decide_eq_false fun z => q (by have := Sum.inl.inj z; omega)
      dsimp only
      rw [q2]
      dsimp only
      rw [ih]
      have q3 : (k == a) = false := beq_eq_false_iff_ne.mpr fun z => q z.symm
      simp [List.lookup, q3]
theorem putKD_dN {ps : List (Nat × Nat)} {k v : Nat} (hk : k ∉ ps.map (·.1)) : putKD (dN ps) (.inl (k : Int)) (.int v) = dN (ps ++ [(k, v)]) := by
  have e : ((dN ps).any fun kv => decide (kv.1 = .inl (k : Int))) = false := by
    rw [List.any_eq_false]
    intro kv hkv
    obtain ⟨x, hx, rfl⟩ := List.mem_map.mp hkv
    simp only [decide_eq_true_eq]
    intro z
    have z2 := Sum.inl.inj z
    have : x.1 = k := by omega
    exact hk (this ▸ List.mem_map.mpr ⟨x, hx, rfl⟩)
  unfold putKD
  rw [e]
  simp [dN]
theorem fPuy_dN {ps : List (Nat × Nat)} {k v n : Nat} {h : IH} (e : h[n]? = some (.dic (dN ps))) (hk : k ∉ ps.map (·.1)) (hz : ps.length < 16777216) : fPuy (.ref n) (.int (k : Nat)) (.int (v : Nat)) h = some (h.set n (.dic (dN (ps ++ [(k, v)])))) := by
  have z : (dN ps).length < sizeLine := by rw [sizeLine_eq]; simpa [dN] using hz
  simp only [fPuy, e, keyD]
  rw [if_pos z, putKD_dN hk]
theorem prsD_pN : ∀ ps : List (Nat × Nat), prsD (ps.map pN) = some (dN ps)
  | [] => rfl
  | p :: ps => by
    have ih := prsD_pN ps
    show (match keyD (.int p.1), prsD (ps.map pN) with
      | some z, some r => some ((z, D.int p.2) :: r)
      | _, _ => none) = _
    rw [ih]
    rfl
theorem merge_dN : ∀ (ps qs : List (Nat × Nat)), (∀ p ∈ ps, p.1 ∉ qs.map (·.1)) → (ps.map (·.1)).Nodup → mergeD (dN qs) (dN ps) = dN (qs ++ ps)
  | [], qs, _, _ => by simp [mergeD, dN]
  | (k, v) :: ps, qs, h, nd => by
    rw [List.map_cons, List.nodup_cons] at nd
    show mergeD (putKD (dN qs) (.inl (k : Int)) (.int v)) (dN ps) = _
    rw [putKD_dN (h _ (List.mem_cons_self ..)), merge_dN ps (qs ++ [(k, v)]) (fun p hp => ?_) nd.2]
    · simp
    · rw [List.map_append, List.mem_append]
      intro z
      rcases z with z | z
      · exact h p (List.mem_cons_of_mem _ hp) z
      · simp at z
        exact nd.1 (List.mem_map.mpr ⟨p, hp, z⟩)
theorem gDict_s {ps : List (Nat × Nat)} {h : IH} (nd : (ps.map (·.1)).Nodup) : gDict [.fls (ps.map pN)] h = .ok (.ref h.length) (h ++ [.dic (dN ps)]) := by
  have e := merge_dN ps [] (fun _ _ z => by cases z) nd
  rw [List.nil_append] at e
  unfold gDict
  dsimp only [lsV]
  rw [prsD_pN]
  show R.ok _ (h ++ [.dic (mergeD (dN []) (dN ps))]) = _
  rw [e]
end Fl
namespace K89
open PySem L2 Fl
def top (i : Nat) : Stmt := PySem.Challenge.pw_firstandlast_k89_whole_looks_loops.main.body.getD i (.Pass ⟨0, 0, 0, 0⟩)
abbrev NC : Nat := 7
/- classes: LastError: 0; DataError: 1; CallError: 2; TextError: 3; BadNetwork: 4; BadStep: 5; BadText: 6 -/
/-- c is k or a class below it -/
def upC (c k : Nat) : Bool := match c with
  | 0 => [0].contains k
  | 1 => [1, 0].contains k
  | 2 => [2, 0].contains k
  | 3 => [3, 0].contains k
  | 4 => [4, 1, 0].contains k
  | 5 => [5, 2, 0].contains k
  | 6 => [6, 3, 0].contains k
  | _ => false
structure Txt (K : PySem.W.Frag) (mg : Str → Option Value) (cl ini : Nat → Addr) (ifd : Nat → FuncData) (fa : Nat → Addr) (ffd : Nat → FuncData) : Prop where
  f0 : DefT K mg "is_whole" (top 10) ["thing"] (fa 0) (ffd 0)
  f1 : DefT K mg "is_number" (top 11) ["thing"] (fa 1) (ffd 1)
  f2 : DefT K mg "is_below" (top 12) ["thing", "most"] (fa 2) (ffd 2)
  f3 : DefT K mg "is_row" (top 13) ["thing", "many"] (fa 3) (ffd 3)
  f4 : DefT K mg "only_signs" (top 14) ["word", "signs"] (fa 4) (ffd 4)
  f5 : DefT K mg "written_number" (top 15) ["word"] (fa 5) (ffd 5)
  f6 : DefT K mg "lines_of" (top 16) ["text"] (fa 6) (ffd 6)
  f7 : DefT K mg "line_behind" (top 17) ["text"] (fa 7) (ffd 7)
  f8 : DefT K mg "spaced_words" (top 18) ["line"] (fa 8) (ffd 8)
  f9 : DefT K mg "numbered_words" (top 19) ["text"] (fa 9) (ffd 9)
  f10 : DefT K mg "time_by" (top 21) ["gate", "came"] (fa 10) (ffd 10)
  f11 : DefT K mg "comes" (top 22) ["network", "times"] (fa 11) (ffd 11)
  f12 : DefT K mg "coming" (top 23) ["network", "times"] (fa 12) (ffd 12)
  f13 : DefT K mg "users_of" (top 25) ["network", "number"] (fa 13) (ffd 13)
  f14 : DefT K mg "gates_below" (top 26) ["network", "gate"] (fa 14) (ffd 14)
  f15 : DefT K mg "needed_for" (top 27) ["network", "gates"] (fa 15) (ffd 15)
  f16 : DefT K mg "gates_in_loops" (top 28) ["network"] (fa 16) (ffd 16)
  f17 : DefT K mg "latest_time" (top 29) ["network", "times"] (fa 17) (ffd 17)
  f18 : DefT K mg "is_gate" (top 35) ["thing"] (fa 18) (ffd 18)
  f19 : DefT K mg "check_network" (top 36) ["thing"] (fa 19) (ffd 19)
  f20 : DefT K mg "is_network" (top 37) ["thing"] (fa 20) (ffd 20)
  f21 : DefT K mg "renumbered" (top 39) ["gates", "numbers"] (fa 21) (ffd 21)
  f22 : DefT K mg "beside_networks" (top 40) ["one", "other"] (fa 22) (ffd 22)
  f23 : DefT K mg "trimmed_network" (top 41) ["network", "gates"] (fa 23) (ffd 23)
  f24 : DefT K mg "network_text" (top 43) ["network"] (fa 24) (ffd 24)
  f25 : DefT K mg "numbers_of" (top 44) ["line", "words"] (fa 25) (ffd 25)
  f26 : DefT K mg "read_network" (top 45) ["text"] (fa 26) (ffd 26)
  f27 : DefT K mg "network_report" (top 47) ["network"] (fa 27) (ffd 27)
  f28 : DefT K mg "quiet_behind" (top 49) ["network", "times"] (fa 28) (ffd 28)
  f29 : DefT K mg "_law_jar" (top 51) ["script"] (fa 29) (ffd 29)
  f30 : DefT K mg "_law_sip" (top 52) ["jar", "place", "many"] (fa 30) (ffd 30)
  f31 : DefT K mg "_law_same" (top 53) ["told", "due"] (fa 31) (ffd 31)
  f32 : DefT K mg "_law_comes" (top 54) ["network", "times"] (fa 32) (ffd 32)
  f33 : DefT K mg "_law_gate" (top 55) ["jar", "many", "gates", "at", "form"] (fa 33) (ffd 33)
  f34 : DefT K mg "_law_network" (top 56) ["jar", "most"] (fa 34) (ffd 34)
  f35 : DefT K mg "_law_needed" (top 57) ["network", "starts"] (fa 35) (ffd 35)
  f36 : DefT K mg "_law_loops" (top 58) ["network"] (fa 36) (ffd 36)
  f37 : DefT K mg "_law_trimmed" (top 59) ["network", "needed"] (fa 37) (ffd 37)
  f38 : DefT K mg "_law_users" (top 60) ["network", "number"] (fa 38) (ffd 38)
  f39 : DefT K mg "_law_beside" (top 61) ["one", "other"] (fa 39) (ffd 39)
  f40 : DefT K mg "_law_times" (top 62) ["jar", "many"] (fa 40) (ffd 40)
  f41 : DefT K mg "_law_looks" (top 63) ["jar", "network"] (fa 41) (ffd 41)
  f42 : DefT K mg "_law_run" (top 64) ["jar", "network", "other"] (fa 42) (ffd 42)
  f43 : DefT K mg "_law_asked" (top 65) ["jar", "network", "other"] (fa 43) (ffd 43)
  f44 : DefT K mg "law" (top 66) ["script"] (fa 44) (ffd 44)
  m_LastError : mg "LastError" = some (.ref (cl 0))
  m_DataError : mg "DataError" = some (.ref (cl 1))
  m_CallError : mg "CallError" = some (.ref (cl 2))
  m_TextError : mg "TextError" = some (.ref (cl 3))
  m_BadNetwork : mg "BadNetwork" = some (.ref (cl 4))
  c_BadNetwork : ClsT K mg "BadNetwork" (cl 4) (ini 4)
  x_BadNetwork : Fun K "__init__" "BadNetwork.__init__" (inClass (top 5) 0) (ini 4) (ifd 4)
  xb_BadNetwork : Binds K (ifd 4) ["self", "at", "word"] []
  m_BadStep : mg "BadStep" = some (.ref (cl 5))
  c_BadStep : ClsT K mg "BadStep" (cl 5) (ini 5)
  x_BadStep : Fun K "__init__" "BadStep.__init__" (inClass (top 6) 0) (ini 5) (ifd 5)
  xb_BadStep : Binds K (ifd 5) ["self", "word"] []
  m_BadText : mg "BadText" = some (.ref (cl 6))
  c_BadText : ClsT K mg "BadText" (cl 6) (ini 6)
  x_BadText : Fun K "__init__" "BadText.__init__" (inClass (top 7) 0) (ini 6) (ifd 6)
  xb_BadText : Binds K (ifd 6) ["self", "line", "word"] []
  fam : FamT K cl NC upC
  no_at : ∀ c, c < NC → PySem.W.findIn K (.ref (cl c)) "at" = some none
  no_line : ∀ c, c < NC → PySem.W.findIn K (.ref (cl c)) "line" = some none
  no_word : ∀ c, c < NC → PySem.W.findIn K (.ref (cl c)) "word" = some none
  n_abs : mg "abs" = none
  n_bool : mg "bool" = none
  n_dict : mg "dict" = none
  n_int : mg "int" = none
  n_isinstance : mg "isinstance" = none
  n_len : mg "len" = none
  n_list : mg "list" = none
  n_max : mg "max" = none
  n_min : mg "min" = none
  n_range : mg "range" = none
  n_set : mg "set" = none
  n_sorted : mg "sorted" = none
  n_str : mg "str" = none
  n_tuple : mg "tuple" = none
  g_FIGURES : ∃ t, mg "FIGURES" = some (.str "0123456789" t)
  g_MOST_DELAY : ∃ t, mg "MOST_DELAY" = some (.int 2000 t)
  g_MOST_SIGNALS : ∃ t, mg "MOST_SIGNALS" = some (.int 6 t)
  g_MOST_GATES : ∃ t, mg "MOST_GATES" = some (.int 40 t)
  g_MOST_OPERANDS : ∃ t, mg "MOST_OPERANDS" = some (.int 60 t)
variable {P : Program} {w : World} {K : PySem.W.Frag} {mg : Str → Option Value} {base : Heap} {cl ini : Nat → Addr} {ifd ffd : Nat → FuncData} {fa : Nat → Addr}
theorem Txt.xat_at (T : Txt K mg cl ini ifd fa ffd) : ∀ c, c < NC → XfC K (cl c) ∧ PySem.W.findIn K (.ref (cl c)) "at" = some none := fun c hc => ⟨(T.fam.x c hc).x, T.no_at c hc⟩
theorem Txt.xat_line (T : Txt K mg cl ini ifd fa ffd) : ∀ c, c < NC → XfC K (cl c) ∧ PySem.W.findIn K (.ref (cl c)) "line" = some none := fun c hc => ⟨(T.fam.x c hc).x, T.no_line c hc⟩
theorem Txt.xat_word (T : Txt K mg cl ini ifd fa ffd) : ∀ c, c < NC → XfC K (cl c) ∧ PySem.W.findIn K (.ref (cl c)) "word" = some none := fun c hc => ⟨(T.fam.x c hc).x, T.no_word c hc⟩
theorem sx_BadNetwork : FnScope ["self", "at", "word"] ["self", "at", "word"] (defScope (inClass (top 5) 0)) := ⟨rfl, rfl, rfl, by decide +kernel, rfl, by decide +kernel, by decide +kernel⟩
theorem Txt.xo_BadNetwork (T : Txt K mg cl ini ifd fa ffd) : FnOk P w K mg base CX0 1 (ini 4) (ifd 4) ["self", "at", "word"] (spX (cl 4) ["at", "word"]) :=
  ok_x2 T.x_BadNetwork sx_BadNetwork T.c_BadNetwork.T.T (T.no_at 4 (by decide)) (T.no_word 4 (by decide)) fun cdv A outer z H E => by
    exact (pss_cons (ps_ost (pv 0) (pv 1)) (pss_one (ps_ost (pv 0) (pv 2))))
theorem sx_BadStep : FnScope ["self", "word"] ["self", "word"] (defScope (inClass (top 6) 0)) := ⟨rfl, rfl, rfl, by decide +kernel, rfl, by decide +kernel, by decide +kernel⟩
theorem Txt.xo_BadStep (T : Txt K mg cl ini ifd fa ffd) : FnOk P w K mg base CX0 1 (ini 5) (ifd 5) ["self", "word"] (spX (cl 5) ["word"]) :=
  ok_x1 T.x_BadStep sx_BadStep T.c_BadStep.T.T (T.no_word 5 (by decide)) fun cdv A outer z H E => by
    exact (pss_one (ps_ost (pv 0) (pv 1)))
theorem sx_BadText : FnScope ["self", "line", "word"] ["self", "line", "word"] (defScope (inClass (top 7) 0)) := ⟨rfl, rfl, rfl, by decide +kernel, rfl, by decide +kernel, by decide +kernel⟩
theorem Txt.xo_BadText (T : Txt K mg cl ini ifd fa ffd) : FnOk P w K mg base CX0 1 (ini 6) (ifd 6) ["self", "line", "word"] (spX (cl 6) ["line", "word"]) :=
  ok_x2 T.x_BadText sx_BadText T.c_BadText.T.T (T.no_line 6 (by decide)) (T.no_word 6 (by decide)) fun cdv A outer z H E => by
    exact (pss_cons (ps_ost (pv 0) (pv 1)) (pss_one (ps_ost (pv 0) (pv 2))))
theorem Txt.kb0 (T : Txt K mg cl ini ifd fa ffd) : KBn K (ifd 5) ["self", "word"] (1 + 1) [] (gP [0]) (gP [0]) :=
  kbx T.x_BadStep fun _ _ _ _ _ _ us ws l1 l2 => match us, l1, ws, l2 with | [_, _], _, [], _ => rfl
theorem Txt.kb1 (T : Txt K mg cl ini ifd fa ffd) : KBn K (ifd 4) ["self", "at", "word"] (2 + 1) [] (gP [0, 1]) (gP [0, 1]) :=
  kbx T.x_BadNetwork fun _ _ _ _ _ _ us ws l1 l2 => match us, l1, ws, l2 with | [_, _, _], _, [], _ => rfl
theorem Txt.kb2 (T : Txt K mg cl ini ifd fa ffd) : KBn K (ifd 6) ["self", "line", "word"] (2 + 1) [] (gP [0, 1]) (gP [0, 1]) :=
  kbx T.x_BadText fun _ _ _ _ _ _ us ws l1 l2 => match us, l1, ws, l2 with | [_, _, _], _, [], _ => rfl
theorem Txt.kf0 (T : Txt K mg cl ini ifd fa ffd) : KBn K (ffd 38) ["network", "number"] 0 ["number", "network"] (g0 [1, 0]) (g0 [1, 0]) :=
  Fl.kb0 T.f38.F fun _ _ _ _ _ _ ws l => match ws, l with | [_, _], _ => rfl
theorem Txt.kf1 (T : Txt K mg cl ini ifd fa ffd) : KBn K (ffd 23) ["network", "gates"] 0 ["gates", "network"] (g0 [1, 0]) (g0 [1, 0]) :=
  Fl.kb0 T.f23.F fun _ _ _ _ _ _ ws l => match ws, l with | [_, _], _ => rfl
noncomputable def Sis_whole : SS :=
  (sRt (eAn (eIsi .int (eV 0)) (eNot (eIsi .bool (eV 0)))))
noncomputable def Fis_whole : List D → IH → R D := fnG 1 1 Sis_whole
noncomputable def Sis_number : SS :=
  (sRt (eAn (eB Fis_whole (aCons (eV 0) aNil)) (eOp fGe (eV 0) (eC (.int 0)))))
noncomputable def Fis_number : List D → IH → R D := fnG 1 1 Sis_number
noncomputable def Sis_below : SS :=
  (sRt (eAn (eB Fis_number (aCons (eV 0) aNil)) (eOp fLt (eV 0) (eV 1))))
noncomputable def Fis_below : List D → IH → R D := fnG 2 2 Sis_below
noncomputable def Sis_row : SS :=
  (sRt (eAn (eIsi .tuple (eV 0)) (eOp (fEq false) (eB bLen (aCons (eV 0) aNil)) (eV 1))))
noncomputable def Fis_row : List D → IH → R D := fnG 2 2 Sis_row
noncomputable def Sonly_signs : SS :=
  (sSeq (sFor (.n 2) (iS (eV 0)) (sIf (tB (eOp (fIn true) (eV 2) (eV 1))) (sRt (eC (.bl false))) sNx))
  (sRt (eC (.bl true))))
noncomputable def Fonly_signs : List D → IH → R D := fnG 2 3 Sonly_signs
noncomputable def Swritten_number : SS :=
  (sSeq (sIf (tOr' (tNo (tB (eCh fLe fLe (eC (.int 1)) (eB bLen (aCons (eV 0) aNil)) (eC (.int 9))))) (tNo (tTr (eB Fonly_signs (aCons (eV 0) (aCons (eC (.str "0123456789")) aNil)))))) (sRt (eC .non)) sNx)
  (sSeq (sIf (tAn (tB (eOp fGt (eB bLen (aCons (eV 0) aNil)) (eC (.int 1)))) (tB (eOp (fEq false) (eOp fIy (eV 0) (eC (.int 0))) (eC (.str "0"))))) (sRt (eC .non)) sNx)
  (sRt (eB bInt (aCons (eV 0) aNil)))))
noncomputable def Fwritten_number : List D → IH → R D := fnG 1 1 Swritten_number
noncomputable def Slines_of : SS :=
  (sRt (eIf (tB (eOp (fEq false) (eV 0) (eC (.str "")))) (eFz (eLst aNil)) (eFz (eMt isStr mSplit (eV 0) (aCons (eC (.str "\n")) aNil)))))
noncomputable def Flines_of : List D → IH → R D := fnG 1 1 Slines_of
noncomputable def Sline_behind : SS :=
  (sRt (eOp gAdd (eB bLen (aCons (eB Flines_of (aCons (eV 0) aNil)) aNil)) (eC (.int 1))))
noncomputable def Fline_behind : List D → IH → R D := fnG 1 1 Sline_behind
noncomputable def Sspaced_words : SS :=
  (sRt (eFz (eLc [1] (.n 1) (iE (eFz (eMt isStr mSplit (eV 0) (aCons (eC (.str " ")) aNil)))) (tB (eOp (fEq true) (eV 1) (eC (.str "")))) (eV 1))))
noncomputable def Fspaced_words : List D → IH → R D := fnG 1 2 Sspaced_words
noncomputable def Snumbered_words : SS :=
  (sSeq (sAs (.n 1) (eB Flines_of (aCons (eV 0) aNil)))
  (sSeq (sAs (.n 2) (eLst aNil))
  (sSeq (sFor (.n 3) (iR1 (aCons (eB bLen (aCons (eV 1) aNil)) aNil)) (sSeq (sAs (.n 4) (eB Fspaced_words (aCons (eOp fIy (eV 1) (eV 3)) aNil)))
  (sIf (tB (eOp fGt (eB bLen (aCons (eV 4) aNil)) (eC (.int 0)))) (sEx (eMt isLst mAppend (eV 2) (aCons (eTup (aCons (eOp gAdd (eV 3) (eC (.int 1))) (aCons (eV 4) aNil))) aNil))) sNx)))
  (sRt (eV 2)))))
noncomputable def Fnumbered_words : List D → IH → R D := fnG 1 5 Snumbered_words
noncomputable def Stime_by : SS :=
  (sSeq (sAs (.t [2, 3, 4]) (eV 0))
  (sSeq (sAs (.n 5) (eFz (eLc [6] (.n 6) (iE (eV 3)) (tB (eOp (fIs true) (eOp fIy (eV 1) (eV 6)) (eC .non))) (eOp fIy (eV 1) (eV 6)))))
  (sSeq (sIf (tOr' (tB (eOp (fEq false) (eB bLen (aCons (eV 5) aNil)) (eC (.int 0)))) (tAn (tB (eOp (fEq false) (eV 2) (eC (.str "last")))) (tB (eOp fLt (eB bLen (aCons (eV 5) aNil)) (eB bLen (aCons (eV 3) aNil)))))) (sRt (eC .non)) sNx)
  (sRt (eOp gAdd (eV 4) (eIf (tB (eOp (fEq false) (eV 2) (eC (.str "first")))) (eB gMin (aCons (eV 5) aNil)) (eB gMax (aCons (eV 5) aNil))))))))
noncomputable def Ftime_by : List D → IH → R D := fnG 2 7 Stime_by
noncomputable def Scomes : SS :=
  (sSeq (sAs (.t [2, 3]) (eV 0))
  (sSeq (sAs (.n 4) (eOp gAdd (eFz (eB bList (aCons (eV 1) aNil))) (eFz (eOp fMul (eLst (aCons (eC .non) aNil)) (eB bLen (aCons (eV 3) aNil))))))
  (sSeq (sAs (.n 5) (eLr (eB bLen (aCons (eV 3) aNil))))
  (sSeq (sWh (tB (eOp fGt (eB bLen (aCons (eV 5) aNil)) (eC (.int 0)))) (sSeq (sAs (.n 6) (eFz (eLc [7] (.n 7) (iE (eV 5)) tYe (eTup (aCons (eB Ftime_by (aCons (eOp fIy (eV 3) (eV 7)) (aCons (eV 4) aNil))) (aCons (eV 7) aNil))))))
  (sSeq (sAs (.n 8) (eFz (eLc [9] (.n 9) (iE (eV 6)) (tB (eOp (fIs true) (eOp fIy (eV 9) (eC (.int 0))) (eC .non))) (eV 9))))
  (sSeq (sIf (tB (eOp (fEq false) (eB bLen (aCons (eV 8) aNil)) (eC (.int 0)))) sBk sNx)
  (sSeq (sAs (.t [10, 7]) (eB gMin (aCons (eV 8) aNil)))
  (sSeq (sPuy (eV 4) (eOp gAdd (eV 2) (eV 7)) (eV 10))
  (sEx (eMt isLst mRemove (eV 5) (aCons (eV 7) aNil)))))))))
  (sRt (eB bTup (aCons (eFz (eSl (eV 4) (oE (eV 2)) oN)) aNil)))))))
noncomputable def Fcomes : List D → IH → R D := fnG 2 11 Scomes
noncomputable def Scoming : SS :=
  (sSeq (sAs (.n 2) (eB Fcomes (aCons (eV 0) (aCons (eV 1) aNil))))
  (sRt (eB bTup (aCons (eFz (eB gSorted (aCons (eFz (eLc [3] (.n 3) (iR1 (aCons (eB bLen (aCons (eV 2) aNil)) aNil)) (tB (eOp (fIs true) (eOp fIy (eV 2) (eV 3)) (eC .non))) (eTup (aCons (eOp fIy (eV 2) (eV 3)) (aCons (eV 3) aNil))))) aNil))) aNil))))
noncomputable def Fcoming : List D → IH → R D := fnG 2 4 Scoming
noncomputable def Susers_of : SS :=
  (sSeq (sAs (.t [2, 3]) (eV 0))
  (sSeq (sIf (tNo (tTr (eB Fis_below (aCons (eV 1) (aCons (eOp gAdd (eV 2) (eB bLen (aCons (eV 3) aNil))) aNil))))) (sRs 5 ["word"] (aCons (eC (.str "number")) aNil)) sNx)
  (sRt (eB bTup (aCons (eFz (eLc [4] (.n 4) (iR1 (aCons (eB bLen (aCons (eV 3) aNil)) aNil)) (tB (eOp (fIn false) (eV 1) (eOp fIy (eOp fIy (eV 3) (eV 4)) (eC (.int 1))))) (eV 4))) aNil)))))
noncomputable def Fusers_of : List D → IH → R D := fnG 2 5 Susers_of
noncomputable def Sgates_below : SS :=
  (sSeq (sAs (.t [2, 3]) (eV 0))
  (sRt (eFz (eLc [4] (.n 4) (iE (eOp fIy (eOp fIy (eV 3) (eV 1)) (eC (.int 1)))) (tB (eOp fGe (eV 4) (eV 2))) (eOp fSub (eV 4) (eV 2))))))
noncomputable def Fgates_below : List D → IH → R D := fnG 2 5 Sgates_below
noncomputable def Sneeded_for : SS :=
  (sSeq (sAs (.n 2) eDic0)
  (sSeq (sAs (.n 3) (eB bList (aCons (eV 1) aNil)))
  (sSeq (sWh (tB (eOp fGt (eB bLen (aCons (eV 3) aNil)) (eC (.int 0)))) (sSeq (sAs (.n 4) (eMt isLst mPop (eV 3) aNil))
  (sIf (tB (eOp (fIn true) (eV 4) (eV 2))) (sSeq (sPuy (eV 2) (eV 4) (eC (.bl true)))
  (sEx (eMt isLst gExt (eV 3) (aCons (eB Fgates_below (aCons (eV 0) (aCons (eV 4) aNil))) aNil)))) sNx)))
  (sRt (eB bTup (aCons (eFz (eB gSorted (aCons (eV 2) aNil))) aNil))))))
noncomputable def Fneeded_for : List D → IH → R D := fnG 2 5 Sneeded_for
noncomputable def Sgates_in_loops : SS :=
  (sSeq (sAs (.n 1) (eLst aNil))
  (sSeq (sFor (.n 2) (iR1 (aCons (eB bLen (aCons (eOp fIy (eV 0) (eC (.int 1))) aNil)) aNil)) (sIf (tB (eOp (fIn false) (eV 2) (eB Fneeded_for (aCons (eV 0) (aCons (eB Fgates_below (aCons (eV 0) (aCons (eV 2) aNil))) aNil))))) (sEx (eMt isLst mAppend (eV 1) (aCons (eV 2) aNil))) sNx))
  (sRt (eB bTup (aCons (eV 1) aNil)))))
noncomputable def Fgates_in_loops : List D → IH → R D := fnG 1 3 Sgates_in_loops
noncomputable def Slatest_time : SS :=
  (sSeq (sAs (.n 2) (eFz (eLc [3] (.n 3) (iE (eB Fcomes (aCons (eV 0) (aCons (eV 1) aNil)))) (tB (eOp (fIs true) (eV 3) (eC .non))) (eV 3))))
  (sRt (eIf (tB (eOp fGt (eB bLen (aCons (eV 2) aNil)) (eC (.int 0)))) (eB gMax (aCons (eV 2) aNil)) (eC .non))))
noncomputable def Flatest_time : List D → IH → R D := fnG 2 4 Slatest_time
noncomputable def Sis_gate : SS :=
  (sSeq (sIf (tOr' (tNo (tTr (eB Fis_row (aCons (eV 0) (aCons (eC (.int 3)) aNil))))) (tOr' (tNo (tTr (eIsi .str (eOp fIy (eV 0) (eC (.int 0)))))) (tB (eOp (fIn true) (eOp fIy (eV 0) (eC (.int 0))) (eTup (aCons (eC (.str "first")) (aCons (eC (.str "last")) aNil))))))) (sRt (eC (.bl false))) sNx)
  (sSeq (sIf (tOr' (tNo (tTr (eIsi .tuple (eOp fIy (eV 0) (eC (.int 1)))))) (tNo (tB (eCh fLe fLe (eC (.int 1)) (eB bLen (aCons (eOp fIy (eV 0) (eC (.int 1))) aNil)) (eC (.int 60)))))) (sRt (eC (.bl false))) sNx)
  (sRt (eB Fis_below (aCons (eOp fIy (eV 0) (eC (.int 2))) (aCons (eOp gAdd (eC (.int 2000)) (eC (.int 1))) aNil))))))
noncomputable def Fis_gate : List D → IH → R D := fnG 1 1 Sis_gate
noncomputable def Scheck_network : SS :=
  (sSeq (sIf (tOr' (tNo (tTr (eB Fis_row (aCons (eV 0) (aCons (eC (.int 2)) aNil))))) (tNo (tTr (eIsi .tuple (eOp fIy (eV 0) (eC (.int 1))))))) (sRs 4 ["at", "word"] (aCons (eNeg (eC (.int 1))) (aCons (eC (.str "shape")) aNil))) sNx)
  (sSeq (sAs (.t [1, 2]) (eV 0))
  (sSeq (sIf (tOr' (tNo (tTr (eB Fis_number (aCons (eV 1) aNil)))) (tNo (tB (eCh fLe fLe (eC (.int 1)) (eV 1) (eC (.int 6)))))) (sRs 4 ["at", "word"] (aCons (eNeg (eC (.int 1))) (aCons (eC (.str "signals")) aNil))) sNx)
  (sSeq (sIf (tB (eOp fGt (eB bLen (aCons (eV 2) aNil)) (eC (.int 40)))) (sRs 4 ["at", "word"] (aCons (eNeg (eC (.int 1))) (aCons (eC (.str "many")) aNil))) sNx)
  (sSeq (sFor (.n 3) (iR1 (aCons (eB bLen (aCons (eV 2) aNil)) aNil)) (sSeq (sIf (tNo (tTr (eB Fis_gate (aCons (eOp fIy (eV 2) (eV 3)) aNil)))) (sRs 4 ["at", "word"] (aCons (eV 3) (aCons (eC (.str "gate")) aNil))) sNx)
  (sIf (tB (eOp fGt (eB bLen (aCons (eFz (eLc [4] (.n 4) (iE (eOp fIy (eOp fIy (eV 2) (eV 3)) (eC (.int 1)))) (tNo (tTr (eB Fis_below (aCons (eV 4) (aCons (eOp gAdd (eV 1) (eB bLen (aCons (eV 2) aNil))) aNil))))) (eV 4))) aNil)) (eC (.int 0)))) (sRs 4 ["at", "word"] (aCons (eV 3) (aCons (eC (.str "operand")) aNil))) sNx)))
  (sRt (eB bLen (aCons (eV 2) aNil))))))))
noncomputable def Fcheck_network : List D → IH → R D := fnG 1 5 Scheck_network
noncomputable def Sis_network : SS :=
  (sSeq (sTry (subN NC upC) (sEx (eB Fcheck_network (aCons (eV 0) aNil))) [(4, none, (sRt (eC (.bl false))))])
  (sRt (eC (.bl true))))
noncomputable def Fis_network : List D → IH → R D := fnG 1 1 Sis_network
noncomputable def Srenumbered : SS :=
  (sRt (eB bTup (aCons (eFz (eLc [3, 4, 5] (.t [3, 4, 5]) (iE (eV 0)) tYe (eTup (aCons (eV 3) (aCons (eB bTup (aCons (eFz (eLc [2] (.n 2) (iE (eV 4)) tYe (eOp fIy (eV 1) (eV 2)))) aNil)) (aCons (eV 5) aNil)))))) aNil)))
noncomputable def Frenumbered : List D → IH → R D := fnG 2 6 Srenumbered
noncomputable def Sbeside_networks : SS :=
  (sSeq (sIf (tB (eOp (fEq true) (eOp fIy (eV 0) (eC (.int 0))) (eOp fIy (eV 1) (eC (.int 0))))) (sRs 5 ["word"] (aCons (eC (.str "number")) aNil)) sNx)
  (sSeq (sIf (tB (eOp fGt (eOp gAdd (eB bLen (aCons (eOp fIy (eV 0) (eC (.int 1))) aNil)) (eB bLen (aCons (eOp fIy (eV 1) (eC (.int 1))) aNil))) (eC (.int 40)))) (sRs 5 ["word"] (aCons (eC (.str "wide")) aNil)) sNx)
  (sSeq (sAs (.n 2) (eOp fIy (eV 0) (eC (.int 0))))
  (sSeq (sAs (.n 3) (eFz (eOp gAdd (eFz (eLr (eV 2))) (eFz (eLc [4] (.n 4) (iR1 (aCons (eB bLen (aCons (eOp fIy (eV 1) (eC (.int 1))) aNil)) aNil)) tYe (eOp gAdd (eOp gAdd (eV 2) (eB bLen (aCons (eOp fIy (eV 0) (eC (.int 1))) aNil))) (eV 4)))))))
  (sRt (eTup (aCons (eV 2) (aCons (eOp gAdd (eOp fIy (eV 0) (eC (.int 1))) (eB Frenumbered (aCons (eOp fIy (eV 1) (eC (.int 1))) (aCons (eV 3) aNil)))) aNil))))))))
noncomputable def Fbeside_networks : List D → IH → R D := fnG 2 5 Sbeside_networks
noncomputable def Strimmed_network : SS :=
  (sSeq (sAs (.t [2, 3]) (eV 0))
  (sSeq (sAs (.n 4) (eB Fneeded_for (aCons (eV 0) (aCons (eV 1) aNil))))
  (sSeq (sAs (.n 5) (eB gDict (aCons (eFz (eLc [6] (.n 6) (iR1 (aCons (eV 2) aNil)) tYe (eTup (aCons (eV 6) (aCons (eV 6) aNil))))) aNil)))
  (sSeq (sFor (.n 7) (iR1 (aCons (eB bLen (aCons (eV 4) aNil)) aNil)) (sPuy (eV 5) (eOp gAdd (eV 2) (eOp fIy (eV 4) (eV 7))) (eOp gAdd (eV 2) (eV 7))))
  (sRt (eTup (aCons (eV 2) (aCons (eB Frenumbered (aCons (eFz (eLc [8] (.n 8) (iE (eV 4)) tYe (eOp fIy (eV 3) (eV 8)))) (aCons (eV 5) aNil))) aNil))))))))
noncomputable def Ftrimmed_network : List D → IH → R D := fnG 2 9 Strimmed_network
noncomputable def Snetwork_text : SS :=
  (sSeq (sAs (.t [1, 2]) (eV 0))
  (sSeq (sAs (.n 3) (eLst (aCons (eOp gAdd (eC (.str "signals ")) (eB bStr (aCons (eV 1) aNil))) aNil)))
  (sSeq (sFor (.t [4, 5, 6]) (iE (eV 2)) (sEx (eMt isLst mAppend (eV 3) (aCons (eMt isStr gJoin (eC (.str " ")) (aCons (eFz (eOp gAdd (eFz (eLst (aCons (eV 4) (aCons (eB bStr (aCons (eV 6) aNil)) aNil)))) (eFz (eLc [7] (.n 7) (iE (eV 5)) tYe (eB bStr (aCons (eV 7) aNil)))))) aNil)) aNil))))
  (sRt (eMt isStr gJoin (eC (.str "\n")) (aCons (eV 3) aNil))))))
noncomputable def Fnetwork_text : List D → IH → R D := fnG 1 8 Snetwork_text
noncomputable def Snumbers_of : SS :=
  (sSeq (sAs (.n 2) (eLst aNil))
  (sSeq (sFor (.n 3) (iE (eV 1)) (sSeq (sIf (tB (eOp (fIs false) (eB Fwritten_number (aCons (eV 3) aNil)) (eC .non))) (sRs 6 ["line", "word"] (aCons (eV 0) (aCons (eC (.str "number")) aNil))) sNx)
  (sEx (eMt isLst mAppend (eV 2) (aCons (eB Fwritten_number (aCons (eV 3) aNil)) aNil)))))
  (sRt (eB bTup (aCons (eV 2) aNil)))))
noncomputable def Fnumbers_of : List D → IH → R D := fnG 2 4 Snumbers_of
noncomputable def Sread_network : SS :=
  (sSeq (sAs (.n 1) (eC .non))
  (sSeq (sAs (.n 2) (eLst aNil))
  (sSeq (sFor (.t [3, 4]) (iE (eB Fnumbered_words (aCons (eV 0) aNil))) (sSeq (sIf (tB (eOp (fIn true) (eOp fIy (eV 4) (eC (.int 0))) (eIf (tB (eOp (fIs false) (eV 1) (eC .non))) (eTup (aCons (eC (.str "signals")) aNil)) (eTup (aCons (eC (.str "first")) (aCons (eC (.str "last")) aNil)))))) (sRs 6 ["line", "word"] (aCons (eV 3) (aCons (eC (.str "word")) aNil))) sNx)
  (sSeq (sIf (tIfx (tB (eOp (fIs false) (eV 1) (eC .non))) (tB (eOp (fEq true) (eB bLen (aCons (eV 4) aNil)) (eC (.int 2)))) (tB (eOp fLt (eB bLen (aCons (eV 4) aNil)) (eC (.int 3))))) (sRs 6 ["line", "word"] (aCons (eV 3) (aCons (eC (.str "many")) aNil))) sNx)
  (sSeq (sAs (.n 5) (eB Fnumbers_of (aCons (eV 3) (aCons (eFz (eSl (eV 4) (oE (eC (.int 1))) oN)) aNil))))
  (sIf (tB (eOp (fIs false) (eV 1) (eC .non))) (sAs (.n 1) (eOp fIy (eV 5) (eC (.int 0)))) (sEx (eMt isLst mAppend (eV 2) (aCons (eTup (aCons (eOp fIy (eV 4) (eC (.int 0))) (aCons (eFz (eSl (eV 5) (oE (eC (.int 1))) oN)) (aCons (eOp fIy (eV 5) (eC (.int 0))) aNil)))) aNil))))))))
  (sSeq (sAs (.n 6) (eTup (aCons (eV 1) (aCons (eB bTup (aCons (eV 2) aNil)) aNil))))
  (sSeq (sIf (tNo (tTr (eB Fis_network (aCons (eV 6) aNil)))) (sRs 6 ["line", "word"] (aCons (eB Fline_behind (aCons (eV 0) aNil)) (aCons (eC (.str "network")) aNil))) sNx)
  (sRt (eV 6)))))))
noncomputable def Fread_network : List D → IH → R D := fnG 1 7 Sread_network
noncomputable def Snetwork_report : SS :=
  (sSeq (sAs (.n 1) (eOp gAdd (eOp gAdd (eOp gAdd (eC (.str "signals ")) (eB bStr (aCons (eOp fIy (eV 0) (eC (.int 0))) aNil))) (eC (.str " gates "))) (eB bStr (aCons (eB bLen (aCons (eOp fIy (eV 0) (eC (.int 1))) aNil)) aNil))))
  (sRt (eOp gAdd (eOp gAdd (eV 1) (eC (.str " loops "))) (eB bStr (aCons (eB bLen (aCons (eB Fgates_in_loops (aCons (eV 0) aNil)) aNil)) aNil)))))
noncomputable def Fnetwork_report : List D → IH → R D := fnG 1 2 Snetwork_report
noncomputable def Squiet_behind : SS :=
  (sSeq (sAs (.n 2) (eFz (eLc [3] (.n 3) (iE (eOp gAdd (eV 1) (eB Fcomes (aCons (eV 0) (aCons (eV 1) aNil))))) (tB (eOp (fIs true) (eV 3) (eC .non))) (eV 3))))
  (sRt (eIf (tB (eOp fGt (eB bLen (aCons (eV 2) aNil)) (eC (.int 0)))) (eOp gAdd (eB gMax (aCons (eV 2) aNil)) (eC (.int 1))) (eC (.int 0)))))
noncomputable def Fquiet_behind : List D → IH → R D := fnG 2 4 Squiet_behind
noncomputable def S_law_jar : SS :=
  (sSeq (sAs (.n 1) (eLst aNil))
  (sSeq (sAs (.n 2) (eC (.int 890027)))
  (sSeq (sFor (.n 3) (iE (eFz (eSl (eV 0) oN (oE (eC (.int 50)))))) (sSeq (sAs (.n 4) (eOp fMod (eB bAbs (aCons (eB bInt (aCons (eV 3) aNil)) aNil)) (eOp fShl (eC (.int 1)) (eC (.int 1800)))))
  (sSeq (sAs (.n 2) (eOp fMod (eB bInt (aCons (eOp gAdd (eOp gAdd (eOp fMul (eV 2) (eC (.int 62089))) (eOp fMul (eOp fMod (eB bInt (aCons (eV 4) aNil)) (eC (.int 998917))) (eC (.int 3)))) (eC (.int 43))) aNil)) (eC (.int 2147480183))))
  (sFor (.n 5) (iR1 (aCons (eC (.int 200)) aNil)) (sSeq (sIf (tB (eOp (fEq false) (eV 4) (eC (.int 0)))) sBk sNx)
  (sSeq (sEx (eMt isLst mAppend (eV 1) (aCons (eOp fMod (eB bInt (aCons (eV 4) aNil)) (eC (.int 1361))) aNil)))
  (sAs (.n 4) (eOp fDiv (eV 4) (eC (.int 1361))))))))))
  (sRt (eLst (aCons (eV 2) (aCons (eV 1) (aCons (eC (.int 0)) (aCons (eOp fMod (eB bInt (aCons (eOp fDiv (eV 2) (eC (.int 29))) aNil)) (eC (.int 9))) aNil)))))))))
noncomputable def F_law_jar : List D → IH → R D := fnG 1 6 S_law_jar
noncomputable def S_law_sip : SS :=
  (sSeq (sIf (tB (eOp fLt (eV 2) (eC (.int 2)))) (sRt (eC (.int 0))) sNx)
  (sSeq (sPuy (eV 0) (eC (.int 2)) (eOp gAdd (eOp fIy (eV 0) (eC (.int 2))) (eC (.int 1))))
  (sSeq (sPuy (eV 0) (eC (.int 0)) (eOp fMod (eB bInt (aCons (eOp gAdd (eOp gAdd (eOp fMul (eOp fIy (eV 0) (eC (.int 0))) (eC (.int 16807))) (eOp fMul (eOp fIy (eV 0) (eC (.int 2))) (eC (.int 60037)))) (eC (.int 31))) aNil)) (eC (.int 2147480183))))
  (sSeq (sAs (.n 3) (eB bInt (aCons (eOp fDiv (eOp fIy (eV 0) (eC (.int 0))) (eC (.int 17))) aNil)))
  (sSeq (sIf (tB (eOp fLe (eOp fIy (eV 0) (eC (.int 2))) (eB bLen (aCons (eOp fIy (eV 0) (eC (.int 1))) aNil)))) (sAs (.n 3) (eOp gAdd (eV 3) (eB bInt (aCons (eOp fIy (eOp fIy (eV 0) (eC (.int 1))) (eOp fSub (eOp fIy (eV 0) (eC (.int 2))) (eC (.int 1)))) aNil)))) (sIf (tAn (tB (eOp fLt (eOp fIy (eV 0) (eC (.int 3))) (eC (.int 3)))) (tB (eOp (fEq false) (eOp fMod (eB bInt (aCons (eOp gAdd (eV 1) (eOp fIy (eV 0) (eC (.int 3)))) aNil)) (eC (.int 4))) (eC (.int 0))))) (sAs (.n 3) (eOp fIy (eTup (aCons (eC (.int 0)) (aCons (eOp fSub (eV 2) (eC (.int 1))) (aCons (eV 1) aNil)))) (eOp fIy (eV 0) (eC (.int 3))))) sNx))
  (sRt (eOp fMod (eB bInt (aCons (eV 3) aNil)) (eV 2))))))))
noncomputable def F_law_sip : List D → IH → R D := fnG 3 4 S_law_sip
noncomputable def S_law_same : SS :=
  (sSeq (sAs (.n 2) (eLst (aCons (eTup (aCons (eV 0) (aCons (eV 1) aNil))) aNil)))
  (sSeq (sAs (.n 3) (eC (.int 0)))
  (sSeq (sWh (tB (eOp fLt (eV 3) (eB bLen (aCons (eV 2) aNil)))) (sSeq (sAs (.t [4, 5]) (eOp fIy (eV 2) (eV 3)))
  (sSeq (sAs (.n 3) (eOp gAdd (eV 3) (eC (.int 1))))
  (sIf (tTr (eIsi .tuple (eV 5))) (sSeq (sIf (tOr' (tNo (tTr (eIsi .tuple (eV 4)))) (tB (eOp (fEq true) (eB bLen (aCons (eV 4) aNil)) (eB bLen (aCons (eV 5) aNil))))) (sRt (eC (.bl false))) sNx)
  (sEx (eMt isLst gExt (eV 2) (aCons (eFz (eLc [6] (.n 6) (iR1 (aCons (eB bLen (aCons (eV 5) aNil)) aNil)) tYe (eTup (aCons (eOp fIy (eV 4) (eV 6)) (aCons (eOp fIy (eV 5) (eV 6)) aNil))))) aNil)))) (sIf (tB (eOp (fIs false) (eV 5) (eC .non))) (sIf (tB (eOp (fIs true) (eV 4) (eC .non))) (sRt (eC (.bl false))) sNx) (sIf (tTr (eIsi .bool (eV 5))) (sIf (tOr' (tNo (tTr (eIsi .bool (eV 4)))) (tB (eOp (fEq true) (eV 4) (eV 5)))) (sRt (eC (.bl false))) sNx) (sIf (tTr (eIsi .int (eV 5))) (sIf (tOr' (tNo (tTr (eIsi .int (eV 4)))) (tOr' (tTr (eIsi .bool (eV 4))) (tB (eOp (fEq true) (eV 4) (eV 5))))) (sRt (eC (.bl false))) sNx) (sIf (tOr' (tNo (tTr (eIsi .str (eV 4)))) (tB (eOp (fEq true) (eV 4) (eV 5)))) (sRt (eC (.bl false))) sNx))))))))
  (sRt (eC (.bl true))))))
noncomputable def F_law_same : List D → IH → R D := fnG 2 7 S_law_same
noncomputable def S_law_comes : SS :=
  (sSeq (sAs (.t [2, 3]) (eV 0))
  (sSeq (sAs (.n 4) eDic0)
  (sSeq (sFor (.n 5) (iR1 (aCons (eV 2) aNil)) (sIf (tB (eOp (fIs true) (eOp fIy (eV 1) (eV 5)) (eC .non))) (sPuy (eV 4) (eV 5) (eOp fIy (eV 1) (eV 5))) sNx))
  (sSeq (sFor (.n 6) (iR1 (aCons (eOp gAdd (eB bLen (aCons (eV 3) aNil)) (eC (.int 1))) aNil)) (sSeq (sAs (.n 7) (eC .non))
  (sSeq (sFor (.n 5) (iR1 (aCons (eB bLen (aCons (eV 3) aNil)) aNil)) (sSeq (sAs (.t [8, 9, 10]) (eOp fIy (eV 3) (eV 5)))
  (sSeq (sAs (.n 11) (eFz (eLc [12] (.n 12) (iE (eV 9)) (tB (eOp (fIn false) (eV 12) (eV 4))) (eOp fIy (eV 4) (eV 12)))))
  (sSeq (sIf (tOr' (tB (eOp (fIn false) (eOp gAdd (eV 2) (eV 5)) (eV 4))) (tOr' (tB (eOp (fEq false) (eB bLen (aCons (eV 11) aNil)) (eC (.int 0)))) (tAn (tB (eOp (fEq false) (eV 8) (eC (.str "last")))) (tB (eOp fLt (eB bLen (aCons (eV 11) aNil)) (eB bLen (aCons (eV 9) aNil))))))) sCt sNx)
  (sSeq (sAs (.n 13) (eOp gAdd (eV 10) (eIf (tB (eOp (fEq false) (eV 8) (eC (.str "first")))) (eB gMin (aCons (eV 11) aNil)) (eB gMax (aCons (eV 11) aNil)))))
  (sIf (tOr' (tB (eOp (fIs false) (eV 7) (eC .non))) (tB (eOp fLt (eV 13) (eOp fIy (eV 7) (eC (.int 0)))))) (sAs (.n 7) (eTup (aCons (eV 13) (aCons (eOp gAdd (eV 2) (eV 5)) aNil)))) sNx))))))
  (sSeq (sIf (tB (eOp (fIs false) (eV 7) (eC .non))) sBk sNx)
  (sPuy (eV 4) (eOp fIy (eV 7) (eC (.int 1))) (eOp fIy (eV 7) (eC (.int 0))))))))
  (sRt (eB bTup (aCons (eFz (eLc [5] (.n 5) (iR1 (aCons (eB bLen (aCons (eV 3) aNil)) aNil)) tYe (eGet (eV 4) (eOp gAdd (eV 2) (eV 5))))) aNil)))))))
noncomputable def F_law_comes : List D → IH → R D := fnG 2 14 S_law_comes
noncomputable def S_law_gate : SS :=
  (sSeq (sPar 5 6 (aCons (eOp fIy (eTup (aCons (eC (.str "first")) (aCons (eC (.str "last")) aNil))) (eB F_law_sip (aCons (eV 0) (aCons (eC (.int 11)) (aCons (eC (.int 2)) aNil))))) (aCons (eOp fIy (eTup (aCons (eC (.int 0)) (aCons (eC (.int 1)) (aCons (eC (.int 2)) (aCons (eC (.int 3)) (aCons (eC (.int 99)) (aCons (eC (.int 2000)) aNil))))))) (eB F_law_sip (aCons (eV 0) (aCons (eC (.int 12)) (aCons (eC (.int 6)) aNil))))) aNil)))
  (sSeq (sIf (tB (eOp (fEq false) (eV 4) (eC (.int 0)))) (sSeq (sAs (.n 7) (eIf (tB (eOp fGt (eV 3) (eC (.int 0)))) (eOp fSub (eOp gAdd (eV 1) (eV 3)) (eC (.int 1))) (eOp fSub (eOp gAdd (eV 1) (eV 2)) (eC (.int 1)))))
  (sSeq (sAs (.n 8) (eIf (tB (eOp (fEq false) (eB F_law_sip (aCons (eV 0) (aCons (eC (.int 14)) (aCons (eC (.int 4)) aNil)))) (eC (.int 0)))) (eTup (aCons (eB F_law_sip (aCons (eV 0) (aCons (eC (.int 13)) (aCons (eV 1) aNil)))) aNil)) (eTup aNil)))
  (sRt (eTup (aCons (eV 5) (aCons (eOp gAdd (eTup (aCons (eV 7) aNil)) (eV 8)) (aCons (eV 6) aNil))))))) sNx)
  (sSeq (sIf (tB (eOp (fEq false) (eV 4) (eC (.int 1)))) (sRt (eTup (aCons (eV 5) (aCons (eTup (aCons (eIf (tB (eOp fGt (eV 3) (eC (.int 0)))) (eOp fSub (eOp gAdd (eV 1) (eV 3)) (eC (.int 1))) (eB F_law_sip (aCons (eV 0) (aCons (eC (.int 15)) (aCons (eV 1) aNil))))) aNil)) (aCons (eV 6) aNil))))) sNx)
  (sSeq (sAs (.n 9) (eIf (tB (eOp (fEq false) (eV 4) (eC (.int 2)))) (eOp gAdd (eV 1) (eV 3)) (eOp gAdd (eV 1) (eV 2))))
  (sSeq (sAs (.n 10) (eB bTup (aCons (eFz (eLc [11] (.n 11) (iR1 (aCons (eOp gAdd (eC (.int 1)) (eB F_law_sip (aCons (eV 0) (aCons (eC (.int 17)) (aCons (eC (.int 4)) aNil))))) aNil)) tYe (eB F_law_sip (aCons (eV 0) (aCons (eC (.int 16)) (aCons (eV 9) aNil)))))) aNil)))
  (sRt (eTup (aCons (eV 5) (aCons (eV 10) (aCons (eV 6) aNil))))))))))
noncomputable def F_law_gate : List D → IH → R D := fnG 5 12 S_law_gate
noncomputable def S_law_network : SS :=
  (sSeq (sPar 2 3 (aCons (eOp gAdd (eC (.int 1)) (eB F_law_sip (aCons (eV 0) (aCons (eC (.int 18)) (aCons (eC (.int 3)) aNil))))) (aCons (eOp gAdd (eC (.int 1)) (eB F_law_sip (aCons (eV 0) (aCons (eC (.int 19)) (aCons (eV 1) aNil))))) aNil)))
  (sSeq (sAs (.n 4) (eB F_law_sip (aCons (eV 0) (aCons (eC (.int 20)) (aCons (eC (.int 6)) aNil)))))
  (sSeq (sAs (.n 5) (eLst aNil))
  (sSeq (sFor (.n 6) (iR1 (aCons (eV 3) aNil)) (sEx (eMt isLst mAppend (eV 5) (aCons (eB F_law_gate (aCons (eV 0) (aCons (eV 2) (aCons (eV 3) (aCons (eV 6) (aCons (eIf (tB (eOp fGt (eB F_law_sip (aCons (eV 0) (aCons (eC (.int 21)) (aCons (eC (.int 5)) aNil)))) (eC (.int 0)))) (eV 4) (eC (.int 3))) aNil)))))) aNil))))
  (sRt (eTup (aCons (eV 2) (aCons (eB bTup (aCons (eV 5) aNil)) aNil))))))))
noncomputable def F_law_network : List D → IH → R D := fnG 2 7 S_law_network
noncomputable def S_law_needed : SS :=
  (sSeq (sAs (.t [2, 3]) (eV 0))
  (sSeq (sAs (.n 4) (eB bList (aCons (eV 1) aNil)))
  (sSeq (sAs (.n 5) (eC (.int 0)))
  (sSeq (sWh (tB (eOp fLt (eV 5) (eB bLen (aCons (eV 4) aNil)))) (sSeq (sFor (.n 6) (iE (eOp fIy (eOp fIy (eV 3) (eOp fIy (eV 4) (eV 5))) (eC (.int 1)))) (sIf (tAn (tB (eOp fGe (eV 6) (eV 2))) (tB (eOp (fIn true) (eOp fSub (eV 6) (eV 2)) (eV 4)))) (sEx (eMt isLst mAppend (eV 4) (aCons (eOp fSub (eV 6) (eV 2)) aNil))) sNx))
  (sAs (.n 5) (eOp gAdd (eV 5) (eC (.int 1))))))
  (sRt (eB bTup (aCons (eFz (eB gSorted (aCons (eV 4) aNil))) aNil)))))))
noncomputable def F_law_needed : List D → IH → R D := fnG 2 7 S_law_needed
noncomputable def S_law_loops : SS :=
  (sSeq (sAs (.t [1, 2]) (eV 0))
  (sSeq (sAs (.n 3) (eLst aNil))
  (sSeq (sFor (.n 4) (iR1 (aCons (eB bLen (aCons (eV 2) aNil)) aNil)) (sSeq (sAs (.n 5) (eLst aNil))
  (sSeq (sFor (.n 6) (iE (eOp fIy (eOp fIy (eV 2) (eV 4)) (eC (.int 1)))) (sIf (tAn (tB (eOp fGe (eV 6) (eV 1))) (tB (eOp (fIn true) (eOp fSub (eV 6) (eV 1)) (eV 5)))) (sEx (eMt isLst mAppend (eV 5) (aCons (eOp fSub (eV 6) (eV 1)) aNil))) sNx))
  (sIf (tB (eOp (fIn false) (eV 4) (eB F_law_needed (aCons (eV 0) (aCons (eV 5) aNil))))) (sEx (eMt isLst mAppend (eV 3) (aCons (eV 4) aNil))) sNx))))
  (sRt (eB bTup (aCons (eV 3) aNil))))))
noncomputable def F_law_loops : List D → IH → R D := fnG 1 7 S_law_loops
noncomputable def S_law_trimmed : SS :=
  (sSeq (sAs (.t [2, 3]) (eV 0))
  (sSeq (sAs (.n 4) (eLst aNil))
  (sSeq (sFor (.n 5) (iE (eV 1)) (sSeq (sAs (.t [6, 7, 8]) (eOp fIy (eV 3) (eV 5)))
  (sEx (eMt isLst mAppend (eV 4) (aCons (eTup (aCons (eV 6) (aCons (eB bTup (aCons (eFz (eLc [9] (.n 9) (iE (eV 7)) tYe (eIf (tB (eOp fLt (eV 9) (eV 2))) (eV 9) (eOp gAdd (eV 2) (eMt isTup mTix (eV 1) (aCons (eOp fSub (eV 9) (eV 2)) aNil)))))) aNil)) (aCons (eV 8) aNil)))) aNil)))))
  (sRt (eTup (aCons (eV 2) (aCons (eB bTup (aCons (eV 4) aNil)) aNil)))))))
noncomputable def F_law_trimmed : List D → IH → R D := fnG 2 10 S_law_trimmed
noncomputable def S_law_users : SS :=
  (sTry (subN NC upC) (sRt (eTup (aCons (eC (.str "told")) (aCons (eB Fusers_of (aCons (eV 0) (aCons (eV 1) aNil))) aNil)))) [(5, some 2, (sRt (eTup (aCons (eC (.str "step")) (aCons (eXr NC "word" (eV 2)) aNil))))), (0, none, (sRt (eTup (aCons (eC (.str "other")) aNil))))])
noncomputable def F_law_users : List D → IH → R D := fnG 2 3 S_law_users
noncomputable def S_law_beside : SS :=
  (sTry (subN NC upC) (sRt (eTup (aCons (eC (.str "told")) (aCons (eB Fbeside_networks (aCons (eV 0) (aCons (eV 1) aNil))) aNil)))) [(5, some 2, (sRt (eTup (aCons (eC (.str "step")) (aCons (eXr NC "word" (eV 2)) aNil))))), (0, none, (sRt (eTup (aCons (eC (.str "other")) aNil))))])
noncomputable def F_law_beside : List D → IH → R D := fnG 2 3 S_law_beside
noncomputable def S_law_times : SS :=
  (sRt (eB bTup (aCons (eFz (eLc [2] (.n 2) (iR1 (aCons (eV 1) aNil)) tYe (eOp fIy (eTup (aCons (eC .non) (aCons (eC (.int 0)) (aCons (eC (.int 1)) (aCons (eC (.int 5)) (aCons (eC (.int 40)) (aCons (eC (.int 99999)) aNil))))))) (eB F_law_sip (aCons (eV 0) (aCons (eC (.int 22)) (aCons (eC (.int 6)) aNil))))))) aNil)))
noncomputable def F_law_times : List D → IH → R D := fnG 2 3 S_law_times
noncomputable def S_law_looks : SS :=
  (sSeq (sAs (.t [2, 3]) (eV 1))
  (sSeq (sFor (.n 4) (iR1 (aCons (eOp gAdd (eV 2) (eB bLen (aCons (eV 3) aNil))) aNil)) (sSeq (sAs (.n 5) (eB bTup (aCons (eFz (eLc [6] (.n 6) (iR1 (aCons (eB bLen (aCons (eV 3) aNil)) aNil)) (tB (eOp (fIn false) (eV 4) (eOp fIy (eOp fIy (eV 3) (eV 6)) (eC (.int 1))))) (eV 6))) aNil)))
  (sIf (tNo (tTr (eB F_law_same (aCons (eB F_law_users (aCons (eV 1) (aCons (eV 4) aNil))) (aCons (eTup (aCons (eC (.str "told")) (aCons (eV 5) aNil))) aNil))))) (sRt (eC (.bl false))) sNx)))
  (sSeq (sAs (.n 7) (eOp fIy (eTup (aCons (eOp gAdd (eV 2) (eB bLen (aCons (eV 3) aNil))) (aCons (eNeg (eC (.int 1))) (aCons (eC .non) (aCons (eC (.bl true)) (aCons (eC (.str "0")) (aCons (eOp fPow (eC (.int 10)) (eC (.int 30))) aNil))))))) (eB F_law_sip (aCons (eV 0) (aCons (eC (.int 23)) (aCons (eC (.int 6)) aNil))))))
  (sSeq (sIf (tNo (tTr (eB F_law_same (aCons (eB F_law_users (aPick 2 [1, 0] (aCons (eV 7) (aCons (eV 1) aNil)))) (aCons (eTup (aCons (eC (.str "step")) (aCons (eC (.str "number")) aNil))) aNil))))) (sRt (eC (.bl false))) sNx)
  (sSeq (sAs (.n 8) (eB F_law_loops (aCons (eV 1) aNil)))
  (sSeq (sAs (.n 9) (eOp gAdd (eOp gAdd (eOp gAdd (eOp gAdd (eOp gAdd (eC (.str "signals ")) (eB bStr (aCons (eV 2) aNil))) (eC (.str " gates "))) (eB bStr (aCons (eB bLen (aCons (eV 3) aNil)) aNil))) (eC (.str " loops "))) (eB bStr (aCons (eB bLen (aCons (eV 8) aNil)) aNil))))
  (sSeq (sIf (tNo (tTr (eB F_law_same (aCons (eTup (aCons (eB Fgates_in_loops (aCons (eV 1) aNil)) (aCons (eB Fnetwork_report (aCons (eV 1) aNil)) aNil))) (aCons (eTup (aCons (eV 8) (aCons (eV 9) aNil))) aNil))))) (sRt (eC (.bl false))) sNx)
  (sSeq (sAs (.n 10) (eB bTup (aCons (eFz (eLc [11] (.n 11) (iR1 (aCons (eOp gAdd (eC (.int 1)) (eB F_law_sip (aCons (eV 0) (aCons (eC (.int 25)) (aCons (eC (.int 3)) aNil))))) aNil)) tYe (eB F_law_sip (aCons (eV 0) (aCons (eC (.int 24)) (aCons (eB bLen (aCons (eV 3) aNil)) aNil)))))) aNil)))
  (sSeq (sAs (.n 12) (eB F_law_needed (aCons (eV 1) (aCons (eFz (eSS (eV 10))) aNil))))
  (sSeq (sAs (.n 13) (eB F_law_trimmed (aCons (eV 1) (aCons (eV 12) aNil))))
  (sSeq (sIf (tNo (tTr (eB F_law_same (aCons (eTup (aCons (eB Fneeded_for (aCons (eV 1) (aCons (eV 10) aNil))) (aCons (eB Fneeded_for (aCons (eV 1) (aCons (eTup aNil) aNil))) (aCons (eB Ftrimmed_network (aPick 2 [1, 0] (aCons (eV 10) (aCons (eV 1) aNil)))) aNil)))) (aCons (eTup (aCons (eV 12) (aCons (eTup aNil) (aCons (eV 13) aNil)))) aNil))))) (sRt (eC (.bl false))) sNx)
  (sRt (eB F_law_same (aCons (eTup (aCons (eB Fgates_in_loops (aCons (eV 13) aNil)) (aCons (eB Fcheck_network (aCons (eV 13) aNil)) aNil))) (aCons (eTup (aCons (eB bTup (aCons (eFz (eLc [6] (.n 6) (iE (eV 8)) (tB (eOp (fIn false) (eV 6) (eV 12))) (eMt isTup mTix (eV 12) (aCons (eV 6) aNil)))) aNil)) (aCons (eB bLen (aCons (eV 12) aNil)) aNil))) aNil)))))))))))))))
noncomputable def F_law_looks : List D → IH → R D := fnG 2 14 S_law_looks
noncomputable def S_law_run : SS :=
  (sSeq (sAs (.t [3, 4]) (eV 1))
  (sSeq (sAs (.n 5) (eB F_law_times (aCons (eV 0) (aCons (eV 3) aNil))))
  (sSeq (sAs (.n 6) (eB F_law_comes (aCons (eV 1) (aCons (eV 5) aNil))))
  (sSeq (sAs (.n 7) (eFz (eB gSorted (aCons (eFz (eLc [8] (.n 8) (iR1 (aCons (eB bLen (aCons (eV 4) aNil)) aNil)) (tB (eOp (fIs true) (eOp fIy (eV 6) (eV 8)) (eC .non))) (eTup (aCons (eOp fIy (eV 6) (eV 8)) (aCons (eV 8) aNil))))) aNil))))
  (sSeq (sAs (.n 9) (eIf (tB (eOp fGt (eB bLen (aCons (eV 7) aNil)) (eC (.int 0)))) (eOp fIy (eOp fIy (eV 7) (eNeg (eC (.int 1)))) (eC (.int 0))) (eC .non)))
  (sSeq (sAs (.n 10) (eB gMax (aCons (eFz (eOp gAdd (eFz (eLst (aCons (eC (.int 0)) aNil))) (eFz (eLc [11] (.n 11) (iE (eOp gAdd (eV 6) (eV 5))) (tB (eOp (fIs true) (eV 11) (eC .non))) (eOp gAdd (eV 11) (eC (.int 1))))))) aNil)))
  (sSeq (sIf (tNo (tTr (eB F_law_same (aCons (eTup (aCons (eB Fcomes (aCons (eV 1) (aCons (eV 5) aNil))) (aCons (eB Fcoming (aCons (eV 1) (aCons (eV 5) aNil))) (aCons (eB Flatest_time (aCons (eV 1) (aCons (eV 5) aNil))) (aCons (eB Fquiet_behind (aCons (eV 1) (aCons (eV 5) aNil))) aNil))))) (aCons (eTup (aCons (eV 6) (aCons (eB bTup (aCons (eV 7) aNil)) (aCons (eV 9) (aCons (eV 10) aNil))))) aNil))))) (sRt (eC (.bl false))) sNx)
  (sSeq (sAs (.n 12) (eB F_law_sip (aCons (eV 0) (aCons (eC (.int 26)) (aCons (eB bLen (aCons (eV 4) aNil)) aNil)))))
  (sSeq (sAs (.n 13) (eB F_law_needed (aCons (eV 1) (aCons (eFz (eLst (aCons (eV 12) aNil))) aNil))))
  (sSeq (sIf (tNo (tTr (eB F_law_same (aCons (eB Fcomes (aCons (eB Ftrimmed_network (aCons (eV 1) (aCons (eTup (aCons (eV 12) aNil)) aNil))) (aCons (eV 5) aNil))) (aCons (eB bTup (aCons (eFz (eLc [8] (.n 8) (iE (eV 13)) tYe (eOp fIy (eV 6) (eV 8)))) aNil)) aNil))))) (sRt (eC (.bl false))) sNx)
  (sSeq (sAs (.n 14) (eTup (aCons (eV 3) (aCons (eOp gAdd (eV 4) (eB bTup (aCons (eFz (eLc [16, 17, 18] (.t [16, 17, 18]) (iE (eOp fIy (eV 2) (eC (.int 1)))) tYe (eTup (aCons (eV 16) (aCons (eB bTup (aCons (eFz (eLc [15] (.n 15) (iE (eV 17)) tYe (eIf (tB (eOp fLt (eV 15) (eV 3))) (eV 15) (eOp gAdd (eV 15) (eB bLen (aCons (eV 4) aNil)))))) aNil)) (aCons (eV 18) aNil)))))) aNil))) aNil))))
  (sSeq (sAs (.n 19) (eB F_law_beside (aCons (eV 1) (aCons (eV 2) aNil))))
  (sSeq (sIf (tB (eOp (fEq true) (eOp fIy (eV 2) (eC (.int 0))) (eV 3))) (sRt (eB F_law_same (aCons (eV 19) (aCons (eTup (aCons (eC (.str "step")) (aCons (eC (.str "number")) aNil))) aNil)))) sNx)
  (sSeq (sIf (tB (eOp fGt (eB bLen (aCons (eOp fIy (eV 14) (eC (.int 1))) aNil)) (eC (.int 40)))) (sRt (eB F_law_same (aCons (eV 19) (aCons (eTup (aCons (eC (.str "step")) (aCons (eC (.str "wide")) aNil))) aNil)))) sNx)
  (sSeq (sAs (.n 20) (eOp gAdd (eB F_law_loops (aCons (eV 1) aNil)) (eB bTup (aCons (eFz (eLc [8] (.n 8) (iE (eB F_law_loops (aCons (eV 2) aNil))) tYe (eOp gAdd (eB bLen (aCons (eV 4) aNil)) (eV 8)))) aNil))))
  (sRt (eB F_law_same (aCons (eTup (aCons (eV 19) (aCons (eB Fcomes (aCons (eV 14) (aCons (eV 5) aNil))) (aCons (eB Fgates_in_loops (aCons (eV 14) aNil)) aNil)))) (aCons (eTup (aCons (eTup (aCons (eC (.str "told")) (aCons (eV 14) aNil))) (aCons (eOp gAdd (eV 6) (eB F_law_comes (aCons (eV 2) (aCons (eV 5) aNil)))) (aCons (eV 20) aNil)))) aNil)))))))))))))))))))
noncomputable def F_law_run : List D → IH → R D := fnG 3 21 S_law_run
noncomputable def S_law_asked : SS :=
  (sSeq (sAs (.t [3, 4]) (eV 1))
  (sSeq (sAs (.n 5) (eFz (eOp gAdd (eFz (eLst (aCons (eOp gAdd (eC (.str "signals ")) (eB bStr (aCons (eV 3) aNil))) aNil))) (eFz (eLc [7, 8, 9] (.t [7, 8, 9]) (iE (eV 4)) tYe (eMt isStr gJoin (eC (.str " ")) (aCons (eFz (eOp gAdd (eFz (eLst (aCons (eV 7) (aCons (eB bStr (aCons (eV 9) aNil)) aNil)))) (eFz (eLc [6] (.n 6) (iE (eV 8)) tYe (eB bStr (aCons (eV 6) aNil)))))) aNil)))))))
  (sSeq (sAs (.n 10) (eMt isStr gJoin (eC (.str "\n")) (aCons (eV 5) aNil)))
  (sSeq (sIf (tNo (tTr (eB F_law_same (aCons (eTup (aCons (eB Fnetwork_text (aCons (eV 1) aNil)) (aCons (eB Fread_network (aCons (eOp gAdd (eOp gAdd (eOp fIy (eTup (aCons (eC (.str "")) (aCons (eC (.str " ")) aNil))) (eB F_law_sip (aCons (eV 0) (aCons (eC (.int 27)) (aCons (eC (.int 2)) aNil))))) (eV 10)) (eOp fMul (eC (.str "\n")) (eB F_law_sip (aCons (eV 0) (aCons (eC (.int 28)) (aCons (eC (.int 3)) aNil)))))) aNil)) aNil))) (aCons (eTup (aCons (eV 10) (aCons (eV 1) aNil))) aNil))))) (sRt (eC (.bl false))) sNx)
  (sSeq (sIf (tOr' (tNo (tTr (eB F_law_looks (aCons (eV 0) (aCons (eV 1) aNil))))) (tNo (tTr (eB F_law_run (aCons (eV 0) (aCons (eV 1) (aCons (eV 2) aNil))))))) (sRt (eC (.bl false))) sNx)
  (sSeq (sPar 11 12 (aCons (eB F_law_comes (aCons (eV 1) (aCons (eOp fMul (eTup (aCons (eC (.int 0)) aNil)) (eV 3)) aNil))) (aCons (eOp fMul (eTup (aCons (eC .non) aNil)) (eV 3)) aNil)))
  (sSeq (sAs (.n 13) (eFz (eLc [14] (.n 14) (iE (eV 11)) (tB (eOp (fIs true) (eV 14) (eC .non))) (eV 14))))
  (sRt (eB F_law_same (aCons (eTup (aCons (eB Flatest_time (aCons (eV 1) (aCons (eOp fMul (eTup (aCons (eC (.int 0)) aNil)) (eV 3)) aNil))) (aCons (eB Flatest_time (aCons (eV 1) (aCons (eV 12) aNil))) (aCons (eB Fquiet_behind (aCons (eV 1) (aCons (eV 12) aNil))) (aCons (eB Fcoming (aCons (eV 1) (aCons (eV 12) aNil))) aNil))))) (aCons (eTup (aCons (eIf (tB (eOp fGt (eB bLen (aCons (eV 13) aNil)) (eC (.int 0)))) (eB gMax (aCons (eV 13) aNil)) (eC .non)) (aCons (eC .non) (aCons (eC (.int 0)) (aCons (eTup aNil) aNil))))) aNil)))))))))))
noncomputable def F_law_asked : List D → IH → R D := fnG 3 15 S_law_asked
noncomputable def Slaw : SS :=
  (sSeq (sAs (.n 1) (eB F_law_jar (aCons (eV 0) aNil)))
  (sSeq (sAs (.n 2) (eFz (eLc [3] (.n 3) (iR1 (aCons (eC (.int 4)) aNil)) tYe (eB F_law_network (aCons (eV 1) (aCons (eC (.int 12)) aNil))))))
  (sSeq (sFor (.n 4) (iR1 (aCons (eC (.int 4)) aNil)) (sIf (tNo (tTr (eB F_law_asked (aCons (eV 1) (aCons (eOp fIy (eV 2) (eV 4)) (aCons (eOp fIy (eV 2) (eOp fSub (eV 4) (eC (.int 1)))) aNil)))))) (sRt (eC (.bl false))) sNx))
  (sSeq (sIf (tB (eOp (fEq false) (eB F_law_sip (aCons (eV 1) (aCons (eC (.int 29)) (aCons (eC (.int 7)) aNil)))) (eC (.int 5)))) (sSeq (sPar 5 6 (aCons (eB F_law_network (aCons (eV 1) (aCons (eC (.int 40)) aNil))) (aCons (eB F_law_network (aCons (eV 1) (aCons (eC (.int 40)) aNil))) aNil)))
  (sIf (tOr' (tNo (tTr (eB F_law_asked (aCons (eV 1) (aCons (eV 5) (aCons (eV 6) aNil)))))) (tNo (tTr (eB F_law_asked (aCons (eV 1) (aCons (eTup (aCons (eOp fIy (eV 5) (eC (.int 0))) (aCons (eOp gAdd (eOp fIy (eV 5) (eC (.int 1))) (eOp fMul (eTup (aCons (eTup (aCons (eC (.str "last")) (aCons (eTup (aCons (eOp fIy (eV 5) (eC (.int 0))) aNil)) (aCons (eC (.int 0)) aNil)))) aNil)) (eOp fSub (eC (.int 40)) (eB bLen (aCons (eOp fIy (eV 5) (eC (.int 1))) aNil))))) aNil))) (aCons (eV 5) aNil))))))) (sRt (eC (.bl false))) sNx)) sNx)
  (sSeq (sAs (.n 7) (eTup (aCons (eC (.int 1)) (aCons (eTup (aCons (eTup (aCons (eC (.str "last")) (aCons (eTup (aCons (eC (.int 2)) aNil)) (aCons (eC (.int 1)) aNil)))) (aCons (eTup (aCons (eC (.str "last")) (aCons (eTup (aCons (eC (.int 1)) aNil)) (aCons (eC (.int 1)) aNil)))) (aCons (eTup (aCons (eC (.str "first")) (aCons (eTup (aCons (eC (.int 0)) (aCons (eC (.int 1)) aNil))) (aCons (eC (.int 4)) aNil)))) (aCons (eTup (aCons (eC (.str "first")) (aCons (eTup (aCons (eC (.int 0)) (aCons (eC (.int 4)) aNil))) (aCons (eC (.int 3)) aNil)))) (aCons (eTup (aCons (eC (.str "last")) (aCons (eTup (aCons (eC (.int 0)) (aCons (eC (.int 3)) (aCons (eC (.int 3)) aNil)))) (aCons (eC (.int 0)) aNil)))) aNil)))))) aNil))))
  (sSeq (sIf (tNo (tTr (eB F_law_same (aCons (eTup (aCons (eB Fgates_in_loops (aCons (eV 7) aNil)) (aCons (eB Fneeded_for (aCons (eV 7) (aCons (eTup (aCons (eC (.int 4)) aNil)) aNil))) (aCons (eB Fusers_of (aCons (eV 7) (aCons (eC (.int 3)) aNil))) (aCons (eB Fcomes (aCons (eV 7) (aCons (eTup (aCons (eC (.int 5)) aNil)) aNil))) aNil))))) (aCons (eTup (aCons (eTup (aCons (eC (.int 0)) (aCons (eC (.int 1)) (aCons (eC (.int 3)) aNil)))) (aCons (eTup (aCons (eC (.int 0)) (aCons (eC (.int 1)) (aCons (eC (.int 2)) (aCons (eC (.int 4)) aNil))))) (aCons (eTup (aCons (eC (.int 4)) aNil)) (aCons (eTup (aCons (eC .non) (aCons (eC .non) (aCons (eC (.int 9)) (aCons (eC (.int 8)) (aCons (eC (.int 9)) aNil)))))) aNil))))) aNil))))) (sRt (eC (.bl false))) sNx)
  (sSeq (sAs (.n 8) (eTup (aCons (eB Flatest_time (aCons (eV 7) (aCons (eTup (aCons (eC (.int 5)) aNil)) aNil))) (aCons (eB Fquiet_behind (aCons (eV 7) (aCons (eTup (aCons (eC (.int 5)) aNil)) aNil))) (aCons (eB Fnetwork_report (aCons (eV 7) aNil)) (aCons (eB Fusers_of (aCons (eV 7) (aCons (eC (.int 4)) aNil))) (aCons (eB Fneeded_for (aCons (eV 7) (aCons (eTup (aCons (eC (.int 3)) (aCons (eC (.int 3)) aNil))) aNil))) (aCons (eB Fcoming (aCons (eV 7) (aCons (eTup (aCons (eC (.int 5)) aNil)) aNil))) aNil))))))))
  (sRt (eAn (eB F_law_same (aCons (eV 8) (aCons (eTup (aCons (eC (.int 9)) (aCons (eC (.int 10)) (aCons (eC (.str "signals 1 gates 5 loops 3")) (aCons (eTup (aCons (eC (.int 3)) aNil)) (aCons (eTup (aCons (eC (.int 3)) aNil)) (aCons (eTup (aCons (eTup (aCons (eC (.int 8)) (aCons (eC (.int 3)) aNil))) (aCons (eTup (aCons (eC (.int 9)) (aCons (eC (.int 2)) aNil))) (aCons (eTup (aCons (eC (.int 9)) (aCons (eC (.int 4)) aNil))) aNil)))) aNil))))))) aNil))) (eB F_law_asked (aCons (eV 1) (aCons (eV 7) (aCons (eTup (aCons (eC (.int 1)) (aCons (eOp fMul (eTup (aCons (eTup (aCons (eC (.str "first")) (aCons (eTup (aCons (eC (.int 0)) aNil)) (aCons (eC (.int 0)) aNil)))) aNil)) (eC (.int 36))) aNil))) aNil)))))))))))))
noncomputable def Flaw : List D → IH → R D := fnG 1 9 Slaw
end K89
namespace K89
open PySem L2 Fl
variable {P : Program} {w : World} {K : PySem.W.Frag} {mg : Str → Option Value} {base : Heap} {cl ini : Nat → Addr} {ifd ffd : Nat → FuncData} {fa : Nat → Addr}
theorem scis_whole : FnScope ["thing"] ["thing"] (defScope (top 10)) := ⟨rfl, rfl, rfl, by decide +kernel, rfl, by decide +kernel, by decide +kernel⟩
theorem okis_whole (T : Txt K mg cl ini ifd fa ffd) : FnOk P w K mg base (L2.CX P w) 1 (fa 0) (ffd 0) ["thing"] (spI K cl 1 Fis_whole) :=
  ok_gc (ok_fn T.f0.F scis_whole fun cdv A outer s H E hr => by
    exact (dss_one (ds_ret (de_and (de_isi .int rfl T.n_isinstance rfl T.n_int (by decide +kernel) (de_v 0)) (de_one (de_not (de_isi .bool rfl T.n_isinstance rfl T.n_bool (by decide +kernel) (de_v 0))))))))
theorem scis_number : FnScope ["thing"] ["thing"] (defScope (top 11)) := ⟨rfl, rfl, rfl, by decide +kernel, rfl, by decide +kernel, by decide +kernel⟩
theorem okis_number (T : Txt K mg cl ini ifd fa ffd) : FnOk P w K mg base (L2.CX P w) 2 (fa 1) (ffd 1) ["thing"] (spI K cl 1 Fis_number) :=
  ok_gc (ok_fn T.f1.F scis_number fun cdv A outer s H E hr => by
    exact (dss_one (ds_ret (de_and (de_call (okis_whole T) fnG_ar (hr.mono (by decide)) (takes_of rfl rfl rfl rfl) T.f0.m T.f0.k T.f0.b (da_cons (de_v 0) da_nil)) (de_one (de_cmp op_fGe (de_v 0) de_int rfl))))))
theorem scis_below : FnScope ["thing", "most"] ["thing", "most"] (defScope (top 12)) := ⟨rfl, rfl, rfl, by decide +kernel, rfl, by decide +kernel, by decide +kernel⟩
theorem okis_below (T : Txt K mg cl ini ifd fa ffd) : FnOk P w K mg base (L2.CX P w) 3 (fa 2) (ffd 2) ["thing", "most"] (spI K cl 2 Fis_below) :=
  ok_gc (ok_fn T.f2.F scis_below fun cdv A outer s H E hr => by
    exact (dss_one (ds_ret (de_and (de_call (okis_number T) fnG_ar (hr.mono (by decide)) (takes_of rfl rfl rfl rfl) T.f1.m T.f1.k T.f1.b (da_cons (de_v 0) da_nil)) (de_one (de_cmp op_fLt (de_v 0) (de_v 1) rfl))))))
theorem scis_row : FnScope ["thing", "many"] ["thing", "many"] (defScope (top 13)) := ⟨rfl, rfl, rfl, by decide +kernel, rfl, by decide +kernel, by decide +kernel⟩
theorem okis_row (T : Txt K mg cl ini ifd fa ffd) : FnOk P w K mg base (L2.CX P w) 1 (fa 3) (ffd 3) ["thing", "many"] (spI K cl 2 Fis_row) :=
  ok_gc (ok_fn T.f3.F scis_row fun cdv A outer s H E hr => by
    exact (dss_one (ds_ret (de_and (de_isi .tuple rfl T.n_isinstance rfl T.n_tuple (by decide +kernel) (de_v 0)) (de_one (de_cmp (op_fEq hr.units) (de_b b_len rfl T.n_len (by decide +kernel) (da_cons (de_v 0) da_nil)) (de_v 1) rfl))))))
theorem sconly_signs : FnScope ["word", "signs", "sign"] ["word", "signs"] (defScope (top 14)) := ⟨rfl, rfl, rfl, by decide +kernel, rfl, by decide +kernel, by decide +kernel⟩
theorem okonly_signs (T : Txt K mg cl ini ifd fa ffd) : FnOk P w K mg base (L2.CX P w) 1 (fa 4) (ffd 4) ["word", "signs"] (spI K cl 2 Fonly_signs) :=
  ok_gc (ok_fn T.f4.F sconly_signs fun cdv A outer s H E hr => by
    exact (dss_cons (ds_for (passes_of rfl) rfl (di_s (de_v 0)) (dg_n 2 sconly_signs.nd) (dss_one (ds_if (dt_cmp (op_fNotIn (hu_of hr)) (de_v 2) (de_v 1) rfl) (dss_one (ds_ret de_bl)) dss_nil)))
  (dss_one (ds_ret de_bl))))
theorem scwritten_number : FnScope ["word"] ["word"] (defScope (top 15)) := ⟨rfl, rfl, rfl, by decide +kernel, rfl, by decide +kernel, by decide +kernel⟩
theorem okwritten_number (T : Txt K mg cl ini ifd fa ffd) : FnOk P w K mg base (L2.CX P w) 2 (fa 5) (ffd 5) ["word"] (spI K cl 1 Fwritten_number) :=
  ok_gc (ok_fn T.f5.F scwritten_number fun cdv A outer s H E hr => by
    exact (dss_cons (ds_if (DW.t (dw_or (dt_not (dt_chain op_fLe op_fLe de_int (de_b b_len rfl T.n_len (by decide +kernel) (da_cons (de_v 0) da_nil)) de_int)) (dw_or1 (dt_not (dt_tr (de_call (okonly_signs T) fnG_ar (hr.mono (by decide)) (takes_of rfl rfl rfl rfl) T.f4.m T.f4.k T.f4.b (da_cons (de_v 0) (da_cons (let ⟨_, e⟩ := T.g_FIGURES; de_g (v := (.str "0123456789")) rfl e ⟨_, rfl⟩ (fun _ _ => rfl)) da_nil)))))))) (dss_one (ds_ret de_non)) dss_nil)
  (dss_cons (ds_if (DW.t (dw_and (dt_cmp op_fGt (de_b b_len rfl T.n_len (by decide +kernel) (da_cons (de_v 0) da_nil)) de_int rfl) (dw_and1 (dt_cmp (op_fEq hr.units) (de_iy (hu_of hr) (de_v 0) de_int (hs2 := fun _ _ => rfl)) de_str rfl)))) (dss_one (ds_ret de_non)) dss_nil)
  (dss_one (ds_ret (de_ty b_int rfl T.n_int (by decide +kernel) (da_cons (de_v 0) da_nil)))))))
theorem sclines_of : FnScope ["text"] ["text"] (defScope (top 16)) := ⟨rfl, rfl, rfl, by decide +kernel, rfl, by decide +kernel, by decide +kernel⟩
theorem oklines_of (T : Txt K mg cl ini ifd fa ffd) : FnOk P w K mg base (L2.CX P w) 1 (fa 6) (ffd 6) ["text"] (spI K cl 1 Flines_of) :=
  ok_gc (ok_fn T.f6.F sclines_of fun cdv A outer s H E hr => by
    exact (dss_one (ds_ret (de_if (dt_cmp (op_fEq hr.units) (de_v 0) de_str rfl) (de_fz (de_lst da_nil)) (de_fz (de_mt PySem.F.plainAttrs_str PySem.F.slot_str_split PySem.F.type_str_split m_split ty_str (de_v 0) (da_cons de_str da_nil)))))))
theorem scline_behind : FnScope ["text"] ["text"] (defScope (top 17)) := ⟨rfl, rfl, rfl, by decide +kernel, rfl, by decide +kernel, by decide +kernel⟩
theorem okline_behind (T : Txt K mg cl ini ifd fa ffd) : FnOk P w K mg base (L2.CX P w) 2 (fa 7) (ffd 7) ["text"] (spI K cl 1 Fline_behind) :=
  ok_gc (ok_fn T.f7.F scline_behind fun cdv A outer s H E hr => by
    exact (dss_one (ds_ret (de_op op_gAdd (de_b b_len rfl T.n_len (by decide +kernel) (da_cons (de_call (oklines_of T) fnG_ar (hr.mono (by decide)) (takes_of rfl rfl rfl rfl) T.f6.m T.f6.k T.f6.b (da_cons (de_v 0) da_nil)) da_nil)) de_int))))
theorem scspaced_words : FnScope ["line", "word"] ["line"] (defScope (top 18)) := ⟨rfl, rfl, rfl, by decide +kernel, rfl, by decide +kernel, by decide +kernel⟩
theorem okspaced_words (T : Txt K mg cl ini ifd fa ffd) : FnOk P w K mg base (L2.CX P w) 1 (fa 8) (ffd 8) ["line"] (spI K cl 1 Fspaced_words) :=
  ok_gc (ok_fn T.f8.F scspaced_words fun cdv A outer s H E hr => by
    exact (dss_one (ds_ret (de_fz (de_lc rfl scspaced_words.nd (di_e (de_fz (de_mt PySem.F.plainAttrs_str PySem.F.slot_str_split PySem.F.type_str_split m_split ty_str (de_v 0) (da_cons de_str da_nil)))) (own := [("word", 1)]) (show BlkOk ["line", "word"] (defScope (top 18)) _ _ from ⟨by rfl, by decide +kernel, by decide +kernel, by decide +kernel, by decide +kernel⟩) (fun _ _ _ _ _ => (dg_n 1 scspaced_words.nd)) (fun _ _ _ _ _ => (dts_one (dt_cmp (op_fNe hr.units) (de_v 1) de_str rfl))) (fun _ _ _ _ _ => (de_v 1)))))))
theorem scnumbered_words : FnScope ["text", "lines", "found", "at", "words"] ["text"] (defScope (top 19)) := ⟨rfl, rfl, rfl, by decide +kernel, rfl, by decide +kernel, by decide +kernel⟩
theorem oknumbered_words (T : Txt K mg cl ini ifd fa ffd) : FnOk P w K mg base (L2.CX P w) 2 (fa 9) (ffd 9) ["text"] (spI K cl 1 Fnumbered_words) :=
  ok_gc (ok_fn T.f9.F scnumbered_words fun cdv A outer s H E hr => by
    exact (dss_cons (ds_set 1 scnumbered_words.nd (de_call (oklines_of T) fnG_ar (hr.mono (by decide)) (takes_of rfl rfl rfl rfl) T.f6.m T.f6.k T.f6.b (da_cons (de_v 0) da_nil)))
  (dss_cons (ds_set 2 scnumbered_words.nd (de_lst da_nil))
  (dss_cons (ds_for (passes_of rfl) rfl (di_r1 rfl T.n_range (da_cons (de_b b_len rfl T.n_len (by decide +kernel) (da_cons (de_v 1) da_nil)) da_nil)) (dg_n 3 scnumbered_words.nd) (dss_cons (ds_set 4 scnumbered_words.nd (de_call (okspaced_words T) fnG_ar (hr.mono (by decide)) (takes_of rfl rfl rfl rfl) T.f8.m T.f8.k T.f8.b (da_cons (de_iy (hu_of hr) (de_v 1) (de_v 3) (hs2 := fun _ _ => rfl)) da_nil)))
  (dss_one (ds_if (dt_cmp op_fGt (de_b b_len rfl T.n_len (by decide +kernel) (da_cons (de_v 4) da_nil)) de_int rfl) (dss_one (ds_expr (de_mt PySem.F.plainAttrs_list PySem.F.slot_list_append PySem.F.type_list_append m_append ty_list (de_v 2) (da_cons (de_tup (da_cons (de_op op_gAdd (de_v 3) de_int) (da_cons (de_v 4) da_nil))) da_nil)))) dss_nil))))
  (dss_one (ds_ret (de_v 2)))))))
theorem sctime_by : FnScope ["gate", "came", "word", "operands", "delay", "times", "number"] ["gate", "came"] (defScope (top 21)) := ⟨rfl, rfl, rfl, by decide +kernel, rfl, by decide +kernel, by decide +kernel⟩
theorem oktime_by (T : Txt K mg cl ini ifd fa ffd) : FnOk P w K mg base (L2.CX P w) 1 (fa 10) (ffd 10) ["gate", "came"] (spI K cl 2 Ftime_by) :=
  ok_gc (ok_fn T.f10.F sctime_by fun cdv A outer s H E hr => by
    exact (dss_cons (ds_as (de_v 0) (dg_t rfl (dgs_cons (dg_n 2 sctime_by.nd) (dgs_cons (dg_n 3 sctime_by.nd) (dgs_cons (dg_n 4 sctime_by.nd) dgs_nil)))))
  (dss_cons (ds_setLcF 5 rfl sctime_by.nd (di_e (de_v 3)) (own := [("number", 6)]) (show BlkOk ["gate", "came", "word", "operands", "delay", "times", "number"] (defScope (top 21)) _ _ from ⟨by rfl, by decide +kernel, by decide +kernel, by decide +kernel, by decide +kernel⟩) (fun _ _ _ _ _ => (dg_n 6 sctime_by.nd)) (fun _ _ _ _ _ => (dts_one (dt_cmp op_fIsNot (de_iy (hu_of hr) (de_v 1) (de_v 6) (hs2 := fun _ _ => rfl)) de_non rfl))) (fun _ _ _ _ _ => (de_iy (hu_of hr) (de_v 1) (de_v 6) (hs2 := fun _ _ => rfl))) (sw_true rfl rfl rfl rfl))
  (dss_cons (ds_if (DW.t (dw_or (dt_cmp (op_fEq hr.units) (de_b b_len rfl T.n_len (by decide +kernel) (da_cons (de_v 5) da_nil)) de_int rfl) (dw_or1 (DW.t (dw_and (dt_cmp (op_fEq hr.units) (de_v 2) de_str rfl) (dw_and1 (dt_cmp op_fLt (de_b b_len rfl T.n_len (by decide +kernel) (da_cons (de_v 5) da_nil)) (de_b b_len rfl T.n_len (by decide +kernel) (da_cons (de_v 3) da_nil)) rfl))))))) (dss_one (ds_ret de_non)) dss_nil)
  (dss_one (ds_ret (de_op op_gAdd (de_v 4) (de_if (dt_cmp (op_fEq hr.units) (de_v 2) de_str rfl) (de_b (b_gMin rfl hr.units) rfl T.n_min (by decide +kernel) (da_cons (de_v 5) da_nil)) (de_b (b_gMax rfl) rfl T.n_max (by decide +kernel) (da_cons (de_v 5) da_nil))))))))))
theorem sccomes : FnScope ["network", "times", "many", "gates", "came", "left", "told", "at", "known", "pair", "time"] ["network", "times"] (defScope (top 22)) := ⟨rfl, rfl, rfl, by decide +kernel, rfl, by decide +kernel, by decide +kernel⟩
theorem okcomes (T : Txt K mg cl ini ifd fa ffd) : FnOk P w K mg base (L2.CX P w) 2 (fa 11) (ffd 11) ["network", "times"] (spI K cl 2 Fcomes) :=
  ok_gc (ok_fn T.f11.F sccomes fun cdv A outer s H E hr => by
    exact (dss_cons (ds_as (de_v 0) (dg_t rfl (dgs_cons (dg_n 2 sccomes.nd) (dgs_cons (dg_n 3 sccomes.nd) dgs_nil))))
  (dss_cons (ds_set 4 sccomes.nd (de_op op_gAdd (de_fz (de_ty (b_list rfl) rfl T.n_list (by decide +kernel) (da_cons (de_v 1) da_nil))) (de_fz (de_op op_fMul (de_lst (da_cons de_non da_nil)) (de_b b_len rfl T.n_len (by decide +kernel) (da_cons (de_v 3) da_nil))))))
  (dss_cons (ds_set 5 sccomes.nd (de_listRg rfl rfl T.n_list rfl T.n_range (de_b b_len rfl T.n_len (by decide +kernel) (da_cons (de_v 3) da_nil))))
  (dss_cons (ds_while (passes_of rfl) (dt_cmp op_fGt (de_b b_len rfl T.n_len (by decide +kernel) (da_cons (de_v 5) da_nil)) de_int rfl) (dss_cons (ds_setLcF 6 rfl sccomes.nd (di_e (de_v 5)) (own := [("at", 7)]) (show BlkOk ["network", "times", "many", "gates", "came", "left", "told", "at", "known", "pair", "time"] (defScope (top 22)) _ _ from ⟨by rfl, by decide +kernel, by decide +kernel, by decide +kernel, by decide +kernel⟩) (fun _ _ _ _ _ => (dg_n 7 sccomes.nd)) (fun _ _ _ _ _ => dts_nil) (fun _ _ _ _ _ => (de_tup (da_cons (de_call (oktime_by T) fnG_ar (hr.mono (by decide)) takes0 T.f10.m T.f10.k T.f10.b (da_cons (de_iy (hu_of hr) (de_v 3) (de_v 7) (hs2 := fun _ _ => rfl)) (da_cons (de_v 4) da_nil))) (da_cons (de_v 7) da_nil)))) (sw_true rfl rfl rfl rfl))
  (dss_cons (ds_setLcF 8 rfl sccomes.nd (di_e (de_v 6)) (own := [("pair", 9)]) (show BlkOk ["network", "times", "many", "gates", "came", "left", "told", "at", "known", "pair", "time"] (defScope (top 22)) _ _ from ⟨by rfl, by decide +kernel, by decide +kernel, by decide +kernel, by decide +kernel⟩) (fun _ _ _ _ _ => (dg_n 9 sccomes.nd)) (fun _ _ _ _ _ => (dts_one (dt_cmp op_fIsNot (de_iy (hu_of hr) (de_v 9) de_int (hs2 := fun _ _ => rfl)) de_non rfl))) (fun _ _ _ _ _ => (de_v 9)) (sw_true rfl rfl rfl rfl))
  (dss_cons (ds_if (dt_cmp (op_fEq hr.units) (de_b b_len rfl T.n_len (by decide +kernel) (da_cons (de_v 8) da_nil)) de_int rfl) (dss_one ds_break) dss_nil)
  (dss_cons (ds_as (de_b (b_gMin rfl hr.units) rfl T.n_min (by decide +kernel) (da_cons (de_v 8) da_nil)) (dg_t rfl (dgs_cons (dg_n 10 sccomes.nd) (dgs_cons (dg_n 7 sccomes.nd) dgs_nil))))
  (dss_cons (ds_puy (hu_of hr) (de_v 10) (de_v 4) (de_op op_gAdd (de_v 2) (de_v 7)))
  (dss_one (ds_expr (de_mt PySem.F.plainAttrs_list PySem.F.slot_list_remove PySem.F.type_list_remove m_remove ty_list (de_v 5) (da_cons (de_v 7) da_nil))))))))))
  (dss_one (ds_ret (de_ty b_tup rfl T.n_tuple (by decide +kernel) (da_cons (de_fz (de_sl (de_v 4) (do_e (de_v 2)) do_n)) da_nil)))))))))
theorem sccoming : FnScope ["network", "times", "told", "at"] ["network", "times"] (defScope (top 23)) := ⟨rfl, rfl, rfl, by decide +kernel, rfl, by decide +kernel, by decide +kernel⟩
theorem okcoming (T : Txt K mg cl ini ifd fa ffd) : FnOk P w K mg base (L2.CX P w) 3 (fa 12) (ffd 12) ["network", "times"] (spI K cl 2 Fcoming) :=
  ok_gc (ok_fn T.f12.F sccoming fun cdv A outer s H E hr => by
    exact (dss_cons (ds_set 2 sccoming.nd (de_call (okcomes T) fnG_ar (hr.mono (by decide)) (takes_of rfl rfl rfl rfl) T.f11.m T.f11.k T.f11.b (da_cons (de_v 0) (da_cons (de_v 1) da_nil))))
  (dss_one (ds_ret (de_ty b_tup rfl T.n_tuple (by decide +kernel) (da_cons (de_fz (de_b (b_gSorted rfl hr.units) rfl T.n_sorted (by decide +kernel) (da_cons (de_fz (de_lc rfl sccoming.nd (di_r1 rfl T.n_range (da_cons (de_b b_len rfl T.n_len (by decide +kernel) (da_cons (de_v 2) da_nil)) da_nil)) (own := [("at", 3)]) (show BlkOk ["network", "times", "told", "at"] (defScope (top 23)) _ _ from ⟨by rfl, by decide +kernel, by decide +kernel, by decide +kernel, by decide +kernel⟩) (fun _ _ _ _ _ => (dg_n 3 sccoming.nd)) (fun _ _ _ _ _ => (dts_one (dt_cmp op_fIsNot (de_iy (hu_of hr) (de_v 2) (de_v 3) (hs2 := fun _ _ => rfl)) de_non rfl))) (fun _ _ _ _ _ => (de_tup (da_cons (de_iy (hu_of hr) (de_v 2) (de_v 3) (hs2 := fun _ _ => rfl)) (da_cons (de_v 3) da_nil)))))) da_nil))) da_nil))))))
theorem scusers_of : FnScope ["network", "number", "many", "gates", "at"] ["network", "number"] (defScope (top 25)) := ⟨rfl, rfl, rfl, by decide +kernel, rfl, by decide +kernel, by decide +kernel⟩
theorem okusers_of (T : Txt K mg cl ini ifd fa ffd) : FnOk P w K mg base (L2.CX P w) 4 (fa 13) (ffd 13) ["network", "number"] (spI K cl 2 Fusers_of) :=
  ok_gc (ok_fn T.f13.F scusers_of fun cdv A outer s H E hr => by
    exact (dss_cons (ds_as (de_v 0) (dg_t rfl (dgs_cons (dg_n 2 scusers_of.nd) (dgs_cons (dg_n 3 scusers_of.nd) dgs_nil))))
  (dss_cons (ds_if (dt_not (dt_tr (de_call (okis_below T) fnG_ar (hr.mono (by decide)) (takes_of rfl rfl rfl rfl) T.f2.m T.f2.k T.f2.b (da_cons (de_v 1) (da_cons (de_op op_gAdd (de_v 2) (de_b b_len rfl T.n_len (by decide +kernel) (da_cons (de_v 3) da_nil))) da_nil))))) (dss_one (ds_raise rfl T.c_BadStep.T T.xo_BadStep (hr.mono (by decide)) T.xb_BadStep T.c_BadStep.m (takes_of rfl rfl rfl rfl) (da_cons de_str da_nil))) dss_nil)
  (dss_one (ds_ret (de_ty b_tup rfl T.n_tuple (by decide +kernel) (da_cons (de_fz (de_lc rfl scusers_of.nd (di_r1 rfl T.n_range (da_cons (de_b b_len rfl T.n_len (by decide +kernel) (da_cons (de_v 3) da_nil)) da_nil)) (own := [("at", 4)]) (show BlkOk ["network", "number", "many", "gates", "at"] (defScope (top 25)) _ _ from ⟨by rfl, by decide +kernel, by decide +kernel, by decide +kernel, by decide +kernel⟩) (fun _ _ _ _ _ => (dg_n 4 scusers_of.nd)) (fun _ _ _ _ _ => (dts_one (dt_cmp (op_fIn (hu_of hr)) (de_v 1) (de_iy (hu_of hr) (de_iy (hu_of hr) (de_v 3) (de_v 4) (hs2 := fun _ _ => rfl)) de_int (hs2 := fun _ _ => rfl)) rfl))) (fun _ _ _ _ _ => (de_v 4)))) da_nil)))))))
theorem scgates_below : FnScope ["network", "gate", "many", "gates", "number"] ["network", "gate"] (defScope (top 26)) := ⟨rfl, rfl, rfl, by decide +kernel, rfl, by decide +kernel, by decide +kernel⟩
theorem okgates_below (T : Txt K mg cl ini ifd fa ffd) : FnOk P w K mg base (L2.CX P w) 1 (fa 14) (ffd 14) ["network", "gate"] (spI K cl 2 Fgates_below) :=
  ok_gc (ok_fn T.f14.F scgates_below fun cdv A outer s H E hr => by
    exact (dss_cons (ds_as (de_v 0) (dg_t rfl (dgs_cons (dg_n 2 scgates_below.nd) (dgs_cons (dg_n 3 scgates_below.nd) dgs_nil))))
  (dss_one (ds_ret (de_fz (de_lc rfl scgates_below.nd (di_e (de_iy (hu_of hr) (de_iy (hu_of hr) (de_v 3) (de_v 1) (hs2 := fun _ _ => rfl)) de_int (hs2 := fun _ _ => rfl))) (own := [("number", 4)]) (show BlkOk ["network", "gate", "many", "gates", "number"] (defScope (top 26)) _ _ from ⟨by rfl, by decide +kernel, by decide +kernel, by decide +kernel, by decide +kernel⟩) (fun _ _ _ _ _ => (dg_n 4 scgates_below.nd)) (fun _ _ _ _ _ => (dts_one (dt_cmp op_fGe (de_v 4) (de_v 2) rfl))) (fun _ _ _ _ _ => (de_op op_fSub (de_v 4) (de_v 2)))))))))
theorem scneeded_for : FnScope ["network", "gates", "found", "rest", "gate"] ["network", "gates"] (defScope (top 27)) := ⟨rfl, rfl, rfl, by decide +kernel, rfl, by decide +kernel, by decide +kernel⟩
theorem okneeded_for (T : Txt K mg cl ini ifd fa ffd) : FnOk P w K mg base (L2.CX P w) 2 (fa 15) (ffd 15) ["network", "gates"] (spI K cl 2 Fneeded_for) :=
  ok_gc (ok_fn T.f15.F scneeded_for fun cdv A outer s H E hr => by
    exact (dss_cons (ds_set 2 scneeded_for.nd de_dic0)
  (dss_cons (ds_set 3 scneeded_for.nd (de_ty (b_list rfl) rfl T.n_list (by decide +kernel) (da_cons (de_v 1) da_nil)))
  (dss_cons (ds_while (passes_of rfl) (dt_cmp op_fGt (de_b b_len rfl T.n_len (by decide +kernel) (da_cons (de_v 3) da_nil)) de_int rfl) (dss_cons (ds_set 4 scneeded_for.nd (de_mt0 PySem.F.plainAttrs_list PySem.F.slot_list_pop PySem.F.type_list_pop m_pop ty_list (de_v 3)))
  (dss_one (ds_if (dt_cmp (op_fNotIn (hu_of hr)) (de_v 4) (de_v 2) rfl) (dss_cons (ds_puy (hu_of hr) de_bl (de_v 2) (de_v 4))
  (dss_one (ds_expr (de_mt PySem.F.plainAttrs_list PySem.F.slot_list_extend PySem.F.type_list_extend m_gExt ty_list (de_v 3) (da_cons (de_call (okgates_below T) fnG_ar (hr.mono (by decide)) (takes_of rfl rfl rfl rfl) T.f14.m T.f14.k T.f14.b (da_cons (de_v 0) (da_cons (de_v 4) da_nil))) da_nil))))) dss_nil))))
  (dss_one (ds_ret (de_ty b_tup rfl T.n_tuple (by decide +kernel) (da_cons (de_fz (de_b (b_gSorted rfl hr.units) rfl T.n_sorted (by decide +kernel) (da_cons (de_v 2) da_nil))) da_nil))))))))
theorem scgates_in_loops : FnScope ["network", "found", "gate"] ["network"] (defScope (top 28)) := ⟨rfl, rfl, rfl, by decide +kernel, rfl, by decide +kernel, by decide +kernel⟩
theorem okgates_in_loops (T : Txt K mg cl ini ifd fa ffd) : FnOk P w K mg base (L2.CX P w) 3 (fa 16) (ffd 16) ["network"] (spI K cl 1 Fgates_in_loops) :=
  ok_gc (ok_fn T.f16.F scgates_in_loops fun cdv A outer s H E hr => by
    exact (dss_cons (ds_set 1 scgates_in_loops.nd (de_lst da_nil))
  (dss_cons (ds_for (passes_of rfl) rfl (di_r1 rfl T.n_range (da_cons (de_b b_len rfl T.n_len (by decide +kernel) (da_cons (de_iy (hu_of hr) (de_v 0) de_int (hs2 := fun _ _ => rfl)) da_nil)) da_nil)) (dg_n 2 scgates_in_loops.nd) (dss_one (ds_if (dt_cmp (op_fIn (hu_of hr)) (de_v 2) (de_call (okneeded_for T) fnG_ar (hr.mono (by decide)) (takes_of rfl rfl rfl rfl) T.f15.m T.f15.k T.f15.b (da_cons (de_v 0) (da_cons (de_call (okgates_below T) fnG_ar (hr.mono (by decide)) (takes_of rfl rfl rfl rfl) T.f14.m T.f14.k T.f14.b (da_cons (de_v 0) (da_cons (de_v 2) da_nil))) da_nil))) rfl) (dss_one (ds_expr (de_mt PySem.F.plainAttrs_list PySem.F.slot_list_append PySem.F.type_list_append m_append ty_list (de_v 1) (da_cons (de_v 2) da_nil)))) dss_nil)))
  (dss_one (ds_ret (de_ty b_tup rfl T.n_tuple (by decide +kernel) (da_cons (de_v 1) da_nil)))))))
theorem sclatest_time : FnScope ["network", "times", "told", "time"] ["network", "times"] (defScope (top 29)) := ⟨rfl, rfl, rfl, by decide +kernel, rfl, by decide +kernel, by decide +kernel⟩
theorem oklatest_time (T : Txt K mg cl ini ifd fa ffd) : FnOk P w K mg base (L2.CX P w) 3 (fa 17) (ffd 17) ["network", "times"] (spI K cl 2 Flatest_time) :=
  ok_gc (ok_fn T.f17.F sclatest_time fun cdv A outer s H E hr => by
    exact (dss_cons (ds_setLcF 2 rfl sclatest_time.nd (di_e (de_call (okcomes T) fnG_ar (hr.mono (by decide)) (takes_of rfl rfl rfl rfl) T.f11.m T.f11.k T.f11.b (da_cons (de_v 0) (da_cons (de_v 1) da_nil)))) (own := [("time", 3)]) (show BlkOk ["network", "times", "told", "time"] (defScope (top 29)) _ _ from ⟨by rfl, by decide +kernel, by decide +kernel, by decide +kernel, by decide +kernel⟩) (fun _ _ _ _ _ => (dg_n 3 sclatest_time.nd)) (fun _ _ _ _ _ => (dts_one (dt_cmp op_fIsNot (de_v 3) de_non rfl))) (fun _ _ _ _ _ => (de_v 3)) (sw_true rfl rfl rfl rfl))
  (dss_one (ds_ret (de_if (dt_cmp op_fGt (de_b b_len rfl T.n_len (by decide +kernel) (da_cons (de_v 2) da_nil)) de_int rfl) (de_b (b_gMax rfl) rfl T.n_max (by decide +kernel) (da_cons (de_v 2) da_nil)) de_non)))))
theorem scis_gate : FnScope ["thing"] ["thing"] (defScope (top 35)) := ⟨rfl, rfl, rfl, by decide +kernel, rfl, by decide +kernel, by decide +kernel⟩
theorem okis_gate (T : Txt K mg cl ini ifd fa ffd) : FnOk P w K mg base (L2.CX P w) 4 (fa 18) (ffd 18) ["thing"] (spI K cl 1 Fis_gate) :=
  ok_gc (ok_fn T.f18.F scis_gate fun cdv A outer s H E hr => by
    exact (dss_cons (ds_if (DW.t (dw_or (dt_not (dt_tr (de_call (okis_row T) fnG_ar (hr.mono (by decide)) (takes_of rfl rfl rfl rfl) T.f3.m T.f3.k T.f3.b (da_cons (de_v 0) (da_cons de_int da_nil))))) (dw_or (dt_not (dt_tr (de_isi .str rfl T.n_isinstance rfl T.n_str (by decide +kernel) (de_iy (hu_of hr) (de_v 0) de_int (hs2 := fun _ _ => rfl))))) (dw_or1 (dt_cmp (op_fNotIn (hu_of hr)) (de_iy (hu_of hr) (de_v 0) de_int (hs2 := fun _ _ => rfl)) (de_tup (da_cons de_str (da_cons de_str da_nil))) rfl))))) (dss_one (ds_ret de_bl)) dss_nil)
  (dss_cons (ds_if (DW.t (dw_or (dt_not (dt_tr (de_isi .tuple rfl T.n_isinstance rfl T.n_tuple (by decide +kernel) (de_iy (hu_of hr) (de_v 0) de_int (hs2 := fun _ _ => rfl))))) (dw_or1 (dt_not (dt_chain op_fLe op_fLe de_int (de_b b_len rfl T.n_len (by decide +kernel) (da_cons (de_iy (hu_of hr) (de_v 0) de_int (hs2 := fun _ _ => rfl)) da_nil)) (let ⟨_, e⟩ := T.g_MOST_OPERANDS; de_g (v := (.int 60)) rfl e ⟨_, rfl⟩ (fun _ _ => rfl))))))) (dss_one (ds_ret de_bl)) dss_nil)
  (dss_one (ds_ret (de_call (okis_below T) fnG_ar (hr.mono (by decide)) (takes_of rfl rfl rfl rfl) T.f2.m T.f2.k T.f2.b (da_cons (de_iy (hu_of hr) (de_v 0) de_int (hs2 := fun _ _ => rfl)) (da_cons (de_op op_gAdd (let ⟨_, e⟩ := T.g_MOST_DELAY; de_g (v := (.int 2000)) rfl e ⟨_, rfl⟩ (fun _ _ => rfl)) de_int) da_nil))))))))
theorem sccheck_network : FnScope ["thing", "many", "gates", "at", "number"] ["thing"] (defScope (top 36)) := ⟨rfl, rfl, rfl, by decide +kernel, rfl, by decide +kernel, by decide +kernel⟩
theorem okcheck_network (T : Txt K mg cl ini ifd fa ffd) : FnOk P w K mg base (L2.CX P w) 5 (fa 19) (ffd 19) ["thing"] (spI K cl 1 Fcheck_network) :=
  ok_gc (ok_fn T.f19.F sccheck_network fun cdv A outer s H E hr => by
    exact (dss_cons (ds_if (DW.t (dw_or (dt_not (dt_tr (de_call (okis_row T) fnG_ar (hr.mono (by decide)) (takes_of rfl rfl rfl rfl) T.f3.m T.f3.k T.f3.b (da_cons (de_v 0) (da_cons de_int da_nil))))) (dw_or1 (dt_not (dt_tr (de_isi .tuple rfl T.n_isinstance rfl T.n_tuple (by decide +kernel) (de_iy (hu_of hr) (de_v 0) de_int (hs2 := fun _ _ => rfl)))))))) (dss_one (ds_raise rfl T.c_BadNetwork.T T.xo_BadNetwork (hr.mono (by decide)) T.xb_BadNetwork T.c_BadNetwork.m (takes_of rfl rfl rfl rfl) (da_cons (de_neg de_int) (da_cons de_str da_nil)))) dss_nil)
  (dss_cons (ds_as (de_v 0) (dg_t rfl (dgs_cons (dg_n 1 sccheck_network.nd) (dgs_cons (dg_n 2 sccheck_network.nd) dgs_nil))))
  (dss_cons (ds_if (DW.t (dw_or (dt_not (dt_tr (de_call (okis_number T) fnG_ar (hr.mono (by decide)) (takes_of rfl rfl rfl rfl) T.f1.m T.f1.k T.f1.b (da_cons (de_v 1) da_nil)))) (dw_or1 (dt_not (dt_chain op_fLe op_fLe de_int (de_v 1) (let ⟨_, e⟩ := T.g_MOST_SIGNALS; de_g (v := (.int 6)) rfl e ⟨_, rfl⟩ (fun _ _ => rfl))))))) (dss_one (ds_raise rfl T.c_BadNetwork.T T.xo_BadNetwork (hr.mono (by decide)) T.xb_BadNetwork T.c_BadNetwork.m (takes_of rfl rfl rfl rfl) (da_cons (de_neg de_int) (da_cons de_str da_nil)))) dss_nil)
  (dss_cons (ds_if (dt_cmp op_fGt (de_b b_len rfl T.n_len (by decide +kernel) (da_cons (de_v 2) da_nil)) (let ⟨_, e⟩ := T.g_MOST_GATES; de_g (v := (.int 40)) rfl e ⟨_, rfl⟩ (fun _ _ => rfl)) rfl) (dss_one (ds_raise rfl T.c_BadNetwork.T T.xo_BadNetwork (hr.mono (by decide)) T.xb_BadNetwork T.c_BadNetwork.m (takes_of rfl rfl rfl rfl) (da_cons (de_neg de_int) (da_cons de_str da_nil)))) dss_nil)
  (dss_cons (ds_for (passes_of rfl) rfl (di_r1 rfl T.n_range (da_cons (de_b b_len rfl T.n_len (by decide +kernel) (da_cons (de_v 2) da_nil)) da_nil)) (dg_n 3 sccheck_network.nd) (dss_cons (ds_if (dt_not (dt_tr (de_call (okis_gate T) fnG_ar (hr.mono (by decide)) (takes_of rfl rfl rfl rfl) T.f18.m T.f18.k T.f18.b (da_cons (de_iy (hu_of hr) (de_v 2) (de_v 3) (hs2 := fun _ _ => rfl)) da_nil)))) (dss_one (ds_raise rfl T.c_BadNetwork.T T.xo_BadNetwork (hr.mono (by decide)) T.xb_BadNetwork T.c_BadNetwork.m (takes_of rfl rfl rfl rfl) (da_cons (de_v 3) (da_cons de_str da_nil)))) dss_nil)
  (dss_one (ds_if (dt_cmp op_fGt (de_b b_len rfl T.n_len (by decide +kernel) (da_cons (de_fz (de_lc rfl sccheck_network.nd (di_e (de_iy (hu_of hr) (de_iy (hu_of hr) (de_v 2) (de_v 3) (hs2 := fun _ _ => rfl)) de_int (hs2 := fun _ _ => rfl))) (own := [("number", 4)]) (show BlkOk ["thing", "many", "gates", "at", "number"] (defScope (top 36)) _ _ from ⟨by rfl, by decide +kernel, by decide +kernel, by decide +kernel, by decide +kernel⟩) (fun _ _ _ _ _ => (dg_n 4 sccheck_network.nd)) (fun _ _ _ _ _ => (dts_one (dt_not (dt_tr (de_call (okis_below T) fnG_ar (hr.mono (by decide)) takes0 T.f2.m T.f2.k T.f2.b (da_cons (de_v 4) (da_cons (de_op op_gAdd (de_v 1) (de_b b_len rfl T.n_len (by decide +kernel) (da_cons (de_v 2) da_nil))) da_nil))))))) (fun _ _ _ _ _ => (de_v 4)))) da_nil)) de_int rfl) (dss_one (ds_raise rfl T.c_BadNetwork.T T.xo_BadNetwork (hr.mono (by decide)) T.xb_BadNetwork T.c_BadNetwork.m (takes_of rfl rfl rfl rfl) (da_cons (de_v 3) (da_cons de_str da_nil)))) dss_nil))))
  (dss_one (ds_ret (de_b b_len rfl T.n_len (by decide +kernel) (da_cons (de_v 2) da_nil))))))))))
theorem scis_network : FnScope ["thing"] ["thing"] (defScope (top 37)) := ⟨rfl, rfl, rfl, by decide +kernel, rfl, by decide +kernel, by decide +kernel⟩
theorem okis_network (T : Txt K mg cl ini ifd fa ffd) : FnOk P w K mg base (L2.CX P w) 6 (fa 20) (ffd 20) ["thing"] (spI K cl 1 Fis_network) :=
  ok_gc (ok_fn T.f20.F scis_network fun cdv A outer s H E hr => by
    exact (dss_cons (ds_try T.fam.sub scis_network.nd (takes_of rfl rfl rfl rfl) (fun W2 pn xe t2 po => (dss_one (ds_expr (de_call (okcheck_network T) fnG_ar (hr.mono (by decide)) t2 T.f19.m T.f19.k T.f19.b (da_cons (de_v 0) da_nil))))) (DHds.cons ⟨rfl, by decide, Or.inl T.m_BadNetwork⟩ True.intro (fun a pn => (dss_one (ds_ret de_bl))) DHds.nil))
  (dss_one (ds_ret de_bl))))
theorem screnumbered : FnScope ["gates", "numbers", "number", "word", "operands", "delay"] ["gates", "numbers"] (defScope (top 39)) := ⟨rfl, rfl, rfl, by decide +kernel, rfl, by decide +kernel, by decide +kernel⟩
theorem okrenumbered (T : Txt K mg cl ini ifd fa ffd) : FnOk P w K mg base (L2.CX P w) 1 (fa 21) (ffd 21) ["gates", "numbers"] (spI K cl 2 Frenumbered) :=
  ok_gc (ok_fn T.f21.F screnumbered fun cdv A outer s H E hr => by
    exact (dss_one (ds_ret (de_ty b_tup rfl T.n_tuple (by decide +kernel) (da_cons (de_fz (de_lc rfl screnumbered.nd (di_e (de_v 0)) (own := [("word", 3), ("operands", 4), ("delay", 5)]) (show BlkOk ["gates", "numbers", "number", "word", "operands", "delay"] (defScope (top 39)) _ _ from ⟨by rfl, by decide +kernel, by decide +kernel, by decide +kernel, by decide +kernel⟩) (fun _ _ _ _ _ => (dg_t rfl (dgs_cons (dg_n 3 screnumbered.nd) (dgs_cons (dg_n 4 screnumbered.nd) (dgs_cons (dg_n 5 screnumbered.nd) dgs_nil))))) (fun _ _ _ _ _ => dts_nil) (fun _ _ _ _ _ => (de_tup (da_cons (de_v 3) (da_cons (de_ty b_tup rfl T.n_tuple (by decide +kernel) (da_cons (de_fz (de_lc rfl screnumbered.nd (di_e (de_v 4)) (own := [("number", 2)]) (BlkOk.blk (N := ["gates", "numbers", "number", "word", "operands", "delay"]) ⟨by rfl, by decide +kernel, by decide +kernel, by decide +kernel, by decide +kernel⟩) (fun _ _ _ _ _ => (dg_n 2 screnumbered.nd)) (fun _ _ _ _ _ => dts_nil) (fun _ _ _ _ _ => (de_iy (hu_of hr) (de_v 1) (de_v 2) (hs2 := fun _ _ => rfl))))) da_nil)) (da_cons (de_v 5) da_nil))))))) da_nil)))))
theorem scbeside_networks : FnScope ["one", "other", "many", "numbers", "at"] ["one", "other"] (defScope (top 40)) := ⟨rfl, rfl, rfl, by decide +kernel, rfl, by decide +kernel, by decide +kernel⟩
theorem okbeside_networks (T : Txt K mg cl ini ifd fa ffd) : FnOk P w K mg base (L2.CX P w) 3 (fa 22) (ffd 22) ["one", "other"] (spI K cl 2 Fbeside_networks) :=
  ok_gc (ok_fn T.f22.F scbeside_networks fun cdv A outer s H E hr => by
    exact (dss_cons (ds_if (dt_cmp (op_fNe hr.units) (de_iy (hu_of hr) (de_v 0) de_int (hs2 := fun _ _ => rfl)) (de_iy (hu_of hr) (de_v 1) de_int (hs2 := fun _ _ => rfl)) rfl) (dss_one (ds_raise rfl T.c_BadStep.T T.xo_BadStep (hr.mono (by decide)) T.xb_BadStep T.c_BadStep.m (takes_of rfl rfl rfl rfl) (da_cons de_str da_nil))) dss_nil)
  (dss_cons (ds_if (dt_cmp op_fGt (de_op op_gAdd (de_b b_len rfl T.n_len (by decide +kernel) (da_cons (de_iy (hu_of hr) (de_v 0) de_int (hs2 := fun _ _ => rfl)) da_nil)) (de_b b_len rfl T.n_len (by decide +kernel) (da_cons (de_iy (hu_of hr) (de_v 1) de_int (hs2 := fun _ _ => rfl)) da_nil))) (let ⟨_, e⟩ := T.g_MOST_GATES; de_g (v := (.int 40)) rfl e ⟨_, rfl⟩ (fun _ _ => rfl)) rfl) (dss_one (ds_raise rfl T.c_BadStep.T T.xo_BadStep (hr.mono (by decide)) T.xb_BadStep T.c_BadStep.m (takes_of rfl rfl rfl rfl) (da_cons de_str da_nil))) dss_nil)
  (dss_cons (ds_set 2 scbeside_networks.nd (de_iy (hu_of hr) (de_v 0) de_int (hs2 := fun _ _ => rfl)))
  (dss_cons (ds_set 3 scbeside_networks.nd (de_fz (de_op op_gAdd (de_fz (de_listRg rfl rfl T.n_list rfl T.n_range (de_v 2))) (de_fz (de_lc rfl scbeside_networks.nd (di_r1 rfl T.n_range (da_cons (de_b b_len rfl T.n_len (by decide +kernel) (da_cons (de_iy (hu_of hr) (de_v 1) de_int (hs2 := fun _ _ => rfl)) da_nil)) da_nil)) (own := [("at", 4)]) (show BlkOk ["one", "other", "many", "numbers", "at"] (defScope (top 40)) _ _ from ⟨by rfl, by decide +kernel, by decide +kernel, by decide +kernel, by decide +kernel⟩) (fun _ _ _ _ _ => (dg_n 4 scbeside_networks.nd)) (fun _ _ _ _ _ => dts_nil) (fun _ _ _ _ _ => (de_op op_gAdd (de_op op_gAdd (de_v 2) (de_b b_len rfl T.n_len (by decide +kernel) (da_cons (de_iy (hu_of hr) (de_v 0) de_int (hs2 := fun _ _ => rfl)) da_nil))) (de_v 4))))))))
  (dss_one (ds_ret (de_tup (da_cons (de_v 2) (da_cons (de_op op_gAdd (de_iy (hu_of hr) (de_v 0) de_int (hs2 := fun _ _ => rfl)) (de_call (okrenumbered T) fnG_ar (hr.mono (by decide)) (takes_of rfl rfl rfl rfl) T.f21.m T.f21.k T.f21.b (da_cons (de_iy (hu_of hr) (de_v 1) de_int (hs2 := fun _ _ => rfl)) (da_cons (de_v 3) da_nil)))) da_nil))))))))))
theorem sctrimmed_network : FnScope ["network", "gates", "many", "told", "kept", "numbers", "signal", "at", "gate"] ["network", "gates"] (defScope (top 41)) := ⟨rfl, rfl, rfl, by decide +kernel, rfl, by decide +kernel, by decide +kernel⟩
theorem oktrimmed_network (T : Txt K mg cl ini ifd fa ffd) : FnOk P w K mg base (L2.CX P w) 3 (fa 23) (ffd 23) ["network", "gates"] (spI K cl 2 Ftrimmed_network) :=
  ok_gc (ok_fn T.f23.F sctrimmed_network fun cdv A outer s H E hr => by
    exact (dss_cons (ds_as (de_v 0) (dg_t rfl (dgs_cons (dg_n 2 sctrimmed_network.nd) (dgs_cons (dg_n 3 sctrimmed_network.nd) dgs_nil))))
  (dss_cons (ds_set 4 sctrimmed_network.nd (de_call (okneeded_for T) fnG_ar (hr.mono (by decide)) (takes_of rfl rfl rfl rfl) T.f15.m T.f15.k T.f15.b (da_cons (de_v 0) (da_cons (de_v 1) da_nil))))
  (dss_cons (ds_set 5 sctrimmed_network.nd (de_ty (b_gDict rfl) rfl T.n_dict (by decide +kernel) (da_cons (de_fz (de_lc rfl sctrimmed_network.nd (di_r1 rfl T.n_range (da_cons (de_v 2) da_nil)) (own := [("signal", 6)]) (show BlkOk ["network", "gates", "many", "told", "kept", "numbers", "signal", "at", "gate"] (defScope (top 41)) _ _ from ⟨by rfl, by decide +kernel, by decide +kernel, by decide +kernel, by decide +kernel⟩) (fun _ _ _ _ _ => (dg_n 6 sctrimmed_network.nd)) (fun _ _ _ _ _ => dts_nil) (fun _ _ _ _ _ => (de_tup (da_cons (de_v 6) (da_cons (de_v 6) da_nil)))))) da_nil)))
  (dss_cons (ds_for (passes_of rfl) rfl (di_r1 rfl T.n_range (da_cons (de_b b_len rfl T.n_len (by decide +kernel) (da_cons (de_v 4) da_nil)) da_nil)) (dg_n 7 sctrimmed_network.nd) (dss_one (ds_puy (hu_of hr) (de_op op_gAdd (de_v 2) (de_v 7)) (de_v 5) (de_op op_gAdd (de_v 2) (de_iy (hu_of hr) (de_v 4) (de_v 7) (hs2 := fun _ _ => rfl))))))
  (dss_one (ds_ret (de_tup (da_cons (de_v 2) (da_cons (de_call (okrenumbered T) fnG_ar (hr.mono (by decide)) (takes_of rfl rfl rfl rfl) T.f21.m T.f21.k T.f21.b (da_cons (de_fz (de_lc rfl sctrimmed_network.nd (di_e (de_v 4)) (own := [("gate", 8)]) (show BlkOk ["network", "gates", "many", "told", "kept", "numbers", "signal", "at", "gate"] (defScope (top 41)) _ _ from ⟨by rfl, by decide +kernel, by decide +kernel, by decide +kernel, by decide +kernel⟩) (fun _ _ _ _ _ => (dg_n 8 sctrimmed_network.nd)) (fun _ _ _ _ _ => dts_nil) (fun _ _ _ _ _ => (de_iy (hu_of hr) (de_v 3) (de_v 8) (hs2 := fun _ _ => rfl))))) (da_cons (de_v 5) da_nil))) da_nil))))))))))
theorem scnetwork_text : FnScope ["network", "many", "gates", "lines", "word", "operands", "delay", "number"] ["network"] (defScope (top 43)) := ⟨rfl, rfl, rfl, by decide +kernel, rfl, by decide +kernel, by decide +kernel⟩
theorem oknetwork_text (T : Txt K mg cl ini ifd fa ffd) : FnOk P w K mg base (L2.CX P w) 1 (fa 24) (ffd 24) ["network"] (spI K cl 1 Fnetwork_text) :=
  ok_gc (ok_fn T.f24.F scnetwork_text fun cdv A outer s H E hr => by
    exact (dss_cons (ds_as (de_v 0) (dg_t rfl (dgs_cons (dg_n 1 scnetwork_text.nd) (dgs_cons (dg_n 2 scnetwork_text.nd) dgs_nil))))
  (dss_cons (ds_set 3 scnetwork_text.nd (de_lst (da_cons (de_op op_gAdd de_str (de_ty b_str rfl T.n_str (by decide +kernel) (da_cons (de_v 1) da_nil))) da_nil)))
  (dss_cons (ds_for (passes_of rfl) rfl (di_e (de_v 2)) (dg_t rfl (dgs_cons (dg_n 4 scnetwork_text.nd) (dgs_cons (dg_n 5 scnetwork_text.nd) (dgs_cons (dg_n 6 scnetwork_text.nd) dgs_nil)))) (dss_one (ds_expr (de_mt PySem.F.plainAttrs_list PySem.F.slot_list_append PySem.F.type_list_append m_append ty_list (de_v 3) (da_cons (de_mt PySem.F.plainAttrs_str PySem.F.slot_str_join PySem.F.type_str_join m_gJoin ty_str de_str (da_cons (de_fz (de_op op_gAdd (de_fz (de_lst (da_cons (de_v 4) (da_cons (de_ty b_str rfl T.n_str (by decide +kernel) (da_cons (de_v 6) da_nil)) da_nil)))) (de_fz (de_lc rfl scnetwork_text.nd (di_e (de_v 5)) (own := [("number", 7)]) (show BlkOk ["network", "many", "gates", "lines", "word", "operands", "delay", "number"] (defScope (top 43)) _ _ from ⟨by rfl, by decide +kernel, by decide +kernel, by decide +kernel, by decide +kernel⟩) (fun _ _ _ _ _ => (dg_n 7 scnetwork_text.nd)) (fun _ _ _ _ _ => dts_nil) (fun _ _ _ _ _ => (de_ty b_str rfl T.n_str (by decide +kernel) (da_cons (de_v 7) da_nil))))))) da_nil)) da_nil)))))
  (dss_one (ds_ret (de_mt PySem.F.plainAttrs_str PySem.F.slot_str_join PySem.F.type_str_join m_gJoin ty_str de_str (da_cons (de_v 3) da_nil))))))))
theorem scnumbers_of : FnScope ["line", "words", "found", "word"] ["line", "words"] (defScope (top 44)) := ⟨rfl, rfl, rfl, by decide +kernel, rfl, by decide +kernel, by decide +kernel⟩
theorem oknumbers_of (T : Txt K mg cl ini ifd fa ffd) : FnOk P w K mg base (L2.CX P w) 3 (fa 25) (ffd 25) ["line", "words"] (spI K cl 2 Fnumbers_of) :=
  ok_gc (ok_fn T.f25.F scnumbers_of fun cdv A outer s H E hr => by
    exact (dss_cons (ds_set 2 scnumbers_of.nd (de_lst da_nil))
  (dss_cons (ds_for (passes_of rfl) rfl (di_e (de_v 1)) (dg_n 3 scnumbers_of.nd) (dss_cons (ds_if (dt_cmp op_fIs (de_call (okwritten_number T) fnG_ar (hr.mono (by decide)) (takes_of rfl rfl rfl rfl) T.f5.m T.f5.k T.f5.b (da_cons (de_v 3) da_nil)) de_non rfl) (dss_one (ds_raise rfl T.c_BadText.T T.xo_BadText (hr.mono (by decide)) T.xb_BadText T.c_BadText.m (takes_of rfl rfl rfl rfl) (da_cons (de_v 0) (da_cons de_str da_nil)))) dss_nil)
  (dss_one (ds_expr (de_mt PySem.F.plainAttrs_list PySem.F.slot_list_append PySem.F.type_list_append m_append ty_list (de_v 2) (da_cons (de_call (okwritten_number T) fnG_ar (hr.mono (by decide)) (takes_of rfl rfl rfl rfl) T.f5.m T.f5.k T.f5.b (da_cons (de_v 3) da_nil)) da_nil))))))
  (dss_one (ds_ret (de_ty b_tup rfl T.n_tuple (by decide +kernel) (da_cons (de_v 2) da_nil)))))))
theorem scread_network : FnScope ["text", "many", "gates", "line", "words", "numbers", "network"] ["text"] (defScope (top 45)) := ⟨rfl, rfl, rfl, by decide +kernel, rfl, by decide +kernel, by decide +kernel⟩
theorem okread_network (T : Txt K mg cl ini ifd fa ffd) : FnOk P w K mg base (L2.CX P w) 7 (fa 26) (ffd 26) ["text"] (spI K cl 1 Fread_network) :=
  ok_gc (ok_fn T.f26.F scread_network fun cdv A outer s H E hr => by
    exact (dss_cons (ds_set 1 scread_network.nd de_non)
  (dss_cons (ds_set 2 scread_network.nd (de_lst da_nil))
  (dss_cons (ds_for (passes_of rfl) rfl (di_e (de_call (oknumbered_words T) fnG_ar (hr.mono (by decide)) (takes_of rfl rfl rfl rfl) T.f9.m T.f9.k T.f9.b (da_cons (de_v 0) da_nil))) (dg_t rfl (dgs_cons (dg_n 3 scread_network.nd) (dgs_cons (dg_n 4 scread_network.nd) dgs_nil))) (dss_cons (ds_if (dt_cmp (op_fNotIn (hu_of hr)) (de_iy (hu_of hr) (de_v 4) de_int (hs2 := fun _ _ => rfl)) (de_if (dt_cmp op_fIs (de_v 1) de_non rfl) (de_tup (da_cons de_str da_nil)) (de_tup (da_cons de_str (da_cons de_str da_nil)))) rfl) (dss_one (ds_raise rfl T.c_BadText.T T.xo_BadText (hr.mono (by decide)) T.xb_BadText T.c_BadText.m (takes_of rfl rfl rfl rfl) (da_cons (de_v 3) (da_cons de_str da_nil)))) dss_nil)
  (dss_cons (ds_if (dt_ifx (dt_cmp op_fIs (de_v 1) de_non rfl) (dt_cmp (op_fNe hr.units) (de_b b_len rfl T.n_len (by decide +kernel) (da_cons (de_v 4) da_nil)) de_int rfl) (dt_cmp op_fLt (de_b b_len rfl T.n_len (by decide +kernel) (da_cons (de_v 4) da_nil)) de_int rfl)) (dss_one (ds_raise rfl T.c_BadText.T T.xo_BadText (hr.mono (by decide)) T.xb_BadText T.c_BadText.m (takes_of rfl rfl rfl rfl) (da_cons (de_v 3) (da_cons de_str da_nil)))) dss_nil)
  (dss_cons (ds_set 5 scread_network.nd (de_call (oknumbers_of T) fnG_ar (hr.mono (by decide)) (takes_of rfl rfl rfl rfl) T.f25.m T.f25.k T.f25.b (da_cons (de_v 3) (da_cons (de_fz (de_sl (de_v 4) (do_e de_int) do_n)) da_nil))))
  (dss_one (ds_if (dt_cmp op_fIs (de_v 1) de_non rfl) (dss_one (ds_set 1 scread_network.nd (de_iy (hu_of hr) (de_v 5) de_int (hs2 := fun _ _ => rfl)))) (dss_one (ds_expr (de_mt PySem.F.plainAttrs_list PySem.F.slot_list_append PySem.F.type_list_append m_append ty_list (de_v 2) (da_cons (de_tup (da_cons (de_iy (hu_of hr) (de_v 4) de_int (hs2 := fun _ _ => rfl)) (da_cons (de_fz (de_sl (de_v 5) (do_e de_int) do_n)) (da_cons (de_iy (hu_of hr) (de_v 5) de_int (hs2 := fun _ _ => rfl)) da_nil)))) da_nil))))))))))
  (dss_cons (ds_set 6 scread_network.nd (de_tup (da_cons (de_v 1) (da_cons (de_ty b_tup rfl T.n_tuple (by decide +kernel) (da_cons (de_v 2) da_nil)) da_nil))))
  (dss_cons (ds_if (dt_not (dt_tr (de_call (okis_network T) fnG_ar (hr.mono (by decide)) (takes_of rfl rfl rfl rfl) T.f20.m T.f20.k T.f20.b (da_cons (de_v 6) da_nil)))) (dss_one (ds_raise rfl T.c_BadText.T T.xo_BadText (hr.mono (by decide)) T.xb_BadText T.c_BadText.m (takes_of rfl rfl rfl rfl) (da_cons (de_call (okline_behind T) fnG_ar (hr.mono (by decide)) (takes_of rfl rfl rfl rfl) T.f7.m T.f7.k T.f7.b (da_cons (de_v 0) da_nil)) (da_cons de_str da_nil)))) dss_nil)
  (dss_one (ds_ret (de_v 6)))))))))
theorem scnetwork_report : FnScope ["network", "first"] ["network"] (defScope (top 47)) := ⟨rfl, rfl, rfl, by decide +kernel, rfl, by decide +kernel, by decide +kernel⟩
theorem oknetwork_report (T : Txt K mg cl ini ifd fa ffd) : FnOk P w K mg base (L2.CX P w) 4 (fa 27) (ffd 27) ["network"] (spI K cl 1 Fnetwork_report) :=
  ok_gc (ok_fn T.f27.F scnetwork_report fun cdv A outer s H E hr => by
    exact (dss_cons (ds_set 1 scnetwork_report.nd (de_op op_gAdd (de_op op_gAdd (de_op op_gAdd de_str (de_ty b_str rfl T.n_str (by decide +kernel) (da_cons (de_iy (hu_of hr) (de_v 0) de_int (hs2 := fun _ _ => rfl)) da_nil))) de_str) (de_ty b_str rfl T.n_str (by decide +kernel) (da_cons (de_b b_len rfl T.n_len (by decide +kernel) (da_cons (de_iy (hu_of hr) (de_v 0) de_int (hs2 := fun _ _ => rfl)) da_nil)) da_nil))))
  (dss_one (ds_ret (de_op op_gAdd (de_op op_gAdd (de_v 1) de_str) (de_ty b_str rfl T.n_str (by decide +kernel) (da_cons (de_b b_len rfl T.n_len (by decide +kernel) (da_cons (de_call (okgates_in_loops T) fnG_ar (hr.mono (by decide)) (takes_of rfl rfl rfl rfl) T.f16.m T.f16.k T.f16.b (da_cons (de_v 0) da_nil)) da_nil)) da_nil)))))))
theorem scquiet_behind : FnScope ["network", "times", "told", "time"] ["network", "times"] (defScope (top 49)) := ⟨rfl, rfl, rfl, by decide +kernel, rfl, by decide +kernel, by decide +kernel⟩
theorem okquiet_behind (T : Txt K mg cl ini ifd fa ffd) : FnOk P w K mg base (L2.CX P w) 3 (fa 28) (ffd 28) ["network", "times"] (spI K cl 2 Fquiet_behind) :=
  ok_gc (ok_fn T.f28.F scquiet_behind fun cdv A outer s H E hr => by
    exact (dss_cons (ds_setLcF 2 rfl scquiet_behind.nd (di_e (de_op op_gAdd (de_v 1) (de_call (okcomes T) fnG_ar (hr.mono (by decide)) (takes_of rfl rfl rfl rfl) T.f11.m T.f11.k T.f11.b (da_cons (de_v 0) (da_cons (de_v 1) da_nil))))) (own := [("time", 3)]) (show BlkOk ["network", "times", "told", "time"] (defScope (top 49)) _ _ from ⟨by rfl, by decide +kernel, by decide +kernel, by decide +kernel, by decide +kernel⟩) (fun _ _ _ _ _ => (dg_n 3 scquiet_behind.nd)) (fun _ _ _ _ _ => (dts_one (dt_cmp op_fIsNot (de_v 3) de_non rfl))) (fun _ _ _ _ _ => (de_v 3)) (sw_true rfl rfl rfl rfl))
  (dss_one (ds_ret (de_if (dt_cmp op_fGt (de_b b_len rfl T.n_len (by decide +kernel) (da_cons (de_v 2) da_nil)) de_int rfl) (de_op op_gAdd (de_b (b_gMax rfl) rfl T.n_max (by decide +kernel) (da_cons (de_v 2) da_nil)) de_int) de_int)))))
theorem sc_law_jar : FnScope ["script", "figures", "brew", "cell", "size", "lap"] ["script"] (defScope (top 51)) := ⟨rfl, rfl, rfl, by decide +kernel, rfl, by decide +kernel, by decide +kernel⟩
theorem ok_law_jar (T : Txt K mg cl ini ifd fa ffd) : FnOk P w K mg base (L2.CX P w) 1 (fa 29) (ffd 29) ["script"] (spI K cl 1 F_law_jar) :=
  ok_gc (ok_fn T.f29.F sc_law_jar fun cdv A outer s H E hr => by
    exact (dss_cons (ds_set 1 sc_law_jar.nd (de_lst da_nil))
  (dss_cons (ds_set 2 sc_law_jar.nd de_int)
  (dss_cons (ds_for (passes_of rfl) rfl (di_e (de_fz (de_sl (de_v 0) do_n (do_e de_int)))) (dg_n 3 sc_law_jar.nd) (dss_cons (ds_set 4 sc_law_jar.nd (de_op op_fMod (de_b b_abs rfl T.n_abs (by decide +kernel) (da_cons (de_ty b_int rfl T.n_int (by decide +kernel) (da_cons (de_v 3) da_nil)) da_nil)) (de_op op_fShl de_int de_int)))
  (dss_cons (ds_set 2 sc_law_jar.nd (de_op op_fMod (de_ty b_int rfl T.n_int (by decide +kernel) (da_cons (de_op op_gAdd (de_op op_gAdd (de_op op_fMul (de_v 2) de_int) (de_op op_fMul (de_op op_fMod (de_ty b_int rfl T.n_int (by decide +kernel) (da_cons (de_v 4) da_nil)) de_int) de_int)) de_int) da_nil)) de_int))
  (dss_one (ds_for (passes_of rfl) rfl (di_r1 rfl T.n_range (da_cons de_int da_nil)) (dg_n 5 sc_law_jar.nd) (dss_cons (ds_if (dt_cmp (op_fEq hr.units) (de_v 4) de_int rfl) (dss_one ds_break) dss_nil)
  (dss_cons (ds_expr (de_mt PySem.F.plainAttrs_list PySem.F.slot_list_append PySem.F.type_list_append m_append ty_list (de_v 1) (da_cons (de_op op_fMod (de_ty b_int rfl T.n_int (by decide +kernel) (da_cons (de_v 4) da_nil)) de_int) da_nil)))
  (dss_one (ds_set 4 sc_law_jar.nd (de_op op_fDiv (de_v 4) de_int))))))))))
  (dss_one (ds_ret (de_lst (da_cons (de_v 2) (da_cons (de_v 1) (da_cons de_int (da_cons (de_op op_fMod (de_ty b_int rfl T.n_int (by decide +kernel) (da_cons (de_op op_fDiv (de_v 2) de_int) da_nil)) de_int) da_nil)))))))))))
theorem sc_law_sip : FnScope ["jar", "place", "many", "worth"] ["jar", "place", "many"] (defScope (top 52)) := ⟨rfl, rfl, rfl, by decide +kernel, rfl, by decide +kernel, by decide +kernel⟩
theorem ok_law_sip (T : Txt K mg cl ini ifd fa ffd) : FnOk P w K mg base (L2.CX P w) 1 (fa 30) (ffd 30) ["jar", "place", "many"] (spI K cl 3 F_law_sip) :=
  ok_gc (ok_fn T.f30.F sc_law_sip fun cdv A outer s H E hr => by
    exact (dss_cons (ds_if (dt_cmp op_fLt (de_v 2) de_int rfl) (dss_one (ds_ret de_int)) dss_nil)
  (dss_cons (ds_puy (hu_of hr) (de_op op_gAdd (de_iy (hu_of hr) (de_v 0) de_int (hs2 := fun _ _ => rfl)) de_int) (de_v 0) de_int)
  (dss_cons (ds_puy (hu_of hr) (de_op op_fMod (de_ty b_int rfl T.n_int (by decide +kernel) (da_cons (de_op op_gAdd (de_op op_gAdd (de_op op_fMul (de_iy (hu_of hr) (de_v 0) de_int (hs2 := fun _ _ => rfl)) de_int) (de_op op_fMul (de_iy (hu_of hr) (de_v 0) de_int (hs2 := fun _ _ => rfl)) de_int)) de_int) da_nil)) de_int) (de_v 0) de_int)
  (dss_cons (ds_set 3 sc_law_sip.nd (de_ty b_int rfl T.n_int (by decide +kernel) (da_cons (de_op op_fDiv (de_iy (hu_of hr) (de_v 0) de_int (hs2 := fun _ _ => rfl)) de_int) da_nil)))
  (dss_cons (ds_if (dt_cmp op_fLe (de_iy (hu_of hr) (de_v 0) de_int (hs2 := fun _ _ => rfl)) (de_b b_len rfl T.n_len (by decide +kernel) (da_cons (de_iy (hu_of hr) (de_v 0) de_int (hs2 := fun _ _ => rfl)) da_nil)) rfl) (dss_one (ds_set 3 sc_law_sip.nd (de_op op_gAdd (de_v 3) (de_ty b_int rfl T.n_int (by decide +kernel) (da_cons (de_iy (hu_of hr) (de_iy (hu_of hr) (de_v 0) de_int (hs2 := fun _ _ => rfl)) (de_op op_fSub (de_iy (hu_of hr) (de_v 0) de_int (hs2 := fun _ _ => rfl)) de_int) (hs2 := fun _ _ => rfl)) da_nil))))) (dss_one (ds_if (DW.t (dw_and (dt_cmp op_fLt (de_iy (hu_of hr) (de_v 0) de_int (hs2 := fun _ _ => rfl)) de_int rfl) (dw_and1 (dt_cmp (op_fEq hr.units) (de_op op_fMod (de_ty b_int rfl T.n_int (by decide +kernel) (da_cons (de_op op_gAdd (de_v 1) (de_iy (hu_of hr) (de_v 0) de_int (hs2 := fun _ _ => rfl))) da_nil)) de_int) de_int rfl)))) (dss_one (ds_set 3 sc_law_sip.nd (de_iy (hu_of hr) (de_tup (da_cons de_int (da_cons (de_op op_fSub (de_v 2) de_int) (da_cons (de_v 1) da_nil)))) (de_iy (hu_of hr) (de_v 0) de_int (hs2 := fun _ _ => rfl)) (hs2 := fun _ _ => rfl)))) dss_nil)))
  (dss_one (ds_ret (de_op op_fMod (de_ty b_int rfl T.n_int (by decide +kernel) (da_cons (de_v 3) da_nil)) (de_v 2))))))))))
theorem sc_law_same : FnScope ["told", "due", "pairs", "at", "one", "other", "k"] ["told", "due"] (defScope (top 53)) := ⟨rfl, rfl, rfl, by decide +kernel, rfl, by decide +kernel, by decide +kernel⟩
theorem ok_law_same (T : Txt K mg cl ini ifd fa ffd) : FnOk P w K mg base (L2.CX P w) 1 (fa 31) (ffd 31) ["told", "due"] (spI K cl 2 F_law_same) :=
  ok_gc (ok_fn T.f31.F sc_law_same fun cdv A outer s H E hr => by
    exact (dss_cons (ds_set 2 sc_law_same.nd (de_lst (da_cons (de_tup (da_cons (de_v 0) (da_cons (de_v 1) da_nil))) da_nil)))
  (dss_cons (ds_set 3 sc_law_same.nd de_int)
  (dss_cons (ds_while (passes_of rfl) (dt_cmp op_fLt (de_v 3) (de_b b_len rfl T.n_len (by decide +kernel) (da_cons (de_v 2) da_nil)) rfl) (dss_cons (ds_as (de_iy (hu_of hr) (de_v 2) (de_v 3) (hs2 := fun _ _ => rfl)) (dg_t rfl (dgs_cons (dg_n 4 sc_law_same.nd) (dgs_cons (dg_n 5 sc_law_same.nd) dgs_nil))))
  (dss_cons (ds_set 3 sc_law_same.nd (de_op op_gAdd (de_v 3) de_int))
  (dss_one (ds_if (dt_tr (de_isi .tuple rfl T.n_isinstance rfl T.n_tuple (by decide +kernel) (de_v 5))) (dss_cons (ds_if (DW.t (dw_or (dt_not (dt_tr (de_isi .tuple rfl T.n_isinstance rfl T.n_tuple (by decide +kernel) (de_v 4)))) (dw_or1 (dt_cmp (op_fNe hr.units) (de_b b_len rfl T.n_len (by decide +kernel) (da_cons (de_v 4) da_nil)) (de_b b_len rfl T.n_len (by decide +kernel) (da_cons (de_v 5) da_nil)) rfl)))) (dss_one (ds_ret de_bl)) dss_nil)
  (dss_one (ds_expr (de_mt PySem.F.plainAttrs_list PySem.F.slot_list_extend PySem.F.type_list_extend m_gExt ty_list (de_v 2) (da_cons (de_fz (de_lc rfl sc_law_same.nd (di_r1 rfl T.n_range (da_cons (de_b b_len rfl T.n_len (by decide +kernel) (da_cons (de_v 5) da_nil)) da_nil)) (own := [("k", 6)]) (show BlkOk ["told", "due", "pairs", "at", "one", "other", "k"] (defScope (top 53)) _ _ from ⟨by rfl, by decide +kernel, by decide +kernel, by decide +kernel, by decide +kernel⟩) (fun _ _ _ _ _ => (dg_n 6 sc_law_same.nd)) (fun _ _ _ _ _ => dts_nil) (fun _ _ _ _ _ => (de_tup (da_cons (de_iy (hu_of hr) (de_v 4) (de_v 6) (hs2 := fun _ _ => rfl)) (da_cons (de_iy (hu_of hr) (de_v 5) (de_v 6) (hs2 := fun _ _ => rfl)) da_nil)))))) da_nil))))) (dss_one (ds_if (dt_cmp op_fIs (de_v 5) de_non rfl) (dss_one (ds_if (dt_cmp op_fIsNot (de_v 4) de_non rfl) (dss_one (ds_ret de_bl)) dss_nil)) (dss_one (ds_if (dt_tr (de_isi .bool rfl T.n_isinstance rfl T.n_bool (by decide +kernel) (de_v 5))) (dss_one (ds_if (DW.t (dw_or (dt_not (dt_tr (de_isi .bool rfl T.n_isinstance rfl T.n_bool (by decide +kernel) (de_v 4)))) (dw_or1 (dt_cmp (op_fNe hr.units) (de_v 4) (de_v 5) rfl)))) (dss_one (ds_ret de_bl)) dss_nil)) (dss_one (ds_if (dt_tr (de_isi .int rfl T.n_isinstance rfl T.n_int (by decide +kernel) (de_v 5))) (dss_one (ds_if (DW.t (dw_or (dt_not (dt_tr (de_isi .int rfl T.n_isinstance rfl T.n_int (by decide +kernel) (de_v 4)))) (dw_or (dt_tr (de_isi .bool rfl T.n_isinstance rfl T.n_bool (by decide +kernel) (de_v 4))) (dw_or1 (dt_cmp (op_fNe hr.units) (de_v 4) (de_v 5) rfl))))) (dss_one (ds_ret de_bl)) dss_nil)) (dss_one (ds_if (DW.t (dw_or (dt_not (dt_tr (de_isi .str rfl T.n_isinstance rfl T.n_str (by decide +kernel) (de_v 4)))) (dw_or1 (dt_cmp (op_fNe hr.units) (de_v 4) (de_v 5) rfl)))) (dss_one (ds_ret de_bl)) dss_nil)))))))))))))
  (dss_one (ds_ret de_bl))))))
theorem sc_law_comes : FnScope ["network", "times", "many", "gates", "came", "k", "lap", "best", "word", "operands", "delay", "there", "one", "time"] ["network", "times"] (defScope (top 54)) := ⟨rfl, rfl, rfl, by decide +kernel, rfl, by decide +kernel, by decide +kernel⟩
theorem ok_law_comes (T : Txt K mg cl ini ifd fa ffd) : FnOk P w K mg base (L2.CX P w) 1 (fa 32) (ffd 32) ["network", "times"] (spI K cl 2 F_law_comes) :=
  ok_gc (ok_fn T.f32.F sc_law_comes fun cdv A outer s H E hr => by
    exact (dss_cons (ds_as (de_v 0) (dg_t rfl (dgs_cons (dg_n 2 sc_law_comes.nd) (dgs_cons (dg_n 3 sc_law_comes.nd) dgs_nil))))
  (dss_cons (ds_set 4 sc_law_comes.nd de_dic0)
  (dss_cons (ds_for (passes_of rfl) rfl (di_r1 rfl T.n_range (da_cons (de_v 2) da_nil)) (dg_n 5 sc_law_comes.nd) (dss_one (ds_if (dt_cmp op_fIsNot (de_iy (hu_of hr) (de_v 1) (de_v 5) (hs2 := fun _ _ => rfl)) de_non rfl) (dss_one (ds_puy (hu_of hr) (de_iy (hu_of hr) (de_v 1) (de_v 5) (hs2 := fun _ _ => rfl)) (de_v 4) (de_v 5))) dss_nil)))
  (dss_cons (ds_for (passes_of rfl) rfl (di_r1 rfl T.n_range (da_cons (de_op op_gAdd (de_b b_len rfl T.n_len (by decide +kernel) (da_cons (de_v 3) da_nil)) de_int) da_nil)) (dg_n 6 sc_law_comes.nd) (dss_cons (ds_set 7 sc_law_comes.nd de_non)
  (dss_cons (ds_for (passes_of rfl) rfl (di_r1 rfl T.n_range (da_cons (de_b b_len rfl T.n_len (by decide +kernel) (da_cons (de_v 3) da_nil)) da_nil)) (dg_n 5 sc_law_comes.nd) (dss_cons (ds_as (de_iy (hu_of hr) (de_v 3) (de_v 5) (hs2 := fun _ _ => rfl)) (dg_t rfl (dgs_cons (dg_n 8 sc_law_comes.nd) (dgs_cons (dg_n 9 sc_law_comes.nd) (dgs_cons (dg_n 10 sc_law_comes.nd) dgs_nil)))))
  (dss_cons (ds_setLcF 11 rfl sc_law_comes.nd (di_e (de_v 9)) (own := [("one", 12)]) (show BlkOk ["network", "times", "many", "gates", "came", "k", "lap", "best", "word", "operands", "delay", "there", "one", "time"] (defScope (top 54)) _ _ from ⟨by rfl, by decide +kernel, by decide +kernel, by decide +kernel, by decide +kernel⟩) (fun _ _ _ _ _ => (dg_n 12 sc_law_comes.nd)) (fun _ _ _ _ _ => (dts_one (dt_cmp (op_fIn (hu_of hr)) (de_v 12) (de_v 4) rfl))) (fun _ _ _ _ _ => (de_iy (hu_of hr) (de_v 4) (de_v 12) (hs2 := fun _ _ => rfl))) (sw_true rfl rfl rfl rfl))
  (dss_cons (ds_if (DW.t (dw_or (dt_cmp (op_fIn (hu_of hr)) (de_op op_gAdd (de_v 2) (de_v 5)) (de_v 4) rfl) (dw_or (dt_cmp (op_fEq hr.units) (de_b b_len rfl T.n_len (by decide +kernel) (da_cons (de_v 11) da_nil)) de_int rfl) (dw_or1 (DW.t (dw_and (dt_cmp (op_fEq hr.units) (de_v 8) de_str rfl) (dw_and1 (dt_cmp op_fLt (de_b b_len rfl T.n_len (by decide +kernel) (da_cons (de_v 11) da_nil)) (de_b b_len rfl T.n_len (by decide +kernel) (da_cons (de_v 9) da_nil)) rfl)))))))) (dss_one ds_continue) dss_nil)
  (dss_cons (ds_set 13 sc_law_comes.nd (de_op op_gAdd (de_v 10) (de_if (dt_cmp (op_fEq hr.units) (de_v 8) de_str rfl) (de_b (b_gMin rfl hr.units) rfl T.n_min (by decide +kernel) (da_cons (de_v 11) da_nil)) (de_b (b_gMax rfl) rfl T.n_max (by decide +kernel) (da_cons (de_v 11) da_nil)))))
  (dss_one (ds_if (DW.t (dw_or (dt_cmp op_fIs (de_v 7) de_non rfl) (dw_or1 (dt_cmp op_fLt (de_v 13) (de_iy (hu_of hr) (de_v 7) de_int (hs2 := fun _ _ => rfl)) rfl)))) (dss_one (ds_set 7 sc_law_comes.nd (de_tup (da_cons (de_v 13) (da_cons (de_op op_gAdd (de_v 2) (de_v 5)) da_nil))))) dss_nil)))))))
  (dss_cons (ds_if (dt_cmp op_fIs (de_v 7) de_non rfl) (dss_one ds_break) dss_nil)
  (dss_one (ds_puy (hu_of hr) (de_iy (hu_of hr) (de_v 7) de_int (hs2 := fun _ _ => rfl)) (de_v 4) (de_iy (hu_of hr) (de_v 7) de_int (hs2 := fun _ _ => rfl))))))))
  (dss_one (ds_ret (de_ty b_tup rfl T.n_tuple (by decide +kernel) (da_cons (de_fz (de_lc rfl sc_law_comes.nd (di_r1 rfl T.n_range (da_cons (de_b b_len rfl T.n_len (by decide +kernel) (da_cons (de_v 3) da_nil)) da_nil)) (own := [("k", 5)]) (show BlkOk ["network", "times", "many", "gates", "came", "k", "lap", "best", "word", "operands", "delay", "there", "one", "time"] (defScope (top 54)) _ _ from ⟨by rfl, by decide +kernel, by decide +kernel, by decide +kernel, by decide +kernel⟩) (fun _ _ _ _ _ => (dg_n 5 sc_law_comes.nd)) (fun _ _ _ _ _ => dts_nil) (fun _ _ _ _ _ => (de_get (hu_of hr) (de_v 4) (de_op op_gAdd (de_v 2) (de_v 5)) ⟨by rfl, by rfl, by rfl, by rfl⟩)))) da_nil)))))))))
theorem sc_law_gate : FnScope ["jar", "many", "gates", "at", "form", "word", "delay", "ahead", "more", "room", "operands", "lap"] ["jar", "many", "gates", "at", "form"] (defScope (top 55)) := ⟨rfl, rfl, rfl, by decide +kernel, rfl, by decide +kernel, by decide +kernel⟩
theorem ok_law_gate (T : Txt K mg cl ini ifd fa ffd) : FnOk P w K mg base (L2.CX P w) 2 (fa 33) (ffd 33) ["jar", "many", "gates", "at", "form"] (spI K cl 5 F_law_gate) :=
  ok_gc (ok_fn T.f33.F sc_law_gate fun cdv A outer s H E hr => by
    exact (dss_cons (ds_par 5 6 rfl sc_law_gate.nd (da_cons (de_iy (hu_of hr) (de_tup (da_cons de_str (da_cons de_str da_nil))) (de_call (ok_law_sip T) fnG_ar (hr.mono (by decide)) (takes_of rfl rfl rfl rfl) T.f30.m T.f30.k T.f30.b (da_cons (de_v 0) (da_cons de_int (da_cons de_int da_nil)))) (hs2 := fun _ _ => rfl)) (da_cons (de_iy (hu_of hr) (de_tup (da_cons de_int (da_cons de_int (da_cons de_int (da_cons de_int (da_cons de_int (da_cons de_int da_nil))))))) (de_call (ok_law_sip T) fnG_ar (hr.mono (by decide)) (takes_of rfl rfl rfl rfl) T.f30.m T.f30.k T.f30.b (da_cons (de_v 0) (da_cons de_int (da_cons de_int da_nil)))) (hs2 := fun _ _ => rfl)) da_nil)))
  (dss_cons (ds_if (dt_cmp (op_fEq hr.units) (de_v 4) de_int rfl) (dss_cons (ds_set 7 sc_law_gate.nd (de_if (dt_cmp op_fGt (de_v 3) de_int rfl) (de_op op_fSub (de_op op_gAdd (de_v 1) (de_v 3)) de_int) (de_op op_fSub (de_op op_gAdd (de_v 1) (de_v 2)) de_int)))
  (dss_cons (ds_set 8 sc_law_gate.nd (de_if (dt_cmp (op_fEq hr.units) (de_call (ok_law_sip T) fnG_ar (hr.mono (by decide)) (takes_of rfl rfl rfl rfl) T.f30.m T.f30.k T.f30.b (da_cons (de_v 0) (da_cons de_int (da_cons de_int da_nil)))) de_int rfl) (de_tup (da_cons (de_call (ok_law_sip T) fnG_ar (hr.mono (by decide)) (takes_of rfl rfl rfl rfl) T.f30.m T.f30.k T.f30.b (da_cons (de_v 0) (da_cons de_int (da_cons (de_v 1) da_nil)))) da_nil)) (de_tup da_nil)))
  (dss_one (ds_ret (de_tup (da_cons (de_v 5) (da_cons (de_op op_gAdd (de_tup (da_cons (de_v 7) da_nil)) (de_v 8)) (da_cons (de_v 6) da_nil)))))))) dss_nil)
  (dss_cons (ds_if (dt_cmp (op_fEq hr.units) (de_v 4) de_int rfl) (dss_one (ds_ret (de_tup (da_cons (de_v 5) (da_cons (de_tup (da_cons (de_if (dt_cmp op_fGt (de_v 3) de_int rfl) (de_op op_fSub (de_op op_gAdd (de_v 1) (de_v 3)) de_int) (de_call (ok_law_sip T) fnG_ar (hr.mono (by decide)) (takes_of rfl rfl rfl rfl) T.f30.m T.f30.k T.f30.b (da_cons (de_v 0) (da_cons de_int (da_cons (de_v 1) da_nil))))) da_nil)) (da_cons (de_v 6) da_nil)))))) dss_nil)
  (dss_cons (ds_set 9 sc_law_gate.nd (de_if (dt_cmp (op_fEq hr.units) (de_v 4) de_int rfl) (de_op op_gAdd (de_v 1) (de_v 3)) (de_op op_gAdd (de_v 1) (de_v 2))))
  (dss_cons (ds_set 10 sc_law_gate.nd (de_ty b_tup rfl T.n_tuple (by decide +kernel) (da_cons (de_fz (de_lc rfl sc_law_gate.nd (di_r1 rfl T.n_range (da_cons (de_op op_gAdd de_int (de_call (ok_law_sip T) fnG_ar (hr.mono (by decide)) (takes_of rfl rfl rfl rfl) T.f30.m T.f30.k T.f30.b (da_cons (de_v 0) (da_cons de_int (da_cons de_int da_nil))))) da_nil)) (own := [("lap", 11)]) (show BlkOk ["jar", "many", "gates", "at", "form", "word", "delay", "ahead", "more", "room", "operands", "lap"] (defScope (top 55)) _ _ from ⟨by rfl, by decide +kernel, by decide +kernel, by decide +kernel, by decide +kernel⟩) (fun _ _ _ _ _ => (dg_n 11 sc_law_gate.nd)) (fun _ _ _ _ _ => dts_nil) (fun _ _ _ _ _ => (de_call (ok_law_sip T) fnG_ar (hr.mono (by decide)) takes0 T.f30.m T.f30.k T.f30.b (da_cons (de_v 0) (da_cons de_int (da_cons (de_v 9) da_nil))))))) da_nil)))
  (dss_one (ds_ret (de_tup (da_cons (de_v 5) (da_cons (de_v 10) (da_cons (de_v 6) da_nil))))))))))))
theorem sc_law_network : FnScope ["jar", "most", "many", "gates", "form", "told", "at"] ["jar", "most"] (defScope (top 56)) := ⟨rfl, rfl, rfl, by decide +kernel, rfl, by decide +kernel, by decide +kernel⟩
theorem ok_law_network (T : Txt K mg cl ini ifd fa ffd) : FnOk P w K mg base (L2.CX P w) 3 (fa 34) (ffd 34) ["jar", "most"] (spI K cl 2 F_law_network) :=
  ok_gc (ok_fn T.f34.F sc_law_network fun cdv A outer s H E hr => by
    exact (dss_cons (ds_par 2 3 rfl sc_law_network.nd (da_cons (de_op op_gAdd de_int (de_call (ok_law_sip T) fnG_ar (hr.mono (by decide)) (takes_of rfl rfl rfl rfl) T.f30.m T.f30.k T.f30.b (da_cons (de_v 0) (da_cons de_int (da_cons de_int da_nil))))) (da_cons (de_op op_gAdd de_int (de_call (ok_law_sip T) fnG_ar (hr.mono (by decide)) (takes_of rfl rfl rfl rfl) T.f30.m T.f30.k T.f30.b (da_cons (de_v 0) (da_cons de_int (da_cons (de_v 1) da_nil))))) da_nil)))
  (dss_cons (ds_set 4 sc_law_network.nd (de_call (ok_law_sip T) fnG_ar (hr.mono (by decide)) (takes_of rfl rfl rfl rfl) T.f30.m T.f30.k T.f30.b (da_cons (de_v 0) (da_cons de_int (da_cons de_int da_nil)))))
  (dss_cons (ds_set 5 sc_law_network.nd (de_lst da_nil))
  (dss_cons (ds_for (passes_of rfl) rfl (di_r1 rfl T.n_range (da_cons (de_v 3) da_nil)) (dg_n 6 sc_law_network.nd) (dss_one (ds_expr (de_mt PySem.F.plainAttrs_list PySem.F.slot_list_append PySem.F.type_list_append m_append ty_list (de_v 5) (da_cons (de_call (ok_law_gate T) fnG_ar (hr.mono (by decide)) (takes_of rfl rfl rfl rfl) T.f33.m T.f33.k T.f33.b (da_cons (de_v 0) (da_cons (de_v 2) (da_cons (de_v 3) (da_cons (de_v 6) (da_cons (de_if (dt_cmp op_fGt (de_call (ok_law_sip T) fnG_ar (hr.mono (by decide)) (takes_of rfl rfl rfl rfl) T.f30.m T.f30.k T.f30.b (da_cons (de_v 0) (da_cons de_int (da_cons de_int da_nil)))) de_int rfl) (de_v 4) de_int) da_nil)))))) da_nil)))))
  (dss_one (ds_ret (de_tup (da_cons (de_v 2) (da_cons (de_ty b_tup rfl T.n_tuple (by decide +kernel) (da_cons (de_v 5) da_nil)) da_nil))))))))))
theorem sc_law_needed : FnScope ["network", "starts", "many", "gates", "told", "at", "one"] ["network", "starts"] (defScope (top 57)) := ⟨rfl, rfl, rfl, by decide +kernel, rfl, by decide +kernel, by decide +kernel⟩
theorem ok_law_needed (T : Txt K mg cl ini ifd fa ffd) : FnOk P w K mg base (L2.CX P w) 1 (fa 35) (ffd 35) ["network", "starts"] (spI K cl 2 F_law_needed) :=
  ok_gc (ok_fn T.f35.F sc_law_needed fun cdv A outer s H E hr => by
    exact (dss_cons (ds_as (de_v 0) (dg_t rfl (dgs_cons (dg_n 2 sc_law_needed.nd) (dgs_cons (dg_n 3 sc_law_needed.nd) dgs_nil))))
  (dss_cons (ds_set 4 sc_law_needed.nd (de_ty (b_list rfl) rfl T.n_list (by decide +kernel) (da_cons (de_v 1) da_nil)))
  (dss_cons (ds_set 5 sc_law_needed.nd de_int)
  (dss_cons (ds_while (passes_of rfl) (dt_cmp op_fLt (de_v 5) (de_b b_len rfl T.n_len (by decide +kernel) (da_cons (de_v 4) da_nil)) rfl) (dss_cons (ds_for (passes_of rfl) rfl (di_e (de_iy (hu_of hr) (de_iy (hu_of hr) (de_v 3) (de_iy (hu_of hr) (de_v 4) (de_v 5) (hs2 := fun _ _ => rfl)) (hs2 := fun _ _ => rfl)) de_int (hs2 := fun _ _ => rfl))) (dg_n 6 sc_law_needed.nd) (dss_one (ds_if (DW.t (dw_and (dt_cmp op_fGe (de_v 6) (de_v 2) rfl) (dw_and1 (dt_cmp (op_fNotIn (hu_of hr)) (de_op op_fSub (de_v 6) (de_v 2)) (de_v 4) rfl)))) (dss_one (ds_expr (de_mt PySem.F.plainAttrs_list PySem.F.slot_list_append PySem.F.type_list_append m_append ty_list (de_v 4) (da_cons (de_op op_fSub (de_v 6) (de_v 2)) da_nil)))) dss_nil)))
  (dss_one (ds_set 5 sc_law_needed.nd (de_op op_gAdd (de_v 5) de_int)))))
  (dss_one (ds_ret (de_ty b_tup rfl T.n_tuple (by decide +kernel) (da_cons (de_fz (de_b (b_gSorted rfl hr.units) rfl T.n_sorted (by decide +kernel) (da_cons (de_v 4) da_nil))) da_nil)))))))))
theorem sc_law_loops : FnScope ["network", "many", "gates", "told", "k", "starts", "one"] ["network"] (defScope (top 58)) := ⟨rfl, rfl, rfl, by decide +kernel, rfl, by decide +kernel, by decide +kernel⟩
theorem ok_law_loops (T : Txt K mg cl ini ifd fa ffd) : FnOk P w K mg base (L2.CX P w) 2 (fa 36) (ffd 36) ["network"] (spI K cl 1 F_law_loops) :=
  ok_gc (ok_fn T.f36.F sc_law_loops fun cdv A outer s H E hr => by
    exact (dss_cons (ds_as (de_v 0) (dg_t rfl (dgs_cons (dg_n 1 sc_law_loops.nd) (dgs_cons (dg_n 2 sc_law_loops.nd) dgs_nil))))
  (dss_cons (ds_set 3 sc_law_loops.nd (de_lst da_nil))
  (dss_cons (ds_for (passes_of rfl) rfl (di_r1 rfl T.n_range (da_cons (de_b b_len rfl T.n_len (by decide +kernel) (da_cons (de_v 2) da_nil)) da_nil)) (dg_n 4 sc_law_loops.nd) (dss_cons (ds_set 5 sc_law_loops.nd (de_lst da_nil))
  (dss_cons (ds_for (passes_of rfl) rfl (di_e (de_iy (hu_of hr) (de_iy (hu_of hr) (de_v 2) (de_v 4) (hs2 := fun _ _ => rfl)) de_int (hs2 := fun _ _ => rfl))) (dg_n 6 sc_law_loops.nd) (dss_one (ds_if (DW.t (dw_and (dt_cmp op_fGe (de_v 6) (de_v 1) rfl) (dw_and1 (dt_cmp (op_fNotIn (hu_of hr)) (de_op op_fSub (de_v 6) (de_v 1)) (de_v 5) rfl)))) (dss_one (ds_expr (de_mt PySem.F.plainAttrs_list PySem.F.slot_list_append PySem.F.type_list_append m_append ty_list (de_v 5) (da_cons (de_op op_fSub (de_v 6) (de_v 1)) da_nil)))) dss_nil)))
  (dss_one (ds_if (dt_cmp (op_fIn (hu_of hr)) (de_v 4) (de_call (ok_law_needed T) fnG_ar (hr.mono (by decide)) (takes_of rfl rfl rfl rfl) T.f35.m T.f35.k T.f35.b (da_cons (de_v 0) (da_cons (de_v 5) da_nil))) rfl) (dss_one (ds_expr (de_mt PySem.F.plainAttrs_list PySem.F.slot_list_append PySem.F.type_list_append m_append ty_list (de_v 3) (da_cons (de_v 4) da_nil)))) dss_nil)))))
  (dss_one (ds_ret (de_ty b_tup rfl T.n_tuple (by decide +kernel) (da_cons (de_v 3) da_nil))))))))
theorem sc_law_trimmed : FnScope ["network", "needed", "many", "gates", "told", "k", "word", "operands", "delay", "one"] ["network", "needed"] (defScope (top 59)) := ⟨rfl, rfl, rfl, by decide +kernel, rfl, by decide +kernel, by decide +kernel⟩
theorem ok_law_trimmed (T : Txt K mg cl ini ifd fa ffd) : FnOk P w K mg base (L2.CX P w) 1 (fa 37) (ffd 37) ["network", "needed"] (spI K cl 2 F_law_trimmed) :=
  ok_gc (ok_fn T.f37.F sc_law_trimmed fun cdv A outer s H E hr => by
    exact (dss_cons (ds_as (de_v 0) (dg_t rfl (dgs_cons (dg_n 2 sc_law_trimmed.nd) (dgs_cons (dg_n 3 sc_law_trimmed.nd) dgs_nil))))
  (dss_cons (ds_set 4 sc_law_trimmed.nd (de_lst da_nil))
  (dss_cons (ds_for (passes_of rfl) rfl (di_e (de_v 1)) (dg_n 5 sc_law_trimmed.nd) (dss_cons (ds_as (de_iy (hu_of hr) (de_v 3) (de_v 5) (hs2 := fun _ _ => rfl)) (dg_t rfl (dgs_cons (dg_n 6 sc_law_trimmed.nd) (dgs_cons (dg_n 7 sc_law_trimmed.nd) (dgs_cons (dg_n 8 sc_law_trimmed.nd) dgs_nil)))))
  (dss_one (ds_expr (de_mt PySem.F.plainAttrs_list PySem.F.slot_list_append PySem.F.type_list_append m_append ty_list (de_v 4) (da_cons (de_tup (da_cons (de_v 6) (da_cons (de_ty b_tup rfl T.n_tuple (by decide +kernel) (da_cons (de_fz (de_lc rfl sc_law_trimmed.nd (di_e (de_v 7)) (own := [("one", 9)]) (show BlkOk ["network", "needed", "many", "gates", "told", "k", "word", "operands", "delay", "one"] (defScope (top 59)) _ _ from ⟨by rfl, by decide +kernel, by decide +kernel, by decide +kernel, by decide +kernel⟩) (fun _ _ _ _ _ => (dg_n 9 sc_law_trimmed.nd)) (fun _ _ _ _ _ => dts_nil) (fun _ _ _ _ _ => (de_if (dt_cmp op_fLt (de_v 9) (de_v 2) rfl) (de_v 9) (de_op op_gAdd (de_v 2) (de_mtt PySem.F.plainAttrs_tuple PySem.F.slot_tuple_index PySem.F.type_tuple_index m_tix (de_v 1) (da_cons (de_op op_fSub (de_v 9) (de_v 2)) da_nil))))))) da_nil)) (da_cons (de_v 8) da_nil)))) da_nil))))))
  (dss_one (ds_ret (de_tup (da_cons (de_v 2) (da_cons (de_ty b_tup rfl T.n_tuple (by decide +kernel) (da_cons (de_v 4) da_nil)) da_nil)))))))))
theorem sc_law_users : FnScope ["network", "number", "error"] ["network", "number"] (defScope (top 60)) := ⟨rfl, rfl, rfl, by decide +kernel, rfl, by decide +kernel, by decide +kernel⟩
theorem ok_law_users (T : Txt K mg cl ini ifd fa ffd) : FnOk P w K mg base (L2.CX P w) 5 (fa 38) (ffd 38) ["network", "number"] (spI K cl 2 F_law_users) :=
  ok_gc (ok_fn T.f38.F sc_law_users fun cdv A outer s H E hr => by
    exact (dss_one (ds_try T.fam.sub sc_law_users.nd (takes_of rfl rfl rfl rfl) (fun W2 pn xe t2 po => (dss_one (ds_ret (de_tup (da_cons de_str (da_cons (de_call (okusers_of T) fnG_ar (hr.mono (by decide)) t2 T.f13.m T.f13.k T.f13.b (da_cons (de_v 0) (da_cons (de_v 1) da_nil))) da_nil)))))) (DHds.cons ⟨rfl, by decide, Or.inl T.m_BadStep⟩ ⟨rfl, rfl⟩ (fun a pn => (dss_one (ds_ret (de_tup (da_cons de_str (da_cons (de_xr (T.xat_word) (de_v 2)) da_nil)))))) (DHds.cons ⟨rfl, by decide, Or.inl T.m_LastError⟩ True.intro (fun a pn => (dss_one (ds_ret (de_tup (da_cons de_str da_nil))))) DHds.nil)))))
theorem sc_law_beside : FnScope ["one", "other", "error"] ["one", "other"] (defScope (top 61)) := ⟨rfl, rfl, rfl, by decide +kernel, rfl, by decide +kernel, by decide +kernel⟩
theorem ok_law_beside (T : Txt K mg cl ini ifd fa ffd) : FnOk P w K mg base (L2.CX P w) 4 (fa 39) (ffd 39) ["one", "other"] (spI K cl 2 F_law_beside) :=
  ok_gc (ok_fn T.f39.F sc_law_beside fun cdv A outer s H E hr => by
    exact (dss_one (ds_try T.fam.sub sc_law_beside.nd (takes_of rfl rfl rfl rfl) (fun W2 pn xe t2 po => (dss_one (ds_ret (de_tup (da_cons de_str (da_cons (de_call (okbeside_networks T) fnG_ar (hr.mono (by decide)) t2 T.f22.m T.f22.k T.f22.b (da_cons (de_v 0) (da_cons (de_v 1) da_nil))) da_nil)))))) (DHds.cons ⟨rfl, by decide, Or.inl T.m_BadStep⟩ ⟨rfl, rfl⟩ (fun a pn => (dss_one (ds_ret (de_tup (da_cons de_str (da_cons (de_xr (T.xat_word) (de_v 2)) da_nil)))))) (DHds.cons ⟨rfl, by decide, Or.inl T.m_LastError⟩ True.intro (fun a pn => (dss_one (ds_ret (de_tup (da_cons de_str da_nil))))) DHds.nil)))))
theorem sc_law_times : FnScope ["jar", "many", "lap"] ["jar", "many"] (defScope (top 62)) := ⟨rfl, rfl, rfl, by decide +kernel, rfl, by decide +kernel, by decide +kernel⟩
theorem ok_law_times (T : Txt K mg cl ini ifd fa ffd) : FnOk P w K mg base (L2.CX P w) 2 (fa 40) (ffd 40) ["jar", "many"] (spI K cl 2 F_law_times) :=
  ok_gc (ok_fn T.f40.F sc_law_times fun cdv A outer s H E hr => by
    exact (dss_one (ds_ret (de_ty b_tup rfl T.n_tuple (by decide +kernel) (da_cons (de_fz (de_lc rfl sc_law_times.nd (di_r1 rfl T.n_range (da_cons (de_v 1) da_nil)) (own := [("lap", 2)]) (show BlkOk ["jar", "many", "lap"] (defScope (top 62)) _ _ from ⟨by rfl, by decide +kernel, by decide +kernel, by decide +kernel, by decide +kernel⟩) (fun _ _ _ _ _ => (dg_n 2 sc_law_times.nd)) (fun _ _ _ _ _ => dts_nil) (fun _ _ _ _ _ => (de_iy (hu_of hr) (de_tup (da_cons de_non (da_cons de_int (da_cons de_int (da_cons de_int (da_cons de_int (da_cons de_int da_nil))))))) (de_call (ok_law_sip T) fnG_ar (hr.mono (by decide)) takes0 T.f30.m T.f30.k T.f30.b (da_cons (de_v 0) (da_cons de_int (da_cons de_int da_nil)))) (hs2 := fun _ _ => rfl))))) da_nil)))))
theorem sc_law_looks : FnScope ["jar", "network", "many", "gates", "number", "due", "k", "odd", "loops", "report", "starts", "lap", "needed", "small"] ["jar", "network"] (defScope (top 63)) := ⟨rfl, rfl, rfl, by decide +kernel, rfl, by decide +kernel, by decide +kernel⟩
theorem ok_law_looks (T : Txt K mg cl ini ifd fa ffd) : FnOk P w K mg base (L2.CX P w) 6 (fa 41) (ffd 41) ["jar", "network"] (spI K cl 2 F_law_looks) :=
  ok_gc (ok_fn T.f41.F sc_law_looks fun cdv A outer s H E hr => by
    exact (dss_cons (ds_as (de_v 1) (dg_t rfl (dgs_cons (dg_n 2 sc_law_looks.nd) (dgs_cons (dg_n 3 sc_law_looks.nd) dgs_nil))))
  (dss_cons (ds_for (passes_of rfl) rfl (di_r1 rfl T.n_range (da_cons (de_op op_gAdd (de_v 2) (de_b b_len rfl T.n_len (by decide +kernel) (da_cons (de_v 3) da_nil))) da_nil)) (dg_n 4 sc_law_looks.nd) (dss_cons (ds_set 5 sc_law_looks.nd (de_ty b_tup rfl T.n_tuple (by decide +kernel) (da_cons (de_fz (de_lc rfl sc_law_looks.nd (di_r1 rfl T.n_range (da_cons (de_b b_len rfl T.n_len (by decide +kernel) (da_cons (de_v 3) da_nil)) da_nil)) (own := [("k", 6)]) (show BlkOk ["jar", "network", "many", "gates", "number", "due", "k", "odd", "loops", "report", "starts", "lap", "needed", "small"] (defScope (top 63)) _ _ from ⟨by rfl, by decide +kernel, by decide +kernel, by decide +kernel, by decide +kernel⟩) (fun _ _ _ _ _ => (dg_n 6 sc_law_looks.nd)) (fun _ _ _ _ _ => (dts_one (dt_cmp (op_fIn (hu_of hr)) (de_v 4) (de_iy (hu_of hr) (de_iy (hu_of hr) (de_v 3) (de_v 6) (hs2 := fun _ _ => rfl)) de_int (hs2 := fun _ _ => rfl)) rfl))) (fun _ _ _ _ _ => (de_v 6)))) da_nil)))
  (dss_one (ds_if (dt_not (dt_tr (de_call (ok_law_same T) fnG_ar (hr.mono (by decide)) (takes_of rfl rfl rfl rfl) T.f31.m T.f31.k T.f31.b (da_cons (de_call (ok_law_users T) fnG_ar (hr.mono (by decide)) (takes_of rfl rfl rfl rfl) T.f38.m T.f38.k T.f38.b (da_cons (de_v 1) (da_cons (de_v 4) da_nil))) (da_cons (de_tup (da_cons de_str (da_cons (de_v 5) da_nil))) da_nil))))) (dss_one (ds_ret de_bl)) dss_nil))))
  (dss_cons (ds_set 7 sc_law_looks.nd (de_iy (hu_of hr) (de_tup (da_cons (de_op op_gAdd (de_v 2) (de_b b_len rfl T.n_len (by decide +kernel) (da_cons (de_v 3) da_nil))) (da_cons (de_neg de_int) (da_cons de_non (da_cons de_bl (da_cons de_str (da_cons (de_op op_fPow de_int de_int) da_nil))))))) (de_call (ok_law_sip T) fnG_ar (hr.mono (by decide)) (takes_of rfl rfl rfl rfl) T.f30.m T.f30.k T.f30.b (da_cons (de_v 0) (da_cons de_int (da_cons de_int da_nil)))) (hs2 := fun _ _ => rfl)))
  (dss_cons (ds_if (dt_not (dt_tr (de_call (ok_law_same T) fnG_ar (hr.mono (by decide)) (takes_of rfl rfl rfl rfl) T.f31.m T.f31.k T.f31.b (da_cons (de_callK0 (ks := ["number", "network"]) (ok_law_users T) fnG_ar (hr.mono (by decide)) (takes_of rfl rfl rfl rfl) T.f38.m T.f38.k (T.kf0) (dk_cons (de_v 7) (dk_cons (de_v 1) dk_nil))) (da_cons (de_tup (da_cons de_str (da_cons de_str da_nil))) da_nil))))) (dss_one (ds_ret de_bl)) dss_nil)
  (dss_cons (ds_set 8 sc_law_looks.nd (de_call (ok_law_loops T) fnG_ar (hr.mono (by decide)) (takes_of rfl rfl rfl rfl) T.f36.m T.f36.k T.f36.b (da_cons (de_v 1) da_nil)))
  (dss_cons (ds_set 9 sc_law_looks.nd (de_op op_gAdd (de_op op_gAdd (de_op op_gAdd (de_op op_gAdd (de_op op_gAdd de_str (de_ty b_str rfl T.n_str (by decide +kernel) (da_cons (de_v 2) da_nil))) de_str) (de_ty b_str rfl T.n_str (by decide +kernel) (da_cons (de_b b_len rfl T.n_len (by decide +kernel) (da_cons (de_v 3) da_nil)) da_nil))) de_str) (de_ty b_str rfl T.n_str (by decide +kernel) (da_cons (de_b b_len rfl T.n_len (by decide +kernel) (da_cons (de_v 8) da_nil)) da_nil))))
  (dss_cons (ds_if (dt_not (dt_tr (de_call (ok_law_same T) fnG_ar (hr.mono (by decide)) (takes_of rfl rfl rfl rfl) T.f31.m T.f31.k T.f31.b (da_cons (de_tup (da_cons (de_call (okgates_in_loops T) fnG_ar (hr.mono (by decide)) (takes_of rfl rfl rfl rfl) T.f16.m T.f16.k T.f16.b (da_cons (de_v 1) da_nil)) (da_cons (de_call (oknetwork_report T) fnG_ar (hr.mono (by decide)) (takes_of rfl rfl rfl rfl) T.f27.m T.f27.k T.f27.b (da_cons (de_v 1) da_nil)) da_nil))) (da_cons (de_tup (da_cons (de_v 8) (da_cons (de_v 9) da_nil))) da_nil))))) (dss_one (ds_ret de_bl)) dss_nil)
  (dss_cons (ds_set 10 sc_law_looks.nd (de_ty b_tup rfl T.n_tuple (by decide +kernel) (da_cons (de_fz (de_lc rfl sc_law_looks.nd (di_r1 rfl T.n_range (da_cons (de_op op_gAdd de_int (de_call (ok_law_sip T) fnG_ar (hr.mono (by decide)) (takes_of rfl rfl rfl rfl) T.f30.m T.f30.k T.f30.b (da_cons (de_v 0) (da_cons de_int (da_cons de_int da_nil))))) da_nil)) (own := [("lap", 11)]) (show BlkOk ["jar", "network", "many", "gates", "number", "due", "k", "odd", "loops", "report", "starts", "lap", "needed", "small"] (defScope (top 63)) _ _ from ⟨by rfl, by decide +kernel, by decide +kernel, by decide +kernel, by decide +kernel⟩) (fun _ _ _ _ _ => (dg_n 11 sc_law_looks.nd)) (fun _ _ _ _ _ => dts_nil) (fun _ _ _ _ _ => (de_call (ok_law_sip T) fnG_ar (hr.mono (by decide)) takes0 T.f30.m T.f30.k T.f30.b (da_cons (de_v 0) (da_cons de_int (da_cons (de_b b_len rfl T.n_len (by decide +kernel) (da_cons (de_v 3) da_nil)) da_nil))))))) da_nil)))
  (dss_cons (ds_set 12 sc_law_looks.nd (de_call (ok_law_needed T) fnG_ar (hr.mono (by decide)) (takes_of rfl rfl rfl rfl) T.f35.m T.f35.k T.f35.b (da_cons (de_v 1) (da_cons (de_fz (de_srtset rfl rfl T.n_sorted rfl T.n_set (de_v 10))) da_nil))))
  (dss_cons (ds_set 13 sc_law_looks.nd (de_call (ok_law_trimmed T) fnG_ar (hr.mono (by decide)) (takes_of rfl rfl rfl rfl) T.f37.m T.f37.k T.f37.b (da_cons (de_v 1) (da_cons (de_v 12) da_nil))))
  (dss_cons (ds_if (dt_not (dt_tr (de_call (ok_law_same T) fnG_ar (hr.mono (by decide)) (takes_of rfl rfl rfl rfl) T.f31.m T.f31.k T.f31.b (da_cons (de_tup (da_cons (de_call (okneeded_for T) fnG_ar (hr.mono (by decide)) (takes_of rfl rfl rfl rfl) T.f15.m T.f15.k T.f15.b (da_cons (de_v 1) (da_cons (de_v 10) da_nil))) (da_cons (de_call (okneeded_for T) fnG_ar (hr.mono (by decide)) (takes_of rfl rfl rfl rfl) T.f15.m T.f15.k T.f15.b (da_cons (de_v 1) (da_cons (de_tup da_nil) da_nil))) (da_cons (de_callK0 (ks := ["gates", "network"]) (oktrimmed_network T) fnG_ar (hr.mono (by decide)) (takes_of rfl rfl rfl rfl) T.f23.m T.f23.k (T.kf1) (dk_cons (de_v 10) (dk_cons (de_v 1) dk_nil))) da_nil)))) (da_cons (de_tup (da_cons (de_v 12) (da_cons (de_tup da_nil) (da_cons (de_v 13) da_nil)))) da_nil))))) (dss_one (ds_ret de_bl)) dss_nil)
  (dss_one (ds_ret (de_call (ok_law_same T) fnG_ar (hr.mono (by decide)) (takes_of rfl rfl rfl rfl) T.f31.m T.f31.k T.f31.b (da_cons (de_tup (da_cons (de_call (okgates_in_loops T) fnG_ar (hr.mono (by decide)) (takes_of rfl rfl rfl rfl) T.f16.m T.f16.k T.f16.b (da_cons (de_v 13) da_nil)) (da_cons (de_call (okcheck_network T) fnG_ar (hr.mono (by decide)) (takes_of rfl rfl rfl rfl) T.f19.m T.f19.k T.f19.b (da_cons (de_v 13) da_nil)) da_nil))) (da_cons (de_tup (da_cons (de_ty b_tup rfl T.n_tuple (by decide +kernel) (da_cons (de_fz (de_lc rfl sc_law_looks.nd (di_e (de_v 8)) (own := [("k", 6)]) (show BlkOk ["jar", "network", "many", "gates", "number", "due", "k", "odd", "loops", "report", "starts", "lap", "needed", "small"] (defScope (top 63)) _ _ from ⟨by rfl, by decide +kernel, by decide +kernel, by decide +kernel, by decide +kernel⟩) (fun _ _ _ _ _ => (dg_n 6 sc_law_looks.nd)) (fun _ _ _ _ _ => (dts_one (dt_cmp (op_fIn (hu_of hr)) (de_v 6) (de_v 12) rfl))) (fun _ _ _ _ _ => (de_mtt PySem.F.plainAttrs_tuple PySem.F.slot_tuple_index PySem.F.type_tuple_index m_tix (de_v 12) (da_cons (de_v 6) da_nil))))) da_nil)) (da_cons (de_b b_len rfl T.n_len (by decide +kernel) (da_cons (de_v 12) da_nil)) da_nil))) da_nil)))))))))))))))))
theorem sc_law_run : FnScope ["jar", "network", "other", "many", "gates", "times", "due", "there", "k", "latest", "behind", "time", "start", "needed", "both", "one", "word", "operands", "delay", "heard", "loops"] ["jar", "network", "other"] (defScope (top 64)) := ⟨rfl, rfl, rfl, by decide +kernel, rfl, by decide +kernel, by decide +kernel⟩
theorem ok_law_run (T : Txt K mg cl ini ifd fa ffd) : FnOk P w K mg base (L2.CX P w) 5 (fa 42) (ffd 42) ["jar", "network", "other"] (spI K cl 3 F_law_run) :=
  ok_gc (ok_fn T.f42.F sc_law_run fun cdv A outer s H E hr => by
    exact (dss_cons (ds_as (de_v 1) (dg_t rfl (dgs_cons (dg_n 3 sc_law_run.nd) (dgs_cons (dg_n 4 sc_law_run.nd) dgs_nil))))
  (dss_cons (ds_set 5 sc_law_run.nd (de_call (ok_law_times T) fnG_ar (hr.mono (by decide)) (takes_of rfl rfl rfl rfl) T.f40.m T.f40.k T.f40.b (da_cons (de_v 0) (da_cons (de_v 3) da_nil))))
  (dss_cons (ds_set 6 sc_law_run.nd (de_call (ok_law_comes T) fnG_ar (hr.mono (by decide)) (takes_of rfl rfl rfl rfl) T.f32.m T.f32.k T.f32.b (da_cons (de_v 1) (da_cons (de_v 5) da_nil))))
  (dss_cons (ds_set 7 sc_law_run.nd (de_fz (de_b (b_gSorted rfl hr.units) rfl T.n_sorted (by decide +kernel) (da_cons (de_fz (de_lc rfl sc_law_run.nd (di_r1 rfl T.n_range (da_cons (de_b b_len rfl T.n_len (by decide +kernel) (da_cons (de_v 4) da_nil)) da_nil)) (own := [("k", 8)]) (show BlkOk ["jar", "network", "other", "many", "gates", "times", "due", "there", "k", "latest", "behind", "time", "start", "needed", "both", "one", "word", "operands", "delay", "heard", "loops"] (defScope (top 64)) _ _ from ⟨by rfl, by decide +kernel, by decide +kernel, by decide +kernel, by decide +kernel⟩) (fun _ _ _ _ _ => (dg_n 8 sc_law_run.nd)) (fun _ _ _ _ _ => (dts_one (dt_cmp op_fIsNot (de_iy (hu_of hr) (de_v 6) (de_v 8) (hs2 := fun _ _ => rfl)) de_non rfl))) (fun _ _ _ _ _ => (de_tup (da_cons (de_iy (hu_of hr) (de_v 6) (de_v 8) (hs2 := fun _ _ => rfl)) (da_cons (de_v 8) da_nil)))))) da_nil))))
  (dss_cons (ds_set 9 sc_law_run.nd (de_if (dt_cmp op_fGt (de_b b_len rfl T.n_len (by decide +kernel) (da_cons (de_v 7) da_nil)) de_int rfl) (de_iy (hu_of hr) (de_iy (hu_of hr) (de_v 7) (de_neg de_int) (hs2 := fun _ _ => rfl)) de_int (hs2 := fun _ _ => rfl)) de_non))
  (dss_cons (ds_set 10 sc_law_run.nd (de_b (b_gMax rfl) rfl T.n_max (by decide +kernel) (da_cons (de_fz (de_op op_gAdd (de_fz (de_lst (da_cons de_int da_nil))) (de_fz (de_lc rfl sc_law_run.nd (di_e (de_op op_gAdd (de_v 6) (de_v 5))) (own := [("time", 11)]) (show BlkOk ["jar", "network", "other", "many", "gates", "times", "due", "there", "k", "latest", "behind", "time", "start", "needed", "both", "one", "word", "operands", "delay", "heard", "loops"] (defScope (top 64)) _ _ from ⟨by rfl, by decide +kernel, by decide +kernel, by decide +kernel, by decide +kernel⟩) (fun _ _ _ _ _ => (dg_n 11 sc_law_run.nd)) (fun _ _ _ _ _ => (dts_one (dt_cmp op_fIsNot (de_v 11) de_non rfl))) (fun _ _ _ _ _ => (de_op op_gAdd (de_v 11) de_int)))))) da_nil)))
  (dss_cons (ds_if (dt_not (dt_tr (de_call (ok_law_same T) fnG_ar (hr.mono (by decide)) (takes_of rfl rfl rfl rfl) T.f31.m T.f31.k T.f31.b (da_cons (de_tup (da_cons (de_call (okcomes T) fnG_ar (hr.mono (by decide)) (takes_of rfl rfl rfl rfl) T.f11.m T.f11.k T.f11.b (da_cons (de_v 1) (da_cons (de_v 5) da_nil))) (da_cons (de_call (okcoming T) fnG_ar (hr.mono (by decide)) (takes_of rfl rfl rfl rfl) T.f12.m T.f12.k T.f12.b (da_cons (de_v 1) (da_cons (de_v 5) da_nil))) (da_cons (de_call (oklatest_time T) fnG_ar (hr.mono (by decide)) (takes_of rfl rfl rfl rfl) T.f17.m T.f17.k T.f17.b (da_cons (de_v 1) (da_cons (de_v 5) da_nil))) (da_cons (de_call (okquiet_behind T) fnG_ar (hr.mono (by decide)) (takes_of rfl rfl rfl rfl) T.f28.m T.f28.k T.f28.b (da_cons (de_v 1) (da_cons (de_v 5) da_nil))) da_nil))))) (da_cons (de_tup (da_cons (de_v 6) (da_cons (de_ty b_tup rfl T.n_tuple (by decide +kernel) (da_cons (de_v 7) da_nil)) (da_cons (de_v 9) (da_cons (de_v 10) da_nil))))) da_nil))))) (dss_one (ds_ret de_bl)) dss_nil)
  (dss_cons (ds_set 12 sc_law_run.nd (de_call (ok_law_sip T) fnG_ar (hr.mono (by decide)) (takes_of rfl rfl rfl rfl) T.f30.m T.f30.k T.f30.b (da_cons (de_v 0) (da_cons de_int (da_cons (de_b b_len rfl T.n_len (by decide +kernel) (da_cons (de_v 4) da_nil)) da_nil)))))
  (dss_cons (ds_set 13 sc_law_run.nd (de_call (ok_law_needed T) fnG_ar (hr.mono (by decide)) (takes_of rfl rfl rfl rfl) T.f35.m T.f35.k T.f35.b (da_cons (de_v 1) (da_cons (de_fz (de_lst (da_cons (de_v 12) da_nil))) da_nil))))
  (dss_cons (ds_if (dt_not (dt_tr (de_call (ok_law_same T) fnG_ar (hr.mono (by decide)) (takes_of rfl rfl rfl rfl) T.f31.m T.f31.k T.f31.b (da_cons (de_call (okcomes T) fnG_ar (hr.mono (by decide)) (takes_of rfl rfl rfl rfl) T.f11.m T.f11.k T.f11.b (da_cons (de_call (oktrimmed_network T) fnG_ar (hr.mono (by decide)) (takes_of rfl rfl rfl rfl) T.f23.m T.f23.k T.f23.b (da_cons (de_v 1) (da_cons (de_tup (da_cons (de_v 12) da_nil)) da_nil))) (da_cons (de_v 5) da_nil))) (da_cons (de_ty b_tup rfl T.n_tuple (by decide +kernel) (da_cons (de_fz (de_lc rfl sc_law_run.nd (di_e (de_v 13)) (own := [("k", 8)]) (show BlkOk ["jar", "network", "other", "many", "gates", "times", "due", "there", "k", "latest", "behind", "time", "start", "needed", "both", "one", "word", "operands", "delay", "heard", "loops"] (defScope (top 64)) _ _ from ⟨by rfl, by decide +kernel, by decide +kernel, by decide +kernel, by decide +kernel⟩) (fun _ _ _ _ _ => (dg_n 8 sc_law_run.nd)) (fun _ _ _ _ _ => dts_nil) (fun _ _ _ _ _ => (de_iy (hu_of hr) (de_v 6) (de_v 8) (hs2 := fun _ _ => rfl))))) da_nil)) da_nil))))) (dss_one (ds_ret de_bl)) dss_nil)
  (dss_cons (ds_set 14 sc_law_run.nd (de_tup (da_cons (de_v 3) (da_cons (de_op op_gAdd (de_v 4) (de_ty b_tup rfl T.n_tuple (by decide +kernel) (da_cons (de_fz (de_lc rfl sc_law_run.nd (di_e (de_iy (hu_of hr) (de_v 2) de_int (hs2 := fun _ _ => rfl))) (own := [("word", 16), ("operands", 17), ("delay", 18)]) (show BlkOk ["jar", "network", "other", "many", "gates", "times", "due", "there", "k", "latest", "behind", "time", "start", "needed", "both", "one", "word", "operands", "delay", "heard", "loops"] (defScope (top 64)) _ _ from ⟨by rfl, by decide +kernel, by decide +kernel, by decide +kernel, by decide +kernel⟩) (fun _ _ _ _ _ => (dg_t rfl (dgs_cons (dg_n 16 sc_law_run.nd) (dgs_cons (dg_n 17 sc_law_run.nd) (dgs_cons (dg_n 18 sc_law_run.nd) dgs_nil))))) (fun _ _ _ _ _ => dts_nil) (fun _ _ _ _ _ => (de_tup (da_cons (de_v 16) (da_cons (de_ty b_tup rfl T.n_tuple (by decide +kernel) (da_cons (de_fz (de_lc rfl sc_law_run.nd (di_e (de_v 17)) (own := [("one", 15)]) (BlkOk.blk (N := ["jar", "network", "other", "many", "gates", "times", "due", "there", "k", "latest", "behind", "time", "start", "needed", "both", "one", "word", "operands", "delay", "heard", "loops"]) ⟨by rfl, by decide +kernel, by decide +kernel, by decide +kernel, by decide +kernel⟩) (fun _ _ _ _ _ => (dg_n 15 sc_law_run.nd)) (fun _ _ _ _ _ => dts_nil) (fun _ _ _ _ _ => (de_if (dt_cmp op_fLt (de_v 15) (de_v 3) rfl) (de_v 15) (de_op op_gAdd (de_v 15) (de_b b_len rfl T.n_len (by decide +kernel) (da_cons (de_v 4) da_nil))))))) da_nil)) (da_cons (de_v 18) da_nil))))))) da_nil))) da_nil))))
  (dss_cons (ds_set 19 sc_law_run.nd (de_call (ok_law_beside T) fnG_ar (hr.mono (by decide)) (takes_of rfl rfl rfl rfl) T.f39.m T.f39.k T.f39.b (da_cons (de_v 1) (da_cons (de_v 2) da_nil))))
  (dss_cons (ds_if (dt_cmp (op_fNe hr.units) (de_iy (hu_of hr) (de_v 2) de_int (hs2 := fun _ _ => rfl)) (de_v 3) rfl) (dss_one (ds_ret (de_call (ok_law_same T) fnG_ar (hr.mono (by decide)) (takes_of rfl rfl rfl rfl) T.f31.m T.f31.k T.f31.b (da_cons (de_v 19) (da_cons (de_tup (da_cons de_str (da_cons de_str da_nil))) da_nil))))) dss_nil)
  (dss_cons (ds_if (dt_cmp op_fGt (de_b b_len rfl T.n_len (by decide +kernel) (da_cons (de_iy (hu_of hr) (de_v 14) de_int (hs2 := fun _ _ => rfl)) da_nil)) de_int rfl) (dss_one (ds_ret (de_call (ok_law_same T) fnG_ar (hr.mono (by decide)) (takes_of rfl rfl rfl rfl) T.f31.m T.f31.k T.f31.b (da_cons (de_v 19) (da_cons (de_tup (da_cons de_str (da_cons de_str da_nil))) da_nil))))) dss_nil)
  (dss_cons (ds_set 20 sc_law_run.nd (de_op op_gAdd (de_call (ok_law_loops T) fnG_ar (hr.mono (by decide)) (takes_of rfl rfl rfl rfl) T.f36.m T.f36.k T.f36.b (da_cons (de_v 1) da_nil)) (de_ty b_tup rfl T.n_tuple (by decide +kernel) (da_cons (de_fz (de_lc rfl sc_law_run.nd (di_e (de_call (ok_law_loops T) fnG_ar (hr.mono (by decide)) (takes_of rfl rfl rfl rfl) T.f36.m T.f36.k T.f36.b (da_cons (de_v 2) da_nil))) (own := [("k", 8)]) (show BlkOk ["jar", "network", "other", "many", "gates", "times", "due", "there", "k", "latest", "behind", "time", "start", "needed", "both", "one", "word", "operands", "delay", "heard", "loops"] (defScope (top 64)) _ _ from ⟨by rfl, by decide +kernel, by decide +kernel, by decide +kernel, by decide +kernel⟩) (fun _ _ _ _ _ => (dg_n 8 sc_law_run.nd)) (fun _ _ _ _ _ => dts_nil) (fun _ _ _ _ _ => (de_op op_gAdd (de_b b_len rfl T.n_len (by decide +kernel) (da_cons (de_v 4) da_nil)) (de_v 8))))) da_nil))))
  (dss_one (ds_ret (de_call (ok_law_same T) fnG_ar (hr.mono (by decide)) (takes_of rfl rfl rfl rfl) T.f31.m T.f31.k T.f31.b (da_cons (de_tup (da_cons (de_v 19) (da_cons (de_call (okcomes T) fnG_ar (hr.mono (by decide)) (takes_of rfl rfl rfl rfl) T.f11.m T.f11.k T.f11.b (da_cons (de_v 14) (da_cons (de_v 5) da_nil))) (da_cons (de_call (okgates_in_loops T) fnG_ar (hr.mono (by decide)) (takes_of rfl rfl rfl rfl) T.f16.m T.f16.k T.f16.b (da_cons (de_v 14) da_nil)) da_nil)))) (da_cons (de_tup (da_cons (de_tup (da_cons de_str (da_cons (de_v 14) da_nil))) (da_cons (de_op op_gAdd (de_v 6) (de_call (ok_law_comes T) fnG_ar (hr.mono (by decide)) (takes_of rfl rfl rfl rfl) T.f32.m T.f32.k T.f32.b (da_cons (de_v 2) (da_cons (de_v 5) da_nil)))) (da_cons (de_v 20) da_nil)))) da_nil)))))))))))))))))))))
theorem sc_law_asked : FnScope ["jar", "network", "other", "many", "gates", "lines", "one", "word", "operands", "delay", "text", "zero", "none", "there", "time"] ["jar", "network", "other"] (defScope (top 65)) := ⟨rfl, rfl, rfl, by decide +kernel, rfl, by decide +kernel, by decide +kernel⟩
theorem ok_law_asked (T : Txt K mg cl ini ifd fa ffd) : FnOk P w K mg base (L2.CX P w) 8 (fa 43) (ffd 43) ["jar", "network", "other"] (spI K cl 3 F_law_asked) :=
  ok_gc (ok_fn T.f43.F sc_law_asked fun cdv A outer s H E hr => by
    exact (dss_cons (ds_as (de_v 1) (dg_t rfl (dgs_cons (dg_n 3 sc_law_asked.nd) (dgs_cons (dg_n 4 sc_law_asked.nd) dgs_nil))))
  (dss_cons (ds_set 5 sc_law_asked.nd (de_fz (de_op op_gAdd (de_fz (de_lst (da_cons (de_op op_gAdd de_str (de_ty b_str rfl T.n_str (by decide +kernel) (da_cons (de_v 3) da_nil))) da_nil))) (de_fz (de_lc rfl sc_law_asked.nd (di_e (de_v 4)) (own := [("word", 7), ("operands", 8), ("delay", 9)]) (show BlkOk ["jar", "network", "other", "many", "gates", "lines", "one", "word", "operands", "delay", "text", "zero", "none", "there", "time"] (defScope (top 65)) _ _ from ⟨by rfl, by decide +kernel, by decide +kernel, by decide +kernel, by decide +kernel⟩) (fun _ _ _ _ _ => (dg_t rfl (dgs_cons (dg_n 7 sc_law_asked.nd) (dgs_cons (dg_n 8 sc_law_asked.nd) (dgs_cons (dg_n 9 sc_law_asked.nd) dgs_nil))))) (fun _ _ _ _ _ => dts_nil) (fun _ _ _ _ _ => (de_mt PySem.F.plainAttrs_str PySem.F.slot_str_join PySem.F.type_str_join m_gJoin ty_str de_str (da_cons (de_fz (de_op op_gAdd (de_fz (de_lst (da_cons (de_v 7) (da_cons (de_ty b_str rfl T.n_str (by decide +kernel) (da_cons (de_v 9) da_nil)) da_nil)))) (de_fz (de_lc rfl sc_law_asked.nd (di_e (de_v 8)) (own := [("one", 6)]) (BlkOk.blk (N := ["jar", "network", "other", "many", "gates", "lines", "one", "word", "operands", "delay", "text", "zero", "none", "there", "time"]) ⟨by rfl, by decide +kernel, by decide +kernel, by decide +kernel, by decide +kernel⟩) (fun _ _ _ _ _ => (dg_n 6 sc_law_asked.nd)) (fun _ _ _ _ _ => dts_nil) (fun _ _ _ _ _ => (de_ty b_str rfl T.n_str (by decide +kernel) (da_cons (de_v 6) da_nil))))))) da_nil))))))))
  (dss_cons (ds_set 10 sc_law_asked.nd (de_mt PySem.F.plainAttrs_str PySem.F.slot_str_join PySem.F.type_str_join m_gJoin ty_str de_str (da_cons (de_v 5) da_nil)))
  (dss_cons (ds_if (dt_not (dt_tr (de_call (ok_law_same T) fnG_ar (hr.mono (by decide)) (takes_of rfl rfl rfl rfl) T.f31.m T.f31.k T.f31.b (da_cons (de_tup (da_cons (de_call (oknetwork_text T) fnG_ar (hr.mono (by decide)) (takes_of rfl rfl rfl rfl) T.f24.m T.f24.k T.f24.b (da_cons (de_v 1) da_nil)) (da_cons (de_call (okread_network T) fnG_ar (hr.mono (by decide)) (takes_of rfl rfl rfl rfl) T.f26.m T.f26.k T.f26.b (da_cons (de_op op_gAdd (de_op op_gAdd (de_iy (hu_of hr) (de_tup (da_cons de_str (da_cons de_str da_nil))) (de_call (ok_law_sip T) fnG_ar (hr.mono (by decide)) (takes_of rfl rfl rfl rfl) T.f30.m T.f30.k T.f30.b (da_cons (de_v 0) (da_cons de_int (da_cons de_int da_nil)))) (hs2 := fun _ _ => rfl)) (de_v 10)) (de_op op_fMul de_str (de_call (ok_law_sip T) fnG_ar (hr.mono (by decide)) (takes_of rfl rfl rfl rfl) T.f30.m T.f30.k T.f30.b (da_cons (de_v 0) (da_cons de_int (da_cons de_int da_nil)))))) da_nil)) da_nil))) (da_cons (de_tup (da_cons (de_v 10) (da_cons (de_v 1) da_nil))) da_nil))))) (dss_one (ds_ret de_bl)) dss_nil)
  (dss_cons (ds_if (DW.t (dw_or (dt_not (dt_tr (de_call (ok_law_looks T) fnG_ar (hr.mono (by decide)) (takes_of rfl rfl rfl rfl) T.f41.m T.f41.k T.f41.b (da_cons (de_v 0) (da_cons (de_v 1) da_nil))))) (dw_or1 (dt_not (dt_tr (de_call (ok_law_run T) fnG_ar (hr.mono (by decide)) (takes_of rfl rfl rfl rfl) T.f42.m T.f42.k T.f42.b (da_cons (de_v 0) (da_cons (de_v 1) (da_cons (de_v 2) da_nil))))))))) (dss_one (ds_ret de_bl)) dss_nil)
  (dss_cons (ds_par 11 12 rfl sc_law_asked.nd (da_cons (de_call (ok_law_comes T) fnG_ar (hr.mono (by decide)) (takes_of rfl rfl rfl rfl) T.f32.m T.f32.k T.f32.b (da_cons (de_v 1) (da_cons (de_op op_fMul (de_tup (da_cons de_int da_nil)) (de_v 3)) da_nil))) (da_cons (de_op op_fMul (de_tup (da_cons de_non da_nil)) (de_v 3)) da_nil)))
  (dss_cons (ds_setLcF 13 rfl sc_law_asked.nd (di_e (de_v 11)) (own := [("time", 14)]) (show BlkOk ["jar", "network", "other", "many", "gates", "lines", "one", "word", "operands", "delay", "text", "zero", "none", "there", "time"] (defScope (top 65)) _ _ from ⟨by rfl, by decide +kernel, by decide +kernel, by decide +kernel, by decide +kernel⟩) (fun _ _ _ _ _ => (dg_n 14 sc_law_asked.nd)) (fun _ _ _ _ _ => (dts_one (dt_cmp op_fIsNot (de_v 14) de_non rfl))) (fun _ _ _ _ _ => (de_v 14)) (sw_true rfl rfl rfl rfl))
  (dss_one (ds_ret (de_call (ok_law_same T) fnG_ar (hr.mono (by decide)) (takes_of rfl rfl rfl rfl) T.f31.m T.f31.k T.f31.b (da_cons (de_tup (da_cons (de_call (oklatest_time T) fnG_ar (hr.mono (by decide)) (takes_of rfl rfl rfl rfl) T.f17.m T.f17.k T.f17.b (da_cons (de_v 1) (da_cons (de_op op_fMul (de_tup (da_cons de_int da_nil)) (de_v 3)) da_nil))) (da_cons (de_call (oklatest_time T) fnG_ar (hr.mono (by decide)) (takes_of rfl rfl rfl rfl) T.f17.m T.f17.k T.f17.b (da_cons (de_v 1) (da_cons (de_v 12) da_nil))) (da_cons (de_call (okquiet_behind T) fnG_ar (hr.mono (by decide)) (takes_of rfl rfl rfl rfl) T.f28.m T.f28.k T.f28.b (da_cons (de_v 1) (da_cons (de_v 12) da_nil))) (da_cons (de_call (okcoming T) fnG_ar (hr.mono (by decide)) (takes_of rfl rfl rfl rfl) T.f12.m T.f12.k T.f12.b (da_cons (de_v 1) (da_cons (de_v 12) da_nil))) da_nil))))) (da_cons (de_tup (da_cons (de_if (dt_cmp op_fGt (de_b b_len rfl T.n_len (by decide +kernel) (da_cons (de_v 13) da_nil)) de_int rfl) (de_b (b_gMax rfl) rfl T.n_max (by decide +kernel) (da_cons (de_v 13) da_nil)) de_non) (da_cons de_non (da_cons de_int (da_cons (de_tup da_nil) da_nil))))) da_nil)))))))))))))
theorem sclaw : FnScope ["script", "jar", "networks", "lap", "k", "wide", "more", "ring", "told"] ["script"] (defScope (top 66)) := ⟨rfl, rfl, rfl, by decide +kernel, rfl, by decide +kernel, by decide +kernel⟩
theorem oklaw (T : Txt K mg cl ini ifd fa ffd) : FnOk P w K mg base (L2.CX P w) 9 (fa 44) (ffd 44) ["script"] (spI K cl 1 Flaw) :=
  ok_gc (ok_fn T.f44.F sclaw fun cdv A outer s H E hr => by
    exact (dss_cons (ds_set 1 sclaw.nd (de_call (ok_law_jar T) fnG_ar (hr.mono (by decide)) (takes_of rfl rfl rfl rfl) T.f29.m T.f29.k T.f29.b (da_cons (de_v 0) da_nil)))
  (dss_cons (ds_setLcF 2 rfl sclaw.nd (di_r1 rfl T.n_range (da_cons de_int da_nil)) (own := [("lap", 3)]) (show BlkOk ["script", "jar", "networks", "lap", "k", "wide", "more", "ring", "told"] (defScope (top 66)) _ _ from ⟨by rfl, by decide +kernel, by decide +kernel, by decide +kernel, by decide +kernel⟩) (fun _ _ _ _ _ => (dg_n 3 sclaw.nd)) (fun _ _ _ _ _ => dts_nil) (fun _ _ _ _ _ => (de_call (ok_law_network T) fnG_ar (hr.mono (by decide)) takes0 T.f34.m T.f34.k T.f34.b (da_cons (de_v 1) (da_cons de_int da_nil)))) (sw_true rfl rfl rfl rfl))
  (dss_cons (ds_for (passes_of rfl) rfl (di_r1 rfl T.n_range (da_cons de_int da_nil)) (dg_n 4 sclaw.nd) (dss_one (ds_if (dt_not (dt_tr (de_call (ok_law_asked T) fnG_ar (hr.mono (by decide)) (takes_of rfl rfl rfl rfl) T.f43.m T.f43.k T.f43.b (da_cons (de_v 1) (da_cons (de_iy (hu_of hr) (de_v 2) (de_v 4) (hs2 := fun _ _ => rfl)) (da_cons (de_iy (hu_of hr) (de_v 2) (de_op op_fSub (de_v 4) de_int) (hs2 := fun _ _ => rfl)) da_nil)))))) (dss_one (ds_ret de_bl)) dss_nil)))
  (dss_cons (ds_if (dt_cmp (op_fEq hr.units) (de_call (ok_law_sip T) fnG_ar (hr.mono (by decide)) (takes_of rfl rfl rfl rfl) T.f30.m T.f30.k T.f30.b (da_cons (de_v 1) (da_cons de_int (da_cons de_int da_nil)))) de_int rfl) (dss_cons (ds_par 5 6 rfl sclaw.nd (da_cons (de_call (ok_law_network T) fnG_ar (hr.mono (by decide)) (takes_of rfl rfl rfl rfl) T.f34.m T.f34.k T.f34.b (da_cons (de_v 1) (da_cons de_int da_nil))) (da_cons (de_call (ok_law_network T) fnG_ar (hr.mono (by decide)) (takes_of rfl rfl rfl rfl) T.f34.m T.f34.k T.f34.b (da_cons (de_v 1) (da_cons de_int da_nil))) da_nil)))
  (dss_one (ds_if (DW.t (dw_or (dt_not (dt_tr (de_call (ok_law_asked T) fnG_ar (hr.mono (by decide)) (takes_of rfl rfl rfl rfl) T.f43.m T.f43.k T.f43.b (da_cons (de_v 1) (da_cons (de_v 5) (da_cons (de_v 6) da_nil)))))) (dw_or1 (dt_not (dt_tr (de_call (ok_law_asked T) fnG_ar (hr.mono (by decide)) (takes_of rfl rfl rfl rfl) T.f43.m T.f43.k T.f43.b (da_cons (de_v 1) (da_cons (de_tup (da_cons (de_iy (hu_of hr) (de_v 5) de_int (hs2 := fun _ _ => rfl)) (da_cons (de_op op_gAdd (de_iy (hu_of hr) (de_v 5) de_int (hs2 := fun _ _ => rfl)) (de_op op_fMul (de_tup (da_cons (de_tup (da_cons de_str (da_cons (de_tup (da_cons (de_iy (hu_of hr) (de_v 5) de_int (hs2 := fun _ _ => rfl)) da_nil)) (da_cons de_int da_nil)))) da_nil)) (de_op op_fSub de_int (de_b b_len rfl T.n_len (by decide +kernel) (da_cons (de_iy (hu_of hr) (de_v 5) de_int (hs2 := fun _ _ => rfl)) da_nil))))) da_nil))) (da_cons (de_v 5) da_nil))))))))) (dss_one (ds_ret de_bl)) dss_nil))) dss_nil)
  (dss_cons (ds_set 7 sclaw.nd (de_tup (da_cons de_int (da_cons (de_tup (da_cons (de_tup (da_cons de_str (da_cons (de_tup (da_cons de_int da_nil)) (da_cons de_int da_nil)))) (da_cons (de_tup (da_cons de_str (da_cons (de_tup (da_cons de_int da_nil)) (da_cons de_int da_nil)))) (da_cons (de_tup (da_cons de_str (da_cons (de_tup (da_cons de_int (da_cons de_int da_nil))) (da_cons de_int da_nil)))) (da_cons (de_tup (da_cons de_str (da_cons (de_tup (da_cons de_int (da_cons de_int da_nil))) (da_cons de_int da_nil)))) (da_cons (de_tup (da_cons de_str (da_cons (de_tup (da_cons de_int (da_cons de_int (da_cons de_int da_nil)))) (da_cons de_int da_nil)))) da_nil)))))) da_nil))))
  (dss_cons (ds_if (dt_not (dt_tr (de_call (ok_law_same T) fnG_ar (hr.mono (by decide)) (takes_of rfl rfl rfl rfl) T.f31.m T.f31.k T.f31.b (da_cons (de_tup (da_cons (de_call (okgates_in_loops T) fnG_ar (hr.mono (by decide)) (takes_of rfl rfl rfl rfl) T.f16.m T.f16.k T.f16.b (da_cons (de_v 7) da_nil)) (da_cons (de_call (okneeded_for T) fnG_ar (hr.mono (by decide)) (takes_of rfl rfl rfl rfl) T.f15.m T.f15.k T.f15.b (da_cons (de_v 7) (da_cons (de_tup (da_cons de_int da_nil)) da_nil))) (da_cons (de_call (okusers_of T) fnG_ar (hr.mono (by decide)) (takes_of rfl rfl rfl rfl) T.f13.m T.f13.k T.f13.b (da_cons (de_v 7) (da_cons de_int da_nil))) (da_cons (de_call (okcomes T) fnG_ar (hr.mono (by decide)) (takes_of rfl rfl rfl rfl) T.f11.m T.f11.k T.f11.b (da_cons (de_v 7) (da_cons (de_tup (da_cons de_int da_nil)) da_nil))) da_nil))))) (da_cons (de_tup (da_cons (de_tup (da_cons de_int (da_cons de_int (da_cons de_int da_nil)))) (da_cons (de_tup (da_cons de_int (da_cons de_int (da_cons de_int (da_cons de_int da_nil))))) (da_cons (de_tup (da_cons de_int da_nil)) (da_cons (de_tup (da_cons de_non (da_cons de_non (da_cons de_int (da_cons de_int (da_cons de_int da_nil)))))) da_nil))))) da_nil))))) (dss_one (ds_ret de_bl)) dss_nil)
  (dss_cons (ds_set 8 sclaw.nd (de_tup (da_cons (de_call (oklatest_time T) fnG_ar (hr.mono (by decide)) (takes_of rfl rfl rfl rfl) T.f17.m T.f17.k T.f17.b (da_cons (de_v 7) (da_cons (de_tup (da_cons de_int da_nil)) da_nil))) (da_cons (de_call (okquiet_behind T) fnG_ar (hr.mono (by decide)) (takes_of rfl rfl rfl rfl) T.f28.m T.f28.k T.f28.b (da_cons (de_v 7) (da_cons (de_tup (da_cons de_int da_nil)) da_nil))) (da_cons (de_call (oknetwork_report T) fnG_ar (hr.mono (by decide)) (takes_of rfl rfl rfl rfl) T.f27.m T.f27.k T.f27.b (da_cons (de_v 7) da_nil)) (da_cons (de_call (okusers_of T) fnG_ar (hr.mono (by decide)) (takes_of rfl rfl rfl rfl) T.f13.m T.f13.k T.f13.b (da_cons (de_v 7) (da_cons de_int da_nil))) (da_cons (de_call (okneeded_for T) fnG_ar (hr.mono (by decide)) (takes_of rfl rfl rfl rfl) T.f15.m T.f15.k T.f15.b (da_cons (de_v 7) (da_cons (de_tup (da_cons de_int (da_cons de_int da_nil))) da_nil))) (da_cons (de_call (okcoming T) fnG_ar (hr.mono (by decide)) (takes_of rfl rfl rfl rfl) T.f12.m T.f12.k T.f12.b (da_cons (de_v 7) (da_cons (de_tup (da_cons de_int da_nil)) da_nil))) da_nil))))))))
  (dss_one (ds_ret (de_and (de_call (ok_law_same T) fnG_ar (hr.mono (by decide)) (takes_of rfl rfl rfl rfl) T.f31.m T.f31.k T.f31.b (da_cons (de_v 8) (da_cons (de_tup (da_cons de_int (da_cons de_int (da_cons de_str (da_cons (de_tup (da_cons de_int da_nil)) (da_cons (de_tup (da_cons de_int da_nil)) (da_cons (de_tup (da_cons (de_tup (da_cons de_int (da_cons de_int da_nil))) (da_cons (de_tup (da_cons de_int (da_cons de_int da_nil))) (da_cons (de_tup (da_cons de_int (da_cons de_int da_nil))) da_nil)))) da_nil))))))) da_nil))) (de_one (de_call (ok_law_asked T) fnG_ar (hr.mono (by decide)) (takes_of rfl rfl rfl rfl) T.f43.m T.f43.k T.f43.b (da_cons (de_v 1) (da_cons (de_v 7) (da_cons (de_tup (da_cons de_int (da_cons (de_op op_fMul (de_tup (da_cons (de_tup (da_cons de_str (da_cons (de_tup (da_cons de_int da_nil)) (da_cons de_int da_nil)))) da_nil)) de_int) da_nil))) da_nil))))))))))))))))
end K89
namespace K89
open PySem L2 Fl
abbrev nD (n : Nat) : D := .int n
theorem is_whole_int {i : Int} {h : IH} : Fis_whole [.int i] h = .ok (.bl true) h := by
  simp [Fis_whole, Sis_whole, tyD, isT, tru]
theorem is_whole_non {h : IH} : Fis_whole [.non] h = .ok (.bl false) h := by
  simp [Fis_whole, Sis_whole, tyD, isT, tru]
theorem is_whole_bl {b : Bool} {h : IH} : Fis_whole [.bl b] h = .ok (.bl false) h := by
  simp [Fis_whole, Sis_whole, tyD, isT, tru]
theorem is_whole_str {b : Str} {h : IH} : Fis_whole [.str b] h = .ok (.bl false) h := by
  simp [Fis_whole, Sis_whole, tyD, isT, tru]
theorem is_number_int {i : Int} {h : IH} : Fis_number [.int i] h = .ok (.bl (decide (0 ≤ i))) h := by
  simp [Fis_number, Sis_number, is_whole_int, tru]
theorem is_number_non {h : IH} : Fis_number [.non] h = .ok (.bl false) h := by
  simp [Fis_number, Sis_number, is_whole_non, tru]
theorem is_number_bl {b : Bool} {h : IH} : Fis_number [.bl b] h = .ok (.bl false) h := by
  simp [Fis_number, Sis_number, is_whole_bl, tru]
theorem is_number_str {b : Str} {h : IH} : Fis_number [.str b] h = .ok (.bl false) h := by
  simp [Fis_number, Sis_number, is_whole_str, tru]
theorem is_below_int {i m : Int} {h : IH} : Fis_below [.int i, .int m] h = .ok (.bl (decide (0 ≤ i ∧ i < m))) h := by
  by_cases q : 0 ≤ i <;> simp [Fis_below, Sis_below, is_number_int, tru, q]
theorem is_below_non {m : D} {h : IH} : Fis_below [.non, m] h = .ok (.bl false) h := by
  simp [Fis_below, Sis_below, is_number_non, tru]
theorem is_below_bl {b : Bool} {m : D} {h : IH} : Fis_below [.bl b, m] h = .ok (.bl false) h := by
  simp [Fis_below, Sis_below, is_number_bl, tru]
theorem is_below_str {b : Str} {m : D} {h : IH} : Fis_below [.str b, m] h = .ok (.bl false) h := by
  simp [Fis_below, Sis_below, is_number_str, tru]
theorem is_row_tup {l : List D} {m : Int} {h : IH} : Fis_row [.tup l, .int m] h = .ok (.bl (decide ((l.length : Int) = m))) h := by
  simp [Fis_row, Sis_row, tyD, isT, tru]
/-! networks -/
structure G where
  f : Bool
  o : List Nat
  d : Nat
deriving DecidableEq
def G.w (g : G) : Str := if g.f then "first" else "last"
def G.e (g : G) : D := .tup [.str g.w, .tup (g.o.map fun k : Nat => .int k), .int g.d]
abbrev gsD (gs : List G) : D := .tup (gs.map G.e)
abbrev netD (m : Nat) (gs : List G) : D := .tup [.int m, gsD gs]
def oD : Option Nat → D
  | none => .non
  | some t => .int t
@[simp] theorem oD_n : oD none = .non := rfl
@[simp] theorem oD_s {t : Nat} : oD (some t) = .int t := rfl
theorem cl_oD {n : Nat} {o : Option Nat} : clD n (oD o) = true := by cases o <;> simp
theorem cl_oDs {n : Nat} {l : List (Option Nat)} : clDs n (l.map oD) = true := clDs_map fun _ _ => cl_oD
theorem cl_G {n : Nat} {g : G} : clD n g.e = true := by
  simp [G.e, clDs_map]
theorem cl_gs {n : Nat} {gs : List G} : clDs n (gs.map G.e) = true := clDs_map fun _ _ => cl_G
def cv (came : List (Option Nat)) (k : Nat) : Option Nat := (came[k]?).getD none
/-- when the gate comes -/
def tb (g : G) (came : List (Option Nat)) : Option Nat :=
  let ts := g.o.filterMap (cv came)
  if ts = [] ∨ (g.f = false ∧ ts.length < g.o.length) then none else some (g.d + if g.f then lmin ts else lmax ts)
theorem cv_at {came : List (Option Nat)} {k : Nat} (hk : k < came.length) : (came.map oD)[k]? = some (oD (cv came k)) := by
  simp [cv, List.getElem?_eq_getElem hk]
@[simp] theorem s_lf : (Str.ofString "last" = Str.ofString "first") = False := eq_false (by decide +kernel)
@[simp] theorem s_fl : (Str.ofString "first" = Str.ofString "last") = False := eq_false (by decide +kernel)
theorem time_by_s {g : G} {n : Nat} {came : List (Option Nat)} {h : IH} (hn : h[n]? = some (.lst (came.map oD))) (ho : ∀ k ∈ g.o, k < came.length) (sm : g.o.length ≤ 1000) :
    Ftime_by [g.e, .ref n] h = .ok (oD (tb g came)) h := by
  simp [Ftime_by, Stime_by, G.e]
  rw [fz_filt g.o (fun k : Nat => D.int k) (fun k => (cv came k).map fun t : Nat => D.int t) rfl rfl (fun _ => trivial) (by omega)]
  · have e : g.o.filterMap (fun k => (cv came k).map fun t : Nat => D.int t) = (g.o.filterMap (cv came)).map fun t : Nat => D.int t := by
      rw [List.map_filterMap]
    rw [e]
    generalize hts : g.o.filterMap (cv came) = ts
    have tbe : tb g came = if ts = [] ∨ (g.f = false ∧ ts.length < g.o.length) then none else some (g.d + if g.f then lmin ts else lmax ts) := by
      unfold tb
      rw [hts]
    rw [tbe]
    by_cases q1 : ts = []
    · subst q1
      simp
    · cases hf : g.f
      · by_cases q2 : ts.length < g.o.length
        · simp [G.w, hf, q1, q2]
        · simp [G.w, hf, q1, q2, gMax_s q1]
      · simp [G.w, hf, q1, gMin_s q1]
  · intro k hk
    refine ⟨_, rfl, fun acc H hH => ?_⟩
    have hn2 : H[n]? = some (.lst (came.map oD)) := by rw [hH]; exact Keep.one hn
    have e := cv_at (ho k hk)
    cases hc : cv came k with
    | none =>
      rw [hc] at e
      simp [hn2, e]
    | some t =>
      rw [hc] at e
      simp [hn2, e]
  · rw [clDs_iff]
    intro d hd
    obtain ⟨k, _, e⟩ := List.mem_filterMap.mp hd
    cases hc : cv came k with
    | none => rw [hc] at e; cases e
    | some t => rw [hc] at e; cases e; simp
/-! ### comes -/
def cands (m : Nat) (gs : List G) (came : List (Option Nat)) : List (Nat × Nat) :=
  (List.range gs.length).filterMap fun k => if cv came (m + k) = none then (gs[k]?).bind fun g => (tb g came).map fun t => (t, k) else none
/-- how it goes on -/
inductive Run (m : Nat) (gs : List G) : List (Option Nat) → List (Option Nat) → Prop
  | stop {c} : cands m gs c = [] → Run m gs c c
  | step {c c' t k} : LeastP (cands m gs c) (t, k) → Run m gs (c.set (m + k) (some t)) c' → Run m gs c c'
def opn (m : Nat) (gs : List G) (came : List (Option Nat)) : List Nat := (List.range gs.length).filter fun k => decide (cv came (m + k) = none)
theorem cands_opn (m : Nat) (gs : List G) (came : List (Option Nat)) : (opn m gs came).filterMap (fun k => (gs[k]?).bind fun g => (tb g came).map fun t => (t, k)) = cands m gs came := by
  unfold opn cands
  rw [List.filterMap_filter]
  congr 1
  funext k
  by_cases q : cv came (m + k) = none <;> simp [q]
theorem cand_is {m : Nat} {gs : List G} {c : List (Option Nat)} {t k : Nat} (h : (t, k) ∈ cands m gs c) : k < gs.length ∧ cv c (m + k) = none ∧ ∃ g, gs[k]? = some g ∧ tb g c = some t := by
  obtain ⟨j, hj, e⟩ := List.mem_filterMap.mp h
  split at e
  · rename_i q
    obtain ⟨g, hg, e⟩ := Option.bind_eq_some_iff.mp e
    obtain ⟨t', ht, e⟩ := Option.map_eq_some_iff.mp e
    cases e
    exact ⟨List.mem_range.mp hj, q, g, hg, ht⟩
  · cases e
theorem cv_set {c : List (Option Nat)} {i j : Nat} {t : Nat} (hi : i < c.length) : cv (c.set i (some t)) j = if i = j then some t else cv c j := by
  unfold cv
  by_cases q : i = j
  · subst q
    rw [if_pos rfl, List.getElem?_set_self hi]
    rfl
  · rw [if_neg q, List.getElem?_set_ne q]
theorem opn_nodup {m : Nat} {gs : List G} {c : List (Option Nat)} : (opn m gs c).Nodup := List.Pairwise.filter _ List.nodup_range
theorem opn_set {m : Nat} {gs : List G} {c : List (Option Nat)} {t k : Nat} (hl : m + k < c.length) : opn m gs (c.set (m + k) (some t)) = (opn m gs c).erase k := by
  rw [List.Nodup.erase_eq_filter opn_nodup]
  unfold opn
  rw [List.filter_filter]
  apply List.filter_congr
  intro j _
  rw [cv_set hl]
  by_cases q : k = j
  · subst q
    simp
  · have q1 : ¬ (m + k = m + j) := by omega
    have q2 : ¬ (j = k) := fun z => q z.symm
    simp [q, q2]
theorem Run.uniq {m : Nat} {gs : List G} {c a b : List (Option Nat)} (h : Run m gs c a) : Run m gs c b → a = b := by
  induction h with
  | stop e =>
    intro h2
    cases h2 with
    | stop _ => rfl
    | step l _ => rw [e] at l; exact absurd l.1 (by simp)
  | step l _ ih =>
    intro h2
    cases h2 with
    | stop e => rw [e] at l; exact absurd l.1 (by simp)
    | step l2 r2 =>
      have e := l.uniq l2
      cases e
      exact ih r2
theorem Run.len {m : Nat} {gs : List G} {c a : List (Option Nat)} (h : Run m gs c a) : a.length = c.length := by
  induction h with
  | stop e => rfl
  | step l _ ih => rw [ih, List.length_set]
theorem run_ex {m : Nat} {gs : List G} : ∀ (n : Nat) (c : List (Option Nat)), (opn m gs c).length = n → m + gs.length ≤ c.length → ∃ a, Run m gs c a := by
  intro n
  induction n using Nat.strongRecOn with
  | ind n ih =>
    intro c hn hl
    by_cases q : cands m gs c = []
    · exact ⟨c, .stop q⟩
    · obtain ⟨⟨t, k⟩, hp⟩ := leastP_ex q
      obtain ⟨h1, h2, g, h3, h4⟩ := cand_is hp.1
      have hk : m + k < c.length := by omega
      have mem : k ∈ opn m gs c := List.mem_filter.mpr ⟨List.mem_range.mpr h1, by simpa using h2⟩
      have e := opn_set (gs := gs) (t := t) hk
      have le : ((opn m gs c).erase k).length < n := by
        rw [List.length_erase_of_mem mem, hn]
        have := List.length_pos_of_mem mem
        omega
      obtain ⟨a, ha⟩ := ih _ le (c.set (m + k) (some t)) (by rw [e]) (by simpa using hl)
      exact ⟨a, .step hp ha⟩
/-- a network: its gates hang on what there is -/
structure Ok (m : Nat) (gs : List G) : Prop where
  hm : m ≤ 6
  hn : gs.length ≤ 40
  op : ∀ g ∈ gs, ∀ k ∈ g.o, k < m + gs.length
  many : ∀ g ∈ gs, g.o.length ≤ 60
  m1 : 1 ≤ m
  ne : ∀ g ∈ gs, 1 ≤ g.o.length
  dl : ∀ g ∈ gs, g.d ≤ 2000
end K89
namespace K89
open PySem L2 Fl
theorem gs_at {gs : List G} {k : Nat} {g : G} (e : gs[k]? = some g) : (gs.map G.e)[k]? = some g.e := by rw [List.getElem?_map, e]; rfl
theorem opn_lt {m : Nat} {gs : List G} {c : List (Option Nat)} {k : Nat} (h : k ∈ opn m gs c) : k < gs.length := List.mem_range.mp (List.mem_filter.mp h).1
theorem cands_map {m : Nat} {gs : List G} {came : List (Option Nat)} {w : Nat → Option D} (hw : ∀ k ∈ opn m gs came, w k = ((gs[k]?).bind fun g => (tb g came).map fun t => (t, k)).map pN) :
    (opn m gs came).filterMap w = (cands m gs came).map pN := by
  rw [← cands_opn, List.map_filterMap]
  exact fm_congr fun k hk => hw k hk
theorem opn_init {m : Nat} {gs : List G} {ts : List (Option Nat)} (hts : ts.length = m) : opn m gs (ts ++ List.replicate gs.length none) = List.range gs.length := by
  unfold opn
  refine List.filter_eq_self.mpr fun k hk => ?_
  have := List.mem_range.mp hk
  simp [cv, List.getElem?_append_right, hts, this]
def told (gs : List G) (came : List (Option Nat)) (k : Nat) : D := .tup [oD ((gs[k]?).bind fun g => tb g came), .int k]
theorem cl_told {n : Nat} {gs : List G} {came : List (Option Nat)} {l : List Nat} : clDs n (l.map (told gs came)) = true := clDs_map fun _ _ => by simp [told, cl_oD]
theorem cl_pN {n : Nat} {l : List (Nat × Nat)} : clDs n (l.map pN) = true := clDs_map fun _ _ => by simp [pN]
theorem comes_s {m : Nat} {gs : List G} {ts c' : List (Option Nat)} (ok : Ok m gs) (hts : ts.length = m) (run : Run m gs (ts ++ List.replicate gs.length none) c') {h : IH} :
    Fcomes [netD m gs, .tup (ts.map oD)] h = .ok (.tup ((c'.drop m).map oD)) h := by
  have hn := ok.hn
  have hm := ok.hm
  have sm := small (show gs.length ≤ 4000 by omega)
  have sm2 : m + gs.length ≤ 16777216 := by omega
  simp [Fcomes, Scomes, sm, sm2, hts, fz_lst, fz_two, cl_oDs, muO_s, clDs_iff]
  refine wh_run (m := gs.length) (fun n e H => ∃ (came : List (Option Nat)) (a6 a7 a8 a9 a10 : Option D), n = (opn m gs came).length ∧ Keep h H ∧ came.length = m + gs.length ∧ Run m gs came c' ∧
    e = [some (netD m gs), some (D.tup (List.map oD ts)), some (D.int m), some (gsD gs), some (D.ref (List.length h)), some (D.ref (List.length h + 1)), a6, a7, a8, a9, a10] ∧
    H[h.length]? = some (.lst (came.map oD)) ∧ H[h.length + 1]? = some (.lst (nDs (opn m gs came)))) (fun r => gc h (endS (r.sq _)) = _) (by simp [RS.sq, gc]) ?_ ?_
  · rintro n e H ⟨came, a6, a7, a8, a9, a10, rfl, kp, hl, run, rfl, h1, h2⟩
    have fin : ∀ (e : Lc) (H : IH), e[4]? = some (some (D.ref h.length)) → e[2]? = some (some (D.int m)) → Keep h H → H[h.length]? = some (.lst (c'.map oD)) →
        gc h (endS ((RS.nx e H).sq (sRt (eB bTup (aCons (eFz (eSl (eV 4) (oE (eV 2)) oN)) aNil))))) = R.ok (D.tup (List.drop m (List.map oD c'))) h := by
      intro e H q4 q2 kp q
      have cu : cutD (c'.map oD) (some (m : Nat)) none = (c'.map oD).drop m := cut_from (by rw [List.length_map, run.len, hl]; omega)
      have cl : clDs H.length ((c'.map oD).drop m) = true := by rw [← List.map_drop]; exact cl_oDs
      simp [q4, q2, q, cu, fz_lst, cl]
      have cl2 : clDs h.length ((c'.map oD).drop m) = true := by rw [← List.map_drop]; exact cl_oDs
      exact gc_keep kp (by simpa using cl2)
    have hlt : h.length < H.length := (List.getElem?_eq_some_iff.mp h1).1
    by_cases q : opn m gs came = []
    · refine .inl ⟨H, by simp [h2, q], ?_⟩
      have ce : cands m gs came = [] := by rw [← cands_opn, q]; rfl
      have e : came = c' := by
        cases run with
        | stop _ => rfl
        | step l _ => rw [ce] at l; exact absurd l.1 (by simp)
      subst e
      exact fin _ H rfl rfl kp h1
    · have pos := List.length_pos_iff.mpr q
      refine .inr ⟨H, by simp [h2]; omega, ?_⟩
      generalize hb : sSeq _ _ _ _ = r
      simp [h2] at hb
      rw [fz_map (opn m gs came) (fun k : Nat => D.int k) (told gs came) rfl rfl (fun acc => Keep.one h2) ?_ ?_ cl_told] at hb
      · simp at hb
        have wk : ∀ k ∈ opn m gs came, (fun k => ((gs[k]?).bind fun g => (tb g came).map fun t => (t, k)).map pN) k = ((gs[k]?).bind fun g => (tb g came).map fun t => (t, k)).map pN := fun _ _ => rfl
        have e3 := cands_map wk
        rw [fz_filt (opn m gs came) (told gs came) (fun k => ((gs[k]?).bind fun g => (tb g came).map fun t => (t, k)).map pN) rfl rfl (fun _ => trivial) ?_ ?_ (by rw [e3]; exact cl_pN), e3] at hb
        · simp at hb
          by_cases ce : cands m gs came = []
          · have e : came = c' := by
              cases run with
              | stop _ => rfl
              | step l _ => rw [ce] at l; exact absurd l.1 (by simp)
            subst e
            simp [ce] at hb
            subst hb
            exact .inr (.inl ⟨_, _, rfl, fin _ H rfl rfl kp h1⟩)
          · cases run with
            | stop e => exact absurd e ce
            | @step _ _ t k lp run =>
              obtain ⟨k1, k2, g, k3, k4⟩ := cand_is lp.1
              have hk : m + k < came.length := by omega
              have mem : k ∈ opn m gs came := List.mem_filter.mpr ⟨List.mem_range.mpr k1, by simpa using k2⟩
              have gp : gMin [D.fls (List.map pN (cands m gs came))] H = .ok (pN (t, k)) H := gMin_p lp
              have pu := fPuy_l (h := H) (n := h.length) (d := .int t) (i := m + k) h1 (by simpa using hk)
              have h2' : (H.set h.length (HB.lst ((came.map oD).set (m + k) (.int t))))[h.length + 1]? = some (.lst (nDs (opn m gs came))) := by
                rw [List.getElem?_set_ne (by omega)]
                exact h2
              have rm := mRemove_s (k := k) h2' mem
              have pu2 := pu
              push_cast at pu2
              have ty := isLst_r h2'
              simp [ce, gp, pN, pu2, h2, rm, setAll] at hb
              subst hb
              have es := opn_set (gs := gs) (t := t) hk
              refine .inl ⟨_, _, _, .inl rfl, ?_, came.set (m + k) (some t), _, _, _, _, _, rfl, (kp.set (Nat.le_refl _)).set (p := h.length + 1) (by omega), by simpa using hl, run, rfl, ?_, ?_⟩
              · rw [es, List.length_erase_of_mem mem]
                omega
              · rw [List.getElem?_set_ne (by omega), List.getElem?_set_self hlt, List.map_set]
                rfl
              · rw [es, List.getElem?_set_self]
                rw [List.length_set]
                exact (List.getElem?_eq_some_iff.mp h2).1
        · have := List.length_filter_le (fun k => decide (cv came (m + k) = none)) (List.range gs.length)
          rw [List.length_range] at this
          unfold opn
          omega
        · intro k hk
          refine ⟨_, rfl, fun acc H2 hH => ?_⟩
          have hg : gs[k]? = some (gs[k]'(opn_lt hk)) := List.getElem?_eq_getElem _
          cases ht : tb (gs[k]'(opn_lt hk)) came with
          | none => simp [told, hg, ht, isN]
          | some t => simp [told, hg, ht, isN, pN]
      · have := List.length_filter_le (fun k => decide (cv came (m + k) = none)) (List.range gs.length)
        rw [List.length_range] at this
        unfold opn
        omega
      · intro k hk
        refine ⟨_, rfl, fun acc H2 hH => ?_⟩
        have hg : gs[k]? = some (gs[k]'(opn_lt hk)) := List.getElem?_eq_getElem _
        have h1' : H2[h.length]? = some (.lst (came.map oD)) := by rw [hH]; exact Keep.one h1
        have tbs := time_by_s (g := gs[k]'(opn_lt hk)) h1' (fun j hj => by rw [hl]; exact ok.op _ (List.getElem_mem _) j hj) (by have := ok.many _ (List.getElem_mem (opn_lt hk)); omega)
        simp [hg, tbs, told]
  · refine ⟨ts ++ List.replicate gs.length none, none, none, none, none, none, ?_, ⟨_, rfl⟩, by simp [hts], run, rfl, by simp, ?_⟩
    · rw [opn_init hts]; simp
    · rw [opn_init hts]; simp [rgD_map]
end K89
namespace K89
open PySem L2 Fl
/-! ### what is needed -/
def below (m : Nat) (g : G) : List Nat := g.o.filterMap fun o => if m ≤ o then some (o - m) else none
def blw (m : Nat) (gs : List G) (k : Nat) : List Nat := ((gs[k]?).map (below m)).getD []
inductive Reach (m : Nat) (gs : List G) (S : List Nat) : Nat → Prop
  | base {k} : k ∈ S → Reach m gs S k
  | step {j k} : Reach m gs S j → k ∈ blw m gs j → Reach m gs S k
open Classical in
noncomputable def need (m : Nat) (gs : List G) (S : List Nat) : List Nat := (List.range gs.length).filter fun k => decide (Reach m gs S k)
theorem below_lt {m : Nat} {gs : List G} (ok : Ok m gs) {g : G} (hg : g ∈ gs) {k : Nat} (hk : k ∈ below m g) : k < gs.length := by
  obtain ⟨o, ho, e⟩ := List.mem_filterMap.mp hk
  have := ok.op g hg o ho
  split at e
  · cases e; omega
  · cases e
theorem below_len (m : Nat) (g : G) : (below m g).length ≤ g.o.length := List.length_filterMap_le _ _
theorem reach_lt {m : Nat} {gs : List G} (ok : Ok m gs) {S : List Nat} (hS : ∀ k ∈ S, k < gs.length) {k : Nat} (h : Reach m gs S k) : k < gs.length := by
  induction h with
  | base h => exact hS _ h
  | @step j k _ hk ih =>
    have e : gs[j]? = some gs[j] := List.getElem?_eq_getElem ih
    unfold blw at hk
    rw [e] at hk
    exact below_lt ok (List.getElem_mem ih) hk
theorem need_mem {m : Nat} {gs : List G} (ok : Ok m gs) {S : List Nat} (hS : ∀ k ∈ S, k < gs.length) {k : Nat} : k ∈ need m gs S ↔ Reach m gs S k := by
  unfold need
  rw [List.mem_filter, List.mem_range]
  simp
  exact fun h => reach_lt ok hS h
theorem gates_below_s {m : Nat} {gs : List G} {k : Nat} {g : G} (hg : gs[k]? = some g) (hz : g.o.length ≤ 1000) {h : IH} : Fgates_below [netD m gs, .int k] h = .ok (.fls (nDs (below m g))) h := by
  simp [Fgates_below, Sgates_below, hg, G.e]
  have e : nDs (below m g) = g.o.filterMap fun o => if m ≤ o then some (D.int ((o - m : Nat) : Int)) else none := by
    unfold below nDs
    rw [List.map_filterMap]
    refine fm_congr fun x _ => ?_
    by_cases q : m ≤ x <;> simp [q]
  rw [fz_filt g.o (fun k : Nat => D.int k) (fun o => if m ≤ o then some (D.int ((o - m : Nat) : Int)) else none) rfl rfl (fun _ => trivial) (by omega)]
  · rw [← e]
    simp
  · intro o ho
    refine ⟨_, rfl, fun acc H hH => ?_⟩
    by_cases q : m ≤ o
    · have q2 : (m : Int) ≤ o := by omega
      simp [q, q2]
      omega
    · have q2 : ¬ (m : Int) ≤ o := by omega
      simp [q, q2]
  · rw [← e]
    exact clDs_map fun _ _ => by simp
theorem need_asc {m : Nat} {gs : List G} {S : List Nat} : (need m gs S).Pairwise (· < ·) := List.Pairwise.filter _ (range_lt _)
theorem need_len {m : Nat} {gs : List G} {S : List Nat} : (need m gs S).length ≤ gs.length := by
  have := List.length_filter_le (fun k => @decide (Reach m gs S k) (Classical.propDecidable _)) (List.range gs.length)
  rw [List.length_range] at this
  unfold need
  exact this
theorem nodup_le {F : List Nat} (hF : F.Nodup) {n : Nat} (h : ∀ k ∈ F, k < n) : F.length ≤ n := by
  have nd2 : ((List.range n).filter fun k => decide (k ∈ F)).Nodup := List.Pairwise.filter _ List.nodup_range
  have p : F.Perm ((List.range n).filter fun k => decide (k ∈ F)) := (List.perm_ext_iff_of_nodup hF nd2).mpr fun k => by
    rw [List.mem_filter, List.mem_range]
    simp
    exact fun hk => h k hk
  rw [p.length_eq]
  have := List.length_filter_le (fun k => decide (k ∈ F)) (List.range n)
  rwa [List.length_range] at this
theorem needed_for_s {m : Nat} {gs : List G} (ok : Ok m gs) {S : List Nat} (hS : ∀ k ∈ S, k < gs.length) (hz : S.length ≤ 1000) {d : D} (hd : d = .fls (nDs S) ∨ d = .tup (nDs S)) {h : IH} :
    Fneeded_for [netD m gs, d] h = .ok (.tup (nDs (need m gs S))) h := by
  have hn := ok.hn
  have e0 : bList [d] (h ++ [HB.dic []]) = .ok (.ref (h.length + 1)) (h ++ [.dic [], .lst (nDs S)]) := by
    rcases hd with rfl | rfl <;> simp
  simp [Fneeded_for, Sneeded_for, e0]
  refine wh_run (m := gs.length * 100 + S.length) (fun n e H => ∃ (F R : List Nat) (a4 : Option D), n = (gs.length - F.length) * 100 + R.length ∧ n ≤ 6000 ∧ Keep h H ∧ F.Nodup ∧ (∀ k ∈ F, Reach m gs S k) ∧ (∀ k ∈ R, Reach m gs S k) ∧
    (∀ k ∈ F, ∀ j ∈ blw m gs k, j ∈ F ∨ j ∈ R) ∧ (∀ k ∈ S, k ∈ F ∨ k ∈ R) ∧ e = [some (netD m gs), some d, some (D.ref (List.length h)), some (D.ref (List.length h + 1)), a4] ∧
    H[h.length]? = some (.dic (dS F)) ∧ H[h.length + 1]? = some (.lst (nDs R))) (fun r => gc h (endS (r.sq _)) = _) (by simp [RS.sq, gc]) ?_ ?_
  · rintro n e H ⟨F, R, a4, rfl, hm, kp, nd, rF, rR, cl, st, rfl, h1, h2⟩
    have hF : ∀ k ∈ F, k < gs.length := fun k hk => reach_lt ok hS (rF k hk)
    have lF := nodup_le nd hF
    have l1 := (List.getElem?_eq_some_iff.mp h1).1
    have l2 := (List.getElem?_eq_some_iff.mp h2).1
    rcases List.eq_nil_or_concat R with rfl | ⟨R, k, rfl⟩
    · refine .inl ⟨H, by simp [h2], ?_⟩
      have mem : ∀ k, k ∈ F ↔ k ∈ need m gs S := fun k => by
        rw [need_mem ok hS]
        refine ⟨fun q => rF k q, fun q => ?_⟩
        induction q with
        | base q =>
          rcases st _ q with q | q
          · exact q
          · cases q
        | step _ hk ih =>
          rcases cl _ ih _ hk with q | q
          · exact q
          · cases q
      have so := gSorted_dS (n := h.length) (h := H) h1 (by omega) nd need_asc mem
      have cl0 : ∀ n, clDs n (nDs (need m gs S)) = true := fun n => clDs_map fun _ _ => by simp
      simp [so, fz_lst, cl0]
      exact gc_keep kp (by simpa using cl0 h.length)
    · have kR : Reach m gs S k := rR k (by simp)
      have kl := reach_lt ok hS kR
      have hg : gs[k]? = some gs[k] := List.getElem?_eq_getElem kl
      refine .inr ⟨H, by simp [h2], ?_⟩
      generalize hb : sSeq _ _ _ _ = r
      have po : mPop (.ref (h.length + 1)) [] H = .ok (.int k) (H.set (h.length + 1) (.lst (nDs R))) := mPop_s (L := nDs R) (d := .int k) (by rw [h2]; simp)
      have h1' : (H.set (h.length + 1) (HB.lst (nDs R)))[h.length]? = some (.dic (dS F)) := by
        rw [List.getElem?_set_ne (by omega)]
        exact h1
      have h2' : (H.set (h.length + 1) (HB.lst (nDs R)))[h.length + 1]? = some (.lst (nDs R)) := List.getElem?_set_self l2
      have fi := fIn_dic (neg := true) (i := (k : Int)) h1'
      rw [kvK_dS] at fi
      simp [h2, po, fi] at hb
      by_cases q : k ∈ F
      · simp [q] at hb
        subst hb
        refine .inl ⟨_, _, _, .inl rfl, ?_, F, R, _, rfl, ?_, kp.set (p := h.length + 1) (by omega), nd, rF, fun j hj => rR j (by simp [hj]), fun i hi j hj => ?_, fun j hj => ?_, rfl, h1', h2'⟩
        · simp
        · simp at hm ⊢; omega
        · rcases cl i hi j hj with z | z
          · exact .inl z
          · simp at z
            rcases z with z | rfl
            · exact .inr z
            · exact .inl q
        · rcases st j hj with z | z
          · exact .inl z
          · simp at z
            rcases z with z | rfl
            · exact .inr z
            · exact .inl q
      · have pu := fPuy_dS h1' q (by omega)
        have h1'' : ((H.set (h.length + 1) (HB.lst (nDs R))).set h.length (.dic (dS (F ++ [k]))))[h.length]? = some (.dic (dS (F ++ [k]))) := List.getElem?_set_self (by rw [List.length_set]; exact l1)
        have h2'' : ((H.set (h.length + 1) (HB.lst (nDs R))).set h.length (.dic (dS (F ++ [k]))))[h.length + 1]? = some (.lst (nDs R)) := by
          rw [List.getElem?_set_ne (by omega)]
          exact h2'
        have om := ok.many gs[k] (List.getElem_mem kl)
        have bl := below_len m gs[k]
        have gb := gates_below_s (m := m) hg (by omega) (h := (H.set (h.length + 1) (HB.lst (nDs R))).set h.length (.dic (dS (F ++ [k]))))
        simp at hm
        have ge := gExt_s (n := h.length + 1) (d := .fls (nDs (below m gs[k]))) h2'' rfl (by simp; omega)
        have nd' : (F ++ [k]).Nodup := by
          rw [List.nodup_append]
          exact ⟨nd, by simp, fun a ha b hb z => by simp at hb; subst hb; exact q (z ▸ ha)⟩
        have lF' := nodup_le nd' (n := gs.length) fun j hj => by
          rcases List.mem_append.mp hj with z | z
          · exact hF j z
          · simp at z; subst z; exact kl
        have eb : blw m gs k = below m gs[k] := by unfold blw; rw [hg]; rfl
        simp at lF'
        simp [q, pu, gb, ge, h2''] at hb
        subst hb
        refine .inl ⟨_, _, _, .inl rfl, ?_, F ++ [k], R ++ below m gs[k], _, rfl, ?_, ((kp.set (p := h.length + 1) (by omega)).set (p := h.length) (by omega)).set (p := h.length + 1) (by omega), nd', fun j hj => ?_, fun j hj => ?_, fun i hi j hj => ?_, fun j hj => ?_, rfl, ?_, ?_⟩
        · simp; omega
        · simp; omega
        · rcases List.mem_append.mp hj with z | z
          · exact rF j z
          · simp at z; subst z; exact kR
        · rcases List.mem_append.mp hj with z | z
          · exact rR j (by simp [z])
          · exact .step kR (by rw [eb]; exact z)
        · rcases List.mem_append.mp hi with z | z
          · rcases cl i z j hj with y | y
            · exact .inl (by simp [y])
            · simp at y
              rcases y with y | rfl
              · exact .inr (by simp [y])
              · exact .inl (by simp)
          · simp at z
            subst z
            rw [eb] at hj
            exact .inr (by simp [hj])
        · rcases st j hj with y | y
          · exact .inl (by simp [y])
          · simp at y
            rcases y with y | rfl
            · exact .inr (by simp [y])
            · exact .inl (by simp)
        · rw [List.getElem?_set_ne (by omega)]
          exact h1''
        · rw [List.getElem?_set_self (by simpa using l2)]
          simp [nDs]
  · refine ⟨[], S, none, by simp, by omega, ⟨_, rfl⟩, by simp, by simp, fun k hk => .base hk, by simp, fun k hk => .inr hk, rfl, by simp [dS], by simp⟩
/-! ### loops -/
noncomputable def loops (m : Nat) (gs : List G) : List Nat := (List.range gs.length).filter fun k => decide (k ∈ need m gs (blw m gs k))
theorem blw_lt {m : Nat} {gs : List G} (ok : Ok m gs) {k j : Nat} (h : j ∈ blw m gs k) : j < gs.length := by
  unfold blw at h
  cases e : gs[k]? with
  | none => rw [e] at h; cases h
  | some g =>
    rw [e] at h
    exact below_lt ok (List.mem_of_getElem? e) h
theorem gates_in_loops_s {m : Nat} {gs : List G} (ok : Ok m gs) {h : IH} : Fgates_in_loops [netD m gs] h = .ok (.tup (nDs (loops m gs))) h := by
  have hn := ok.hn
  have sm := small (show gs.length ≤ 4000 by omega)
  simp [Fgates_in_loops, Sgates_in_loops, sm, k_ir1]
  refine for_rg (fun i e H => ∃ a2, e = [some (netD m gs), some (D.ref h.length), a2] ∧ Keep h H ∧ H[h.length]? = some (.lst (nDs ((List.range i).filter fun k => decide (k ∈ need m gs (blw m gs k)))))) (fun r => gc h (endS (r.sq _)) = _) ?_ ?_ ?_
  · rintro i e H hi ⟨a2, rfl, kp, h1⟩
    refine ⟨trivial, _, rfl, .inl ?_⟩
    have hg : gs[i]? = some gs[i] := List.getElem?_eq_getElem hi
    have om := ok.many gs[i] (List.getElem_mem hi)
    have bl := below_len m gs[i]
    have gb := gates_below_s (m := m) hg (by omega) (h := H)
    have eb : blw m gs i = below m gs[i] := by unfold blw; rw [hg]; rfl
    have nf := needed_for_s ok (S := below m gs[i]) (fun k hk => below_lt ok (List.getElem_mem hi) hk) (by omega) (.inl rfl) (h := H)
    generalize hb : sIf _ _ _ _ _ = r
    have hle := filter_rg_le (fun k => decide (k ∈ need m gs (blw m gs k))) i
    have ap := mAppend_s (n := h.length) (d := .int i) h1 (by rw [List.length_map]; omega)
    simp [gb, nf, fIn_tup] at hb
    rw [filter_succ]
    rw [eb]
    by_cases q : i ∈ need m gs (below m gs[i])
    · simp [q, h1, ap] at hb
      subst hb
      refine ⟨_, _, .inl rfl, _, rfl, kp.set (Nat.le_refl _), ?_⟩
      rw [List.getElem?_set_self (List.getElem?_eq_some_iff.mp h1).1]
      simp [q]
    · simp [q] at hb
      subst hb
      exact ⟨_, _, .inl rfl, _, rfl, kp, by simpa [q] using h1⟩
  · rintro e H ⟨a2, rfl, kp, h1⟩
    refine ⟨trivial, ?_⟩
    simp [h1]
    show gc h (.ok (.tup (nDs (loops m gs))) H) = _
    exact gc_keep kp (by rw [clD_tup]; exact cl_nDs)
  · exact ⟨none, rfl, ⟨_, rfl⟩, by simp⟩
theorem users_of_s {m : Nat} {gs : List G} (ok : Ok m gs) {k : Nat} (hk : k < m + gs.length) {h : IH} :
    Fusers_of [netD m gs, .int k] h = .ok (.tup (nDs ((List.range gs.length).filter fun j => decide (k ∈ ((gs[j]?).map G.o).getD [])))) h := by
  have hn := ok.hn
  have sm := small (show gs.length ≤ 4000 by omega)
  have q1 : (0 : Int) ≤ k ∧ (k : Int) < (m : Int) + (gs.length : Int) := by omega
  simp [Fusers_of, Susers_of, is_below_int, q1, sm, rgD_map, tru]
  rw [fz_filt (List.range gs.length) (fun k : Nat => D.int k) (fun j => if k ∈ ((gs[j]?).map G.o).getD [] then some (D.int j) else none) rfl rfl (fun _ => trivial) (by simp; omega)]
  · have e : (List.range gs.length).filterMap (fun j => if k ∈ ((gs[j]?).map G.o).getD [] then some (D.int (j : Nat)) else none) = nDs ((List.range gs.length).filter fun j => decide (k ∈ ((gs[j]?).map G.o).getD [])) := by
      exact fm_filter (fun j : Nat => D.int (j : Nat)) _
    rw [e]
    simp
  · intro j hj
    have hj := List.mem_range.mp hj
    have hg : gs[j]? = some gs[j] := List.getElem?_eq_getElem hj
    refine ⟨_, rfl, fun acc H hH => ?_⟩
    have fi := fIn_tup (neg := false) (k := k) (l := gs[j].o) (h := H)
    by_cases q : k ∈ gs[j].o
    · simp [hg, G.e, fi, q]
    · simp [hg, G.e, fi, q]
  · rw [clDs_iff]
    intro d hd
    obtain ⟨k, _, e⟩ := List.mem_filterMap.mp hd
    split at e
    · cases e; simp
    · cases e
theorem users_of_bad {m : Nat} {gs : List G} {d : D} {h : IH} (hb : ∀ h : IH, Fis_below [d, .int ((m : Int) + gs.length)] h = .ok (.bl false) h) :
    Fusers_of [netD m gs, d] h = .ex 5 [("word", .str "number")] h := by
  simp [Fusers_of, Susers_of, hb, tru]
def tms (l : List (Option Nat)) : List Nat := l.filterMap id
theorem latest_time_s {m : Nat} {gs : List G} {ts c : List (Option Nat)} {h : IH} (hc : ∀ h : IH, Fcomes [netD m gs, .tup (ts.map oD)] h = .ok (.tup (c.map oD)) h) (hz : c.length ≤ 1000) :
    Flatest_time [netD m gs, .tup (ts.map oD)] h = .ok (if tms c = [] then .non else .int (lmax (tms c))) h := by
  simp [Flatest_time, Slatest_time, hc]
  rw [fz_filt c oD (fun o => o.map fun t : Nat => D.int t) rfl rfl (fun _ => trivial) (by omega)]
  · have e : c.filterMap (fun o => o.map fun t : Nat => D.int t) = nDs (tms c) := by
      unfold tms nDs
      rw [List.map_filterMap]
      rfl
    rw [e]
    by_cases q : tms c = []
    · simp [q]
    · have := List.length_pos_iff.mpr q
      simp [q, gMax_s q, this]
  · intro o ho
    refine ⟨_, rfl, fun acc H hH => ?_⟩
    cases o <;> simp [isN]
  · rw [clDs_iff]
    intro d hd
    obtain ⟨k, _, e⟩ := List.mem_filterMap.mp hd
    cases k with
    | none => cases e
    | some t => cases e; simp
end K89
namespace K89
open PySem L2 Fl
/-! ### checks -/
@[simp] theorem s_isf (g : G) : g.w = Str.ofString "first" ∨ g.w = Str.ofString "last" := by
  unfold G.w
  cases g.f <;> simp
theorem inF_w (g : G) : inF (.str g.w) [.str "first", .str "last"] = true := by
  unfold G.w
  cases g.f <;> simp [inF, eqF]
theorem is_gate_s {g : G} {h : IH} (h1 : 1 ≤ g.o.length) (h2 : g.o.length ≤ 60) (h3 : g.d ≤ 2000) : Fis_gate [g.e] h = .ok (.bl true) h := by
  have fi : fIn true (.str g.w) (.tup [.str "first", .str "last"]) h = .ok (.bl false) h := by
    dsimp only [fIn]
    rw [if_pos (by simp [flatD]), inF_w]
    rfl
  have q1 : (1 : Int) ≤ g.o.length ∧ (g.o.length : Int) ≤ 60 := by omega
  have q2 : (g.d : Int) < 2001 := by omega
  simp [Fis_gate, Sis_gate, G.e, is_row_tup, tru, tyD, isT, fi, q1, is_below_int, q2]
theorem check_network_s {m : Nat} {gs : List G} (ok : Ok m gs) {h : IH} : Fcheck_network [netD m gs] h = .ok (.int gs.length) h := by
  have hn := ok.hn
  have hm := ok.hm
  have m1 := ok.m1
  have sm := small (show gs.length ≤ 4000 by omega)
  have q1 : (1 : Int) ≤ m ∧ (m : Int) ≤ 6 := by omega
  have q2 : ¬ (40 : Int) < gs.length := by omega
  simp [Fcheck_network, Scheck_network, is_row_tup, tru, tyD, isT, is_number_int, q1, q2, sm]
  refine for_rg (fun i e H => ∃ a3 a4, e = [some (netD m gs), some (.int m), some (gsD gs), a3, a4] ∧ H = h) (fun r => gc h (endS (r.sq _)) = _) ?_ ?_ ?_
  · rintro i e H hi ⟨a3, a4, rfl, rfl⟩
    refine ⟨trivial, _, rfl, .inl ?_⟩
    have hg : gs[i]? = some gs[i] := List.getElem?_eq_getElem hi
    have mem := List.getElem_mem hi
    have ig := is_gate_s (h := H) (ok.ne _ mem) (ok.many _ mem) (ok.dl _ mem)
    have om := ok.many _ mem
    generalize hb : sSeq _ _ _ _ = r
    simp [hg, ig, tru] at hb
    simp [G.e] at hb
    rw [fz_filt gs[i].o (fun k : Nat => D.int k) (fun _ => none) rfl rfl (fun _ => trivial) (by omega)] at hb
    · simp at hb
      subst hb
      exact ⟨_, _, .inl rfl, _, _, rfl, rfl⟩
    · intro o ho
      refine ⟨_, rfl, fun acc H hH => ?_⟩
      have := ok.op _ mem o ho
      have q3 : (0 : Int) ≤ o ∧ (o : Int) < (m : Int) + gs.length := by omega
      simp [is_below_int, q3, tru]
    · rw [clDs_iff]
      intro d hd
      obtain ⟨_, _, z⟩ := List.mem_filterMap.mp hd
      cases z
  · rintro e H ⟨a3, a4, rfl, rfl⟩
    refine ⟨trivial, ?_⟩
    simp
  · exact ⟨_, _, rfl, rfl⟩
theorem is_network_s {m : Nat} {gs : List G} (ok : Ok m gs) {h : IH} : Fis_network [netD m gs] h = .ok (.bl true) h := by
  simp [Fis_network, Sis_network, check_network_s ok]
/-! ### numbers changed -/
def ren (φ : Nat → Nat) (g : G) : G := { g with o := g.o.map φ }
theorem renumbered_s {gs : List G} {φ : Nat → Nat} {a d : D} {h : IH} (ha : a = .fls (gs.map G.e) ∨ a = .tup (gs.map G.e)) (hz : gs.length ≤ 1000) (hz2 : ∀ g ∈ gs, g.o.length ≤ 1000)
    (hφ : ∀ g ∈ gs, ∀ k ∈ g.o, ∀ H, Keep h H → fIy d (.int (k : Nat)) H = .ok (.int (φ k : Nat)) H) : Frenumbered [a, d] h = .ok (gsD (gs.map (ren φ))) h := by
  have it : itS a h = some (gs.map G.e, fun _ => True) := by rcases ha with rfl | rfl <;> rfl
  simp [Frenumbered, Srenumbered, it]
  rw [fz_map gs G.e (fun g => (ren φ g).e) rfl rfl (fun _ => trivial) (by omega)]
  · simp [gsD]
  · intro g hg
    refine ⟨_, rfl, fun acc H hH => ?_⟩
    have k1 : Keep h H := ⟨_, hH⟩
    have hg2 := hz2 g hg
    simp [setAll, G.e]
    rw [fz_map g.o (fun k : Nat => D.int k) (fun k => .int (φ k : Nat)) rfl rfl (fun _ => trivial) (by omega)]
    · simp [ren, G.w]
      rfl
    · intro k hk
      refine ⟨_, rfl, fun acc2 H2 hH2 => ?_⟩
      have k2 : Keep h H2 := k1.trans ⟨_, hH2⟩
      simp [hφ g hg k hk H2 k2]
    · exact clDs_map fun _ _ => by simp
  · exact clDs_map fun _ _ => cl_G
/-! ### beside -/
def bφ (m n k : Nat) : Nat := if k < m then k else k + n
def both (m : Nat) (gs os : List G) : List G := gs ++ os.map (ren (bφ m gs.length))
theorem fIy_nat {l : List Nat} {k : Nat} {H : IH} (hk : k < l.length) : fIy (.fls (nDs l)) (.int (k : Nat)) H = .ok (.int (l[k] : Nat)) H := by
  simp [List.getElem?_eq_getElem hk]
theorem beside_s {m : Nat} {gs os : List G} (ok : Ok m gs) (ok2 : Ok m os) (hz : gs.length + os.length ≤ 40) {h : IH} : Fbeside_networks [netD m gs, netD m os] h = .ok (netD m (both m gs os)) h := by
  have hm := ok.hm
  have sm := small (show os.length ≤ 4000 by omega)
  have sm2 := small (show m ≤ 4000 by omega)
  have q1 : ¬ (40 : Int) < (gs.length : Int) + os.length := by omega
  have e1 : nDs (List.range m ++ (List.range os.length).map fun i => m + gs.length + i) = nDs (List.range m) ++ (List.range os.length).map fun i : Nat => D.int ((m : Int) + gs.length + i) := by
    simp [nDs]
  have q2 : m + os.length ≤ 16777216 := by omega
  have len : (List.range m ++ (List.range os.length).map fun i => m + gs.length + i).length = m + os.length := by simp
  have rn : ∀ h : IH, Frenumbered [.tup (os.map G.e), .fls (nDs (List.range m ++ (List.range os.length).map fun i => m + gs.length + i))] h = .ok (gsD (os.map (ren (bφ m gs.length)))) h := fun h => by
    refine renumbered_s (.inr rfl) (by omega) (fun g hg => by have := ok2.many g hg; omega) fun g hg k hk H _ => ?_
    have kl := ok2.op g hg k hk
    rw [fIy_nat (by omega)]
    congr 3
    unfold bφ
    by_cases q : k < m
    · rw [if_pos q, List.getElem_append_left (by simpa using q)]
      simp
    · rw [if_neg q, List.getElem_append_right (by simpa using q)]
      simp
      omega
  simp [Fbeside_networks, Sbeside_networks, q1, sm, sm2, fz_lst, rgD_map, clDs_map]
  rw [fz_map (List.range os.length) (fun i : Nat => D.int i) (fun i : Nat => D.int ((m : Int) + gs.length + i)) rfl rfl (fun _ => trivial) (by simp; omega)]
  · rw [e1] at rn
    have q3 : gs.length + os.length ≤ 16777216 := by omega
    simp [q2, fz_lst, clDs_map, rn, q3, both]
  · intro i hi
    exact ⟨_, rfl, fun acc H hH => by simp⟩
  · exact clDs_map fun _ _ => by simp
theorem beside_num {m n : Nat} {gs os : List G} {h : IH} (ne : m ≠ n) : Fbeside_networks [netD m gs, netD n os] h = .ex 5 [("word", .str "number")] h := by
  have : ¬ (m : Int) = n := by omega
  simp [Fbeside_networks, Sbeside_networks, this]
theorem beside_wide {m : Nat} {gs os : List G} {h : IH} (hz : 40 < gs.length + os.length) : Fbeside_networks [netD m gs, netD m os] h = .ex 5 [("word", .str "wide")] h := by
  have : (40 : Int) < (gs.length : Int) + os.length := by omega
  simp [Fbeside_networks, Sbeside_networks, this]
end K89
namespace K89
open PySem L2 Fl
/-! ### trimmed -/
def tφ (m : Nat) (kept : List Nat) (k : Nat) : Nat := if k < m then k else m + kept.idxOf (k - m)
def trim (m : Nat) (gs : List G) (kept : List Nat) : List G := (kept.filterMap fun k => gs[k]?).map (ren (tφ m kept))
/-- kept is closed -/
def Closed (m : Nat) (gs : List G) (kept : List Nat) : Prop := ∀ k ∈ kept, ∀ j ∈ blw m gs k, j ∈ kept
theorem need_closed {m : Nat} {gs : List G} (ok : Ok m gs) {S : List Nat} (hS : ∀ k ∈ S, k < gs.length) : Closed m gs (need m gs S) := fun k hk j hj => by
  rw [need_mem ok hS] at hk ⊢
  exact .step hk hj
def ents (m : Nat) (kept : List Nat) (i : Nat) : List (Nat × Nat) := ((List.range m).map fun s => (s, s)) ++ (List.range i).map fun a => (m + kept.getD a 0, m + a)
theorem ents_succ (m : Nat) (kept : List Nat) (i : Nat) : ents m kept (i + 1) = ents m kept i ++ [(m + kept.getD i 0, m + i)] := by
  unfold ents
  rw [List.range_succ, List.map_append]
  simp
theorem lookup_app {l r : List (Nat × Nat)} {k : Nat} (h : k ∉ l.map (·.1)) : (l ++ r).lookup k = r.lookup k := by
  induction l with
  | nil => rfl
  | cons p l ih =>
    rw [List.map_cons, List.mem_cons] at h
    have q : (k == p.1) = false := beq_eq_false_iff_ne.mpr fun z => h (.inl z)
    rw [List.cons_append, List.lookup_cons, q]
    exact ih fun z => h (.inr z)
theorem lookup_rg (k : Nat) : ∀ n : Nat, k < n → (((List.range n).map fun s => (s, s)) : List (Nat × Nat)).lookup k = some k := by
  intro n
  induction n with
  | zero => intro h; omega
  | succ n ih =>
    intro h
    rw [List.range_succ, List.map_append]
    by_cases q : k < n
    · have e := ih q
      rw [List.lookup_append, e]
      rfl
    · have : k = n := by omega
      subst this
      rw [lookup_app (by simp)]
      simp
theorem lookup_l {l r : List (Nat × Nat)} {k v : Nat} (h : l.lookup k = some v) : (l ++ r).lookup k = some v := by
  rw [List.lookup_append, h]
  rfl
theorem ents_low {m : Nat} {kept : List Nat} {i k : Nat} (h : k < m) : (ents m kept i).lookup k = some k := lookup_l (lookup_rg k m h)
theorem kept_lookup {m : Nat} {j : Nat} : ∀ (kept : List Nat) (o : Nat), j ∈ kept → ((List.range kept.length).map fun a => (m + kept.getD a 0, o + a)).lookup (m + j) = some (o + kept.idxOf j)
  | [], _, h => by cases h
  | x :: kept, o, h => by
    rw [List.length_cons, List.range_succ_eq_map, List.map_cons, List.map_map, List.lookup_cons]
    by_cases q : x = j
    · subst q
      simp
    · have q2 : (m + j == m + (x :: kept).getD 0 0) = false := beq_eq_false_iff_ne.mpr (by simp; omega)
      rw [q2]
      have hj : j ∈ kept := by
        rcases List.mem_cons.mp h with z | z
        · exact absurd z.symm q
        · exact z
      have e := kept_lookup (m := m) kept (o + 1) hj
      have f : ((fun a => (m + (x :: kept).getD a 0, o + a)) ∘ Nat.succ) = fun a => (m + kept.getD a 0, o + 1 + a) := by
        funext a
        simp
        omega
      rw [f, e, List.idxOf_cons]
      have q3 : (x == j) = false := beq_eq_false_iff_ne.mpr q
      rw [q3]
      simp
      omega
theorem ents_high {m : Nat} {kept : List Nat} {j : Nat} (h : j ∈ kept) : (ents m kept kept.length).lookup (m + j) = some (m + kept.idxOf j) := by
  unfold ents
  rw [lookup_app (by simp), kept_lookup kept m h]
theorem ents_keys {m : Nat} {kept : List Nat} {i : Nat} (nd : kept.Nodup) (hi : i < kept.length) : m + kept.getD i 0 ∉ (ents m kept i).map (·.1) := by
  unfold ents
  rw [List.map_append, List.mem_append]
  intro z
  rcases z with z | z
  · simp at z
    omega
  · simp at z
    obtain ⟨a, ha, e⟩ := z
    have h1 : kept[a]?.getD 0 = kept[a]'(by omega) := by rw [List.getElem?_eq_getElem (by omega)]; rfl
    have h2 : kept[i]?.getD 0 = kept[i] := by rw [List.getElem?_eq_getElem hi]; rfl
    rw [h1, h2] at e
    have := (List.getElem_inj nd).mp e
    omega
theorem trimmed_s {m : Nat} {gs : List G} (ok : Ok m gs) {S : List Nat} (hS : ∀ k ∈ S, k < gs.length) (hz : S.length ≤ 1000) {h : IH} :
    Ftrimmed_network [netD m gs, .tup (nDs S)] h = .ok (netD m (trim m gs (need m gs S))) h := by
  have hm := ok.hm
  have hn := ok.hn
  have sm := small (show m ≤ 4000 by omega)
  have nl := need_len (m := m) (gs := gs) (S := S)
  have sm2 := small (show (need m gs S).length ≤ 4000 by omega)
  have nf : ∀ h : IH, Fneeded_for [netD m gs, .tup (nDs S)] h = .ok (.tup (nDs (need m gs S))) h := fun h => needed_for_s ok hS hz (.inr rfl)
  have kl : ∀ k ∈ need m gs S, k < gs.length := fun k hk => reach_lt ok hS ((need_mem ok hS).mp hk)
  have nd : (need m gs S).Nodup := need_asc.imp fun h => Nat.ne_of_lt h
  have cls := need_closed ok hS
  generalize need m gs S = kept at nf nl sm2 kl nd cls
  simp [Ftrimmed_network, Strimmed_network, nf, sm, sm2, rgD_map]
  rw [fz_map (List.range m) (fun k : Nat => D.int k) (pN ∘ fun s : Nat => (s, s)) rfl rfl (fun _ => trivial) (by simp; omega)]
  · have gd := gDict_s (ps := (List.range m).map fun s => (s, s)) (h := h) (by rw [List.map_map]; show ((List.range m).map fun x => x).Nodup; rw [List.map_id']; exact List.nodup_range)
    rw [List.map_map] at gd
    simp [gd, sm2]
    refine for_rg (fun i e H => ∃ a6 a7 a8, e = [some (netD m gs), some (.tup (nDs S)), some (.int m), some (gsD gs), some (.tup (nDs kept)), some (.ref h.length), a6, a7, a8] ∧ Keep h H ∧ H[h.length]? = some (.dic (dN (ents m kept i)))) (fun r => gc h (endS (r.sq _)) = _) ?_ ?_ ?_
    · rintro i e H hi ⟨a6, a7, a8, rfl, kp, h1⟩
      refine ⟨trivial, _, rfl, .inl ?_⟩
      generalize hb : sPuy _ _ _ _ _ = r
      have hk : kept[i]? = some kept[i] := List.getElem?_eq_getElem hi
      have pu := fPuy_dN (v := m + i) h1 (ents_keys nd hi) (by unfold ents; simp; omega)
      have e2 : kept.getD i 0 = kept[i] := by simp [List.getD, hk]
      rw [e2] at pu
      push_cast at pu
      simp [hk, pu] at hb
      subst hb
      refine ⟨_, _, .inl rfl, _, _, _, rfl, kp.set (Nat.le_refl _), ?_⟩
      rw [ents_succ, e2, List.getElem?_set_self (List.getElem?_eq_some_iff.mp h1).1]
    · rintro e H ⟨a6, a7, a8, rfl, kp, h1⟩
      refine ⟨trivial, ?_⟩
      have rn : ∀ {gs2 : List G}, (∀ g ∈ gs2, ∃ k ∈ kept, gs[k]? = some g) → gs2.length ≤ 1000 → Frenumbered [.fls (gs2.map G.e), .ref h.length] H = .ok (gsD (gs2.map (ren (tφ m kept)))) H := fun {gs2} hg hl => by
        refine renumbered_s (.inl rfl) hl (fun g hg2 => ?_) fun g hg2 o ho H2 k2 => ?_
        · obtain ⟨k, _, e⟩ := hg g hg2
          have := ok.many g (List.mem_of_getElem? e)
          omega
        · obtain ⟨k, hk, e⟩ := hg g hg2
          have lk : (ents m kept kept.length).lookup o = some (tφ m kept o) := by
            unfold tφ
            by_cases q : o < m
            · rw [if_pos q]
              exact ents_low q
            · rw [if_neg q]
              have mem : o - m ∈ kept := cls k hk _ (by
                unfold blw
                rw [e]
                exact List.mem_filterMap.mpr ⟨o, ho, by rw [if_pos (by omega)]⟩)
              have z := ents_high (m := m) mem
              rw [show m + (o - m) = o by omega] at z
              exact z
          simp [k2.at h1, kvK_dN, lk]
      have mp : (kept.filterMap fun k => gs[k]?).map G.e = kept.map fun k => ((gs[k]?).map G.e).getD .non := by
        clear nf h1 rn nd cls nl sm2
        induction kept with
        | nil => rfl
        | cons k kept ih =>
          have := kl k (List.mem_cons_self ..)
          rw [List.map_cons, List.filterMap_cons, List.getElem?_eq_getElem this, ← ih fun j hj => kl j (List.mem_cons_of_mem _ hj)]
          rfl
      have rn2 := rn (gs2 := kept.filterMap fun k => gs[k]?) (fun g hg => List.mem_filterMap.mp hg) (by have := List.length_filterMap_le (fun k => gs[k]?) kept; omega)
      simp
      rw [fz_map kept (fun k : Nat => D.int k) (fun k => ((gs[k]?).map G.e).getD .non) rfl rfl (fun _ => trivial) (by omega), ← mp]
      · simp [rn2]
        show gc h (.ok (netD m (trim m gs kept)) H) = _
        exact gc_keep kp (by simp [cl_gs])
      · intro k hk
        have := kl k hk
        refine ⟨_, rfl, fun acc H2 hH2 => ?_⟩
        simp [List.getElem?_eq_getElem this]
      · refine clDs_map fun k hk => ?_
        have := kl k hk
        simp [List.getElem?_eq_getElem this, cl_G]
    · exact ⟨_, _, _, rfl, ⟨_, rfl⟩, by simp [ents]⟩
  · intro s hs
    exact ⟨_, rfl, fun acc H hH => by simp [pN]⟩
  · exact clDs_map fun _ _ => by simp [pN]
end K89
namespace K89
open PySem L2 Fl
/-! ### coming, quiet_behind, the report -/
def ple (p q : Nat × Nat) : Bool := decide (p.1 < q.1 ∨ (p.1 = q.1 ∧ p.2 ≤ q.2))
def sP (ps : List (Nat × Nat)) : List (Nat × Nat) := ps.mergeSort ple
theorem srtR_pN (ps : List (Nat × Nat)) : (srtR (ps.map rP)).map rowD = (sP ps).map pN := by
  have e : (sP ps).map rP = srtR (ps.map rP) := by
    unfold sP srtR
    refine List.map_mergeSort fun a _ b _ => ?_
    unfold ple
    have := rP_lt (p := b) (q := a)
    by_cases q : rP b < rP a
    · have h' : ¬ rP a ≤ rP b := fun z => z q
      rw [decide_eq_false h', decide_eq_false]
      rw [this] at q
      omega
    · have h' : rP a ≤ rP b := q
      rw [decide_eq_true h', decide_eq_true]
      rw [this] at q
      omega
  rw [← e, List.map_map]
  rfl
theorem gSorted_p {ps : List (Nat × Nat)} {h : IH} : gSorted [.fls (ps.map pN)] h = .ok (.ref h.length) (h ++ [.lst ((sP ps).map pN)]) := by
  cases ps with
  | nil => simp [gSorted, intsD, srt, sP]
  | cons p ps =>
    have e2 := rowsD_pN (p :: ps)
    have e3 := srtR_pN (p :: ps)
    rw [List.map_cons] at e2
    unfold gSorted
    dsimp only [lsV]
    rw [List.map_cons, intsD_pN]
    dsimp only
    rw [e2]
    dsimp only
    rw [if_pos (by simp [rP]), e3]
theorem sP_perm (ps : List (Nat × Nat)) : (sP ps).Perm ps := List.mergeSort_perm _ _
theorem sP_srt (ps : List (Nat × Nat)) : (sP ps).Pairwise fun p q => ple p q = true := by
  refine List.pairwise_mergeSort (fun a b c h1 h2 => ?_) (fun a b => ?_) ps
  · unfold ple at *
    simp at *
    omega
  · unfold ple
    simp
    omega
/-- what comes, with its gate -/
def prs (c : List (Option Nat)) : List (Nat × Nat) := (List.range c.length).filterMap fun k => (cv c k).map fun t => (t, k)
theorem oD_at {c : List (Option Nat)} {k : Nat} (hk : k < c.length) : (c.map oD)[k]? = some (oD (cv c k)) := cv_at hk
theorem coming_s {m : Nat} {gs : List G} {ts c : List (Option Nat)} {h : IH} (hc : ∀ h : IH, Fcomes [netD m gs, .tup (ts.map oD)] h = .ok (.tup (c.map oD)) h) (hz : c.length ≤ 1000) :
    Fcoming [netD m gs, .tup (ts.map oD)] h = .ok (.tup ((sP (prs c)).map pN)) h := by
  have sm := small (show c.length ≤ 4000 by omega)
  have e : (List.range c.length).filterMap (fun k => ((cv c k).map fun t => (t, k)).map pN) = (prs c).map pN := by
    unfold prs
    rw [List.map_filterMap]
  simp [Fcoming, Scoming, hc, sm, rgD_map]
  rw [fz_filt (List.range c.length) (fun k : Nat => D.int k) (fun k => ((cv c k).map fun t => (t, k)).map pN) rfl rfl (fun _ => trivial) (by simp; omega), e]
  · have cl : clDs h.length ((sP (prs c)).map pN) = true := cl_pN
    simp [gSorted_p, fz_lst, cl]
  · intro k hk
    have hk := List.mem_range.mp hk
    have e := oD_at hk
    rw [List.getElem?_map] at e
    refine ⟨_, rfl, fun acc H hH => ?_⟩
    cases hcv : cv c k with
    | none => rw [hcv] at e; simp [e, isN]
    | some t => rw [hcv] at e; simp [e, isN, pN]
  · rw [e]; exact cl_pN
theorem quiet_s {m : Nat} {gs : List G} {ts c : List (Option Nat)} {h : IH} (hc : ∀ h : IH, Fcomes [netD m gs, .tup (ts.map oD)] h = .ok (.tup (c.map oD)) h) (hz : c.length ≤ 1000) (hz2 : ts.length ≤ 1000) :
    Fquiet_behind [netD m gs, .tup (ts.map oD)] h = .ok (.int (if tms (ts ++ c) = [] then 0 else lmax (tms (ts ++ c)) + 1 : Nat)) h := by
  have q1 : ts.length + c.length ≤ 16777216 := by omega
  have e0 : ts.map oD ++ c.map oD = (ts ++ c).map oD := by simp
  simp [Fquiet_behind, Squiet_behind, hc, q1]
  rw [e0, fz_filt (ts ++ c) oD (fun o => o.map fun t : Nat => D.int t) rfl rfl (fun _ => trivial) (by simp; omega)]
  · have e : (ts ++ c).filterMap (fun o => o.map fun t : Nat => D.int t) = nDs (tms (ts ++ c)) := by
      unfold tms nDs
      rw [List.map_filterMap]
      rfl
    rw [e]
    by_cases q : tms (ts ++ c) = []
    · simp [q]
    · have := List.length_pos_iff.mpr q
      simp [q, gMax_s q, this]
  · intro o ho
    refine ⟨_, rfl, fun acc H hH => ?_⟩
    cases o <;> simp [isN]
  · rw [clDs_iff]
    intro d hd
    obtain ⟨k, _, e⟩ := List.mem_filterMap.mp hd
    cases k with
    | none => cases e
    | some t => cases e; simp
end K89
namespace K89
open PySem L2 Fl
/-! texts of numbers -/
def strN (n : Nat) : Str := strI (n : Int)
def numOk (n : Nat) : Bool := decide (1 ≤ (strN n).length ∧ (strN n).length ≤ 4) && (strN n).cps.toList.all (fun c => decide (c ∈ ("0123456789" : Str).cps.toList)) && decide ((strN n).length = 1 ∨ (strN n).cps.toList[0]? ≠ some 48) && decide (PySem.intText? (strN n) = some (n : Int))
theorem nums_ok : ((List.range 2001).all numOk) = true := by decide +kernel
end K89
namespace K89
open PySem L2 Fl
/-! ### the same -/
mutual
def plain : D → Bool
  | .tup l => plains l
  | .fls _ => false
  | .ref _ => false
  | _ => true
def plains : List D → Bool
  | [] => true
  | d :: l => plain d && plains l
end
mutual
def wt : D → Nat
  | .tup l => wts l + l.length
  | _ => 0
def wts : List D → Nat
  | [] => 0
  | d :: l => wt d + wts l
end
@[simp] theorem plain_tup {l : List D} : plain (.tup l) = plains l := by simp only [plain]
@[simp] theorem plain_int {i : Int} : plain (.int i) = true := by simp only [plain]
@[simp] theorem plain_bl {i : Bool} : plain (.bl i) = true := by simp only [plain]
@[simp] theorem plain_str {i : Str} : plain (.str i) = true := by simp only [plain]
@[simp] theorem plain_non : plain .non = true := by simp only [plain]
@[simp] theorem plains_nil : plains [] = true := by simp only [plains]
@[simp] theorem plains_cons {d : D} {l : List D} : plains (d :: l) = (plain d && plains l) := by simp only [plains]
theorem plains_all : ∀ {l : List D}, plains l = l.all plain
  | [] => by simp
  | d :: l => by rw [plains_cons, List.all_cons, plains_all]
theorem plains_iff {l : List D} : plains l = true ↔ ∀ d ∈ l, plain d = true := by rw [plains_all, List.all_eq_true]
theorem plains_map {α : Type} {l : List α} {f : α → D} (h : ∀ x ∈ l, plain (f x) = true) : plains (l.map f) = true := by
  rw [plains_iff]
  intro d hd
  obtain ⟨x, hx, rfl⟩ := List.mem_map.mp hd
  exact h x hx
@[simp] theorem plains_app {l m : List D} : plains (l ++ m) = (plains l && plains m) := by rw [plains_all, plains_all, plains_all, List.all_append]
@[simp] theorem wts_nil : wts [] = 0 := by simp only [wts]
@[simp] theorem wts_cons {d : D} {l : List D} : wts (d :: l) = wt d + wts l := by simp only [wts]
@[simp] theorem wt_tup {l : List D} : wt (.tup l) = wts l + l.length := by simp only [wt]
@[simp] theorem wt_int {i : Int} : wt (.int i) = 0 := by simp only [wt]
@[simp] theorem wt_bl {i : Bool} : wt (.bl i) = 0 := by simp only [wt]
@[simp] theorem wt_str {i : Str} : wt (.str i) = 0 := by simp only [wt]
@[simp] theorem wt_non : wt .non = 0 := by simp only [wt]
theorem wts_app : ∀ {l m : List D}, wts (l ++ m) = wts l + wts m
  | [], m => by simp
  | d :: l, m => by rw [List.cons_append, wts_cons, wts_cons, wts_app]; omega
theorem wts_map {α : Type} {f : α → D} {b : Nat} : ∀ {l : List α}, (∀ x ∈ l, wt (f x) ≤ b) → wts (l.map f) ≤ b * l.length
  | [], _ => by simp
  | x :: l, h => by
    have := h x (.head _)
    have := wts_map (l := l) fun y hy => h y (.tail _ hy)
    rw [List.map_cons, wts_cons, List.length_cons, Nat.mul_succ]
    omega
mutual
theorem plain_cl {n : Nat} : ∀ {d : D}, plain d = true → clD n d = true
  | .non, _ => by simp
  | .bl _, _ => by simp
  | .int _, _ => by simp
  | .str _, _ => by simp
  | .tup _, h => by
    rw [plain_tup] at h
    rw [clD_tup]
    exact plains_cl h
  | .fls _, h => by simp [plain] at h
  | .ref _, h => by simp [plain] at h
theorem plains_cl {n : Nat} : ∀ {l : List D}, plains l = true → clDs n l = true
  | [], _ => by simp
  | _ :: _, h => by
    rw [plains_cons, Bool.and_eq_true] at h
    rw [clDs_cons, plain_cl h.1, plains_cl h.2]
    rfl
end
def tw (x : D) : D := .tup [x, x]
theorem same_s {d : D} (pd : plain d = true) (hz : wt d ≤ 3900) {h : IH} : F_law_same [d, d] h = .ok (.bl true) h := by
  simp [F_law_same, S_law_same]
  refine wh_run (m := 1 + wt d) (fun n e H => ∃ (L : List D) (a : Nat) (a4 a5 a6 : Option D), n = 1 + wt d - a ∧ a ≤ L.length ∧ plains L = true ∧ L.length + wts (L.drop a) = 1 + wt d ∧ Keep h H ∧
    e = [some d, some d, some (.ref h.length), some (.int a), a4, a5, a6] ∧ H[h.length]? = some (.lst (L.map tw))) (fun r => gc h (endS (r.sq _)) = _) (by simp [RS.sq, gc]) ?_ ?_
  · rintro n e H ⟨L, a, a4, a5, a6, rfl, ha, pl, hw, kp, rfl, h1⟩
    by_cases q : a < L.length
    · refine .inr ⟨H, by simp [h1, q], .inl ?_⟩
      have hx : L[a]? = some L[a] := List.getElem?_eq_getElem q
      have px : plain L[a] = true := plains_iff.mp pl _ (List.getElem_mem q)
      rw [List.drop_eq_getElem_cons q, wts_cons] at hw
      generalize L[a] = x at hx px hw
      generalize hb : sSeq _ _ _ _ = r
      simp [h1, hx, tw, setAll] at hb
      cases x with
      | tup l =>
        simp [tyD, isT, tru] at hb
        rw [plain_tup] at px
        rw [wt_tup] at hw
        have sm := small (show l.length ≤ 4000 by omega)
        simp [sm, rgD_map] at hb
        rw [fz_map (List.range l.length) (fun k : Nat => D.int k) (fun k => tw (l.getD k .non)) rfl rfl (fun _ => trivial) (by simp; omega)] at hb
        · have e1 : (List.range l.length).map (fun k => tw (l.getD k .non)) = l.map tw := by
            refine List.ext_getElem (by simp) fun i h1 h2 => ?_
            simp at h2
            simp [h2]
          rw [e1] at hb
          have ge := gExt_s (n := h.length) (d := .fls (l.map tw)) h1 rfl (by simp; omega)
          simp [h1, ge] at hb
          subst hb
          refine ⟨_, _, _, .inl rfl, ?_, L ++ l, a + 1, _, _, _, rfl, by simp; omega, by simp [pl, px], ?_, kp.set (Nat.le_refl _), by simp; exact ⟨rfl, rfl, rfl⟩, ?_⟩
          · omega
          · rw [List.drop_append_of_le_length (by omega), wts_app, List.length_append]
            omega
          · rw [List.getElem?_set_self (List.getElem?_eq_some_iff.mp h1).1]
            simp
        · intro k hk
          have hk := List.mem_range.mp hk
          refine ⟨_, rfl, fun acc H2 hH2 => ?_⟩
          simp [hk, tw]
        · exact clDs_map fun k hk => by
            have hk := List.mem_range.mp hk
            have := plain_cl (n := H.length) (plains_iff.mp px _ (List.getElem_mem hk))
            simp [tw, hk, this]
      | non =>
        simp [tyD, isT, tru, isN] at hb
        subst hb
        exact ⟨_, _, _, .inl rfl, by omega, L, a + 1, _, _, _, rfl, by omega, pl, by simpa using hw, kp, by simp; exact ⟨rfl, rfl, rfl⟩, h1⟩
      | bl b =>
        simp [tyD, isT, tru, isN] at hb
        subst hb
        exact ⟨_, _, _, .inl rfl, by omega, L, a + 1, _, _, _, rfl, by omega, pl, by simpa using hw, kp, by simp; exact ⟨rfl, rfl, rfl⟩, h1⟩
      | int b =>
        simp [tyD, isT, tru, isN] at hb
        subst hb
        exact ⟨_, _, _, .inl rfl, by omega, L, a + 1, _, _, _, rfl, by omega, pl, by simpa using hw, kp, by simp; exact ⟨rfl, rfl, rfl⟩, h1⟩
      | str b =>
        simp [tyD, isT, tru, isN] at hb
        subst hb
        exact ⟨_, _, _, .inl rfl, by omega, L, a + 1, _, _, _, rfl, by omega, pl, by simpa using hw, kp, by simp; exact ⟨rfl, rfl, rfl⟩, h1⟩
      | fls l => simp [plain] at px
      | ref n => simp [plain] at px
    · have : a = L.length := by omega
      subst this
      refine .inl ⟨H, by simp [h1], ?_⟩
      simp
      exact gc_keep kp (by simp)
  · exact ⟨[d], 0, none, none, none, by simp, by simp, by simpa using pd, by simp, ⟨_, rfl⟩, rfl, by simp [tw]⟩
end K89
namespace K89
open PySem L2 Fl
/-! ### the law's own going through -/
theorem law_needed_s {m : Nat} {gs : List G} (ok : Ok m gs) {S : List Nat} (hS : ∀ k ∈ S, k < gs.length) (nS : S.Nodup) {d : D} {h : IH} (hd : bList [d] h = .ok (.ref h.length) (h ++ [.lst (nDs S)])) :
    F_law_needed [netD m gs, d] h = .ok (.tup (nDs (need m gs S))) h := by
  have hn := ok.hn
  simp [F_law_needed, S_law_needed, hd]
  refine wh_run (m := gs.length) (fun n e H => ∃ (T : List Nat) (a : Nat) (a6 : Option D), n = gs.length - a ∧ a ≤ T.length ∧ Keep h H ∧ T.Nodup ∧ (∀ k ∈ T, Reach m gs S k) ∧ (∀ k ∈ S, k ∈ T) ∧ (∀ i k, i < a → T[i]? = some k → ∀ j ∈ blw m gs k, j ∈ T) ∧
    e = [some (netD m gs), some d, some (.int m), some (gsD gs), some (.ref h.length), some (.int a), a6] ∧ H[h.length]? = some (.lst (nDs T))) (fun r => gc h (endS (r.sq _)) = _) (by simp [RS.sq, gc]) ?_ ?_
  · rintro n e H ⟨T, a, a6, rfl, ha, kp, nd, rT, sT, cT, rfl, h1⟩
    have hT : ∀ k ∈ T, k < gs.length := fun k hk => reach_lt ok hS (rT k hk)
    have lT := nodup_le nd hT
    by_cases q : a < T.length
    · refine .inr ⟨H, by simp [h1, q], .inl ?_⟩
      have hk : T[a]? = some T[a] := List.getElem?_eq_getElem q
      have mT := List.getElem_mem q
      generalize T[a] = k at hk mT
      have kl := hT k mT
      have kR := rT k mT
      have hg : gs[k]? = some gs[k] := List.getElem?_eq_getElem kl
      have mg := List.getElem_mem kl
      have om := ok.many _ mg
      have ool := ok.op _ mg
      have eb : blw m gs k = below m gs[k] := by unfold blw; rw [hg]; rfl
      generalize gs[k] = g at hg om eb ool
      have inner : ∃ (X : List Nat) (H2 : IH) (a6' : Option D), (T ++ X).Nodup ∧ (∀ x ∈ X, x ∈ below m g) ∧ (∀ x ∈ below m g, x ∈ T ++ X) ∧ Keep h H2 ∧ H2[h.length]? = some (.lst (nDs (T ++ X))) ∧
          forGo (fun _ => True) (.n 6) (sIf (tAn (tB (eOp fGe (eV 6) (eV 2))) (tB (eOp (fIn true) (eOp fSub (eV 6) (eV 2)) (eV 4)))) (sEx (eMt isLst mAppend (eV 4) (aCons (eOp fSub (eV 6) (eV 2)) aNil))) sNx) (nDs g.o)
            [some (netD m gs), some d, some (.int m), some (gsD gs), some (.ref h.length), some (.int a), a6] H = .nx [some (netD m gs), some d, some (.int m), some (gsD gs), some (.ref h.length), some (.int a), a6'] H2 := by
        refine for_map g.o (fun k : Nat => D.int k) (fun i e H2 => ∃ (X : List Nat) (a6' : Option D), (T ++ X).Nodup ∧ (∀ x ∈ X, x ∈ below m g) ∧ (∀ j o, j < i → g.o[j]? = some o → m ≤ o → o - m ∈ T ++ X) ∧ Keep h H2 ∧ H2[h.length]? = some (.lst (nDs (T ++ X))) ∧
            e = [some (netD m gs), some d, some (.int m), some (gsD gs), some (.ref h.length), some (.int a), a6'])
          (fun r => ∃ (X : List Nat) (H2 : IH) (a6' : Option D), (T ++ X).Nodup ∧ (∀ x ∈ X, x ∈ below m g) ∧ (∀ x ∈ below m g, x ∈ T ++ X) ∧ Keep h H2 ∧ H2[h.length]? = some (.lst (nDs (T ++ X))) ∧ r = .nx [some (netD m gs), some d, some (.int m), some (gsD gs), some (.ref h.length), some (.int a), a6'] H2) ?_ ?_ ?_
        · rintro i o e H2 ho ⟨X, a6', nX, bX, cX, kp2, h2, rfl⟩
          refine ⟨trivial, _, rfl, .inl ?_⟩
          have oM : o ∈ g.o := List.mem_of_getElem? ho
          have fi := fIn_ref (neg := true) (k := o - m) h2
          have hX : ∀ x ∈ T ++ X, x < gs.length := fun x hx => by
            rcases List.mem_append.mp hx with z | z
            · exact hT x z
            · exact below_lt ok (by rw [← Option.some.inj ((List.getElem?_eq_getElem kl).symm.trans hg)]; exact mg) (bX x z)
          have lX := nodup_le nX hX
          have ap := mAppend_s (n := h.length) (d := .int ((o - m : Nat) : Int)) h2 (by rw [List.length_map]; omega)
          generalize hb : sIf _ _ _ _ _ = r
          by_cases q1 : m ≤ o
          · have q2 : (m : Int) ≤ o := by omega
            have q3 : ((o : Int) - (m : Int)) = ((o - m : Nat) : Int) := by omega
            have ob : o - m ∈ below m g := List.mem_filterMap.mpr ⟨o, oM, by rw [if_pos q1]⟩
            simp [q2, q3, fi] at hb
            by_cases q4 : o - m ∈ T ++ X
            · have q5 : o - m ∈ T ∨ o - m ∈ X := List.mem_append.mp q4
              rw [if_neg fun z => q5.elim z.1 z.2] at hb
              subst hb
              refine ⟨_, _, .inl rfl, X, _, nX, bX, fun j o' hj ho' hm => ?_, kp2, h2, rfl⟩
              rcases Nat.lt_succ_iff_lt_or_eq.mp hj with z | rfl
              · exact cX j o' z ho' hm
              · rw [ho] at ho'; cases ho'; exact q4
            · have q5 : ¬ o - m ∈ T ∧ ¬ o - m ∈ X := ⟨fun z => q4 (List.mem_append.mpr (.inl z)), fun z => q4 (List.mem_append.mpr (.inr z))⟩
              simp [q5, h2, q3, ap] at hb
              subst hb
              refine ⟨_, _, .inl rfl, X ++ [o - m], _, ?_, fun x hx => ?_, fun j o' hj ho' hm => ?_, kp2.set (Nat.le_refl _), ?_, rfl⟩
              · rw [← List.append_assoc, List.nodup_append]
                exact ⟨nX, by simp, fun a ha b hb z => by simp at hb; subst hb; exact q4 (z ▸ ha)⟩
              · rcases List.mem_append.mp hx with z | z
                · exact bX x z
                · simp at z; subst z; exact ob
              · rw [← List.append_assoc, List.mem_append]
                rcases Nat.lt_succ_iff_lt_or_eq.mp hj with z | rfl
                · exact .inl (cX j o' z ho' hm)
                · rw [ho] at ho'; cases ho'; simp
              · rw [List.getElem?_set_self (List.getElem?_eq_some_iff.mp h2).1]
                simp
          · have q2 : ¬ (m : Int) ≤ o := by omega
            simp [q2] at hb
            subst hb
            refine ⟨_, _, .inl rfl, X, _, nX, bX, fun j o' hj ho' hm => ?_, kp2, h2, rfl⟩
            rcases Nat.lt_succ_iff_lt_or_eq.mp hj with z | rfl
            · exact cX j o' z ho' hm
            · rw [ho] at ho'; cases ho'; exact absurd hm q1
        · rintro e H2 ⟨X, a6', nX, bX, cX, kp2, h2, rfl⟩
          refine ⟨trivial, X, H2, a6', nX, bX, fun x hx => ?_, kp2, h2, rfl⟩
          obtain ⟨o, ho, e⟩ := List.mem_filterMap.mp hx
          split at e
          · cases e
            obtain ⟨j, hj, ej⟩ := List.getElem_of_mem ho
            exact cX j o hj (by rw [List.getElem?_eq_getElem hj, ej]) (by assumption)
          · cases e
        · exact ⟨[], a6, by simpa using nd, by simp, fun j o hj => by omega, kp, by simpa using h1, rfl⟩
      obtain ⟨X, H2, a6', nX, bX, cX, kp2, h2, run⟩ := inner
      generalize hb : sSeq _ _ _ _ = r
      simp [h1, hk, hg, G.e] at hb
      rw [run] at hb
      simp at hb
      subst hb
      refine ⟨_, _, _, .inl rfl, ?_, T ++ X, a + 1, _, rfl, by simp; omega, kp2, nX, fun x hx => ?_, fun x hx => by simp [sT x hx], fun i x hi hx j hj => ?_, by simp; rfl, h2⟩
      · omega
      · rcases List.mem_append.mp hx with z | z
        · exact rT x z
        · exact .step kR (by rw [eb]; exact bX x z)
      · rcases Nat.lt_succ_iff_lt_or_eq.mp hi with z | rfl
        · rw [List.getElem?_append_left (by omega)] at hx
          simp [cT i x z hx j hj]
        · rw [List.getElem?_append_left q, hk] at hx
          cases hx
          rw [eb] at hj
          exact cX j hj
    · have : a = T.length := by omega
      subst this
      refine .inl ⟨H, by simp [h1], ?_⟩
      have mem : ∀ k, k ∈ T ↔ k ∈ need m gs S := fun k => by
        rw [need_mem ok hS]
        refine ⟨fun q => rT k q, fun q => ?_⟩
        induction q with
        | base q => exact sT _ q
        | @step j k _ hk ih =>
          obtain ⟨i, hi, e⟩ := List.getElem_of_mem ih
          exact cT i j hi (by rw [List.getElem?_eq_getElem hi, e]) _ hk
      have so := gSorted_nat (d := .ref h.length) (lsV_ref h1) nd need_asc mem
      simp [so, fz_lst]
      exact gc_keep kp (by simp)
  · exact ⟨S, 0, none, by omega, by omega, ⟨_, rfl⟩, nS, fun k hk => .base hk, fun k hk => hk, fun i k hi => by omega, rfl, by simp⟩
theorem reach_congr {m : Nat} {gs : List G} {S T : List Nat} (h : ∀ k, k ∈ S ↔ k ∈ T) {k : Nat} : Reach m gs S k ↔ Reach m gs T k := by
  constructor
  · intro r
    induction r with
    | base q => exact .base ((h _).mp q)
    | step _ hk ih => exact .step ih hk
  · intro r
    induction r with
    | base q => exact .base ((h _).mpr q)
    | step _ hk ih => exact .step ih hk
theorem need_congr {m : Nat} {gs : List G} {S T : List Nat} (h : ∀ k, k ∈ S ↔ k ∈ T) : need m gs S = need m gs T := by
  unfold need
  refine List.filter_congr fun k _ => ?_
  rw [decide_eq_decide]
  exact reach_congr h
theorem law_loops_s {m : Nat} {gs : List G} (ok : Ok m gs) {h : IH} : F_law_loops [netD m gs] h = .ok (.tup (nDs (loops m gs))) h := by
  have hn := ok.hn
  have sm := small (show gs.length ≤ 4000 by omega)
  simp [F_law_loops, S_law_loops, sm]
  refine for_rg (fun i e H => ∃ a4 a5 a6, e = [some (netD m gs), some (.int m), some (gsD gs), some (.ref h.length), a4, a5, a6] ∧ Keep h H ∧ H[h.length]? = some (.lst (nDs ((List.range i).filter fun k => decide (k ∈ need m gs (blw m gs k)))))) (fun r => gc h (endS (r.sq _)) = _) ?_ ?_ ?_
  · rintro i e H hi ⟨a4, a5, a6, rfl, kp, h1⟩
    refine ⟨trivial, _, rfl, .inl ?_⟩
    have hg : gs[i]? = some gs[i] := List.getElem?_eq_getElem hi
    have mg := List.getElem_mem hi
    have om := ok.many _ mg
    have eb : blw m gs i = below m gs[i] := by unfold blw; rw [hg]; rfl
    have hle := filter_rg_le (fun k => decide (k ∈ need m gs (blw m gs k))) i
    generalize gs[i] = g at hg om eb mg
    have l1 := (List.getElem?_eq_some_iff.mp h1).1
    have kl := kp.le
    have inner : ∃ (X : List Nat) (H2 : IH) (a6' : Option D), X.Nodup ∧ (∀ x, x ∈ X ↔ x ∈ below m g) ∧ Keep H H2 ∧ H2[H.length]? = some (.lst (nDs X)) ∧
        forGo (fun _ => True) (.n 6) (sIf (tAn (tB (eOp fGe (eV 6) (eV 1))) (tB (eOp (fIn true) (eOp fSub (eV 6) (eV 1)) (eV 5)))) (sEx (eMt isLst mAppend (eV 5) (aCons (eOp fSub (eV 6) (eV 1)) aNil))) sNx) (nDs g.o)
          [some (netD m gs), some (.int m), some (gsD gs), some (.ref h.length), some (.int i), some (.ref H.length), a6] (H ++ [.lst []]) = .nx [some (netD m gs), some (.int m), some (gsD gs), some (.ref h.length), some (.int i), some (.ref H.length), a6'] H2 := by
      refine for_map g.o (fun k : Nat => D.int k) (fun j e H2 => ∃ (X : List Nat) (a6' : Option D), X.Nodup ∧ (∀ x ∈ X, x ∈ below m g) ∧ (∀ l o, l < j → g.o[l]? = some o → m ≤ o → o - m ∈ X) ∧ Keep H H2 ∧ H2[H.length]? = some (.lst (nDs X)) ∧
          e = [some (netD m gs), some (.int m), some (gsD gs), some (.ref h.length), some (.int i), some (.ref H.length), a6'])
        (fun r => ∃ (X : List Nat) (H2 : IH) (a6' : Option D), X.Nodup ∧ (∀ x, x ∈ X ↔ x ∈ below m g) ∧ Keep H H2 ∧ H2[H.length]? = some (.lst (nDs X)) ∧ r = .nx [some (netD m gs), some (.int m), some (gsD gs), some (.ref h.length), some (.int i), some (.ref H.length), a6'] H2) ?_ ?_ ?_
      · rintro j o e H2 ho ⟨X, a6', nX, bX, cX, kp2, h2, rfl⟩
        refine ⟨trivial, _, rfl, .inl ?_⟩
        have oM : o ∈ g.o := List.mem_of_getElem? ho
        have fi := fIn_ref (neg := true) (k := o - m) h2
        have lX := nodup_le nX fun x hx => below_lt ok mg (bX x hx)
        have ap := mAppend_s (n := H.length) (d := .int ((o - m : Nat) : Int)) h2 (by rw [List.length_map]; omega)
        generalize hb : sIf _ _ _ _ _ = r
        by_cases q1 : m ≤ o
        · have q2 : (m : Int) ≤ o := by omega
          have q3 : ((o : Int) - (m : Int)) = ((o - m : Nat) : Int) := by omega
          have ob : o - m ∈ below m g := List.mem_filterMap.mpr ⟨o, oM, by rw [if_pos q1]⟩
          by_cases q4 : o - m ∈ X
          · simp [q2, q3, fi, q4] at hb
            subst hb
            refine ⟨_, _, .inl rfl, X, _, nX, bX, fun l o' hj ho' hm => ?_, kp2, h2, rfl⟩
            rcases Nat.lt_succ_iff_lt_or_eq.mp hj with z | rfl
            · exact cX l o' z ho' hm
            · rw [ho] at ho'; cases ho'; exact q4
          · simp [q2, q3, fi, q4, h2, ap] at hb
            subst hb
            refine ⟨_, _, .inl rfl, X ++ [o - m], _, ?_, fun x hx => ?_, fun l o' hj ho' hm => ?_, kp2.set (Nat.le_refl _), ?_, rfl⟩
            · rw [List.nodup_append]
              exact ⟨nX, by simp, fun a ha b hb z => by simp at hb; subst hb; exact q4 (z ▸ ha)⟩
            · rcases List.mem_append.mp hx with z | z
              · exact bX x z
              · simp at z; subst z; exact ob
            · rw [List.mem_append]
              rcases Nat.lt_succ_iff_lt_or_eq.mp hj with z | rfl
              · exact .inl (cX l o' z ho' hm)
              · rw [ho] at ho'; cases ho'; simp
            · rw [List.getElem?_set_self (List.getElem?_eq_some_iff.mp h2).1]
              simp
        · have q2 : ¬ (m : Int) ≤ o := by omega
          simp [q2] at hb
          subst hb
          refine ⟨_, _, .inl rfl, X, _, nX, bX, fun l o' hj ho' hm => ?_, kp2, h2, rfl⟩
          rcases Nat.lt_succ_iff_lt_or_eq.mp hj with z | rfl
          · exact cX l o' z ho' hm
          · rw [ho] at ho'; cases ho'; exact absurd hm q1
      · rintro e H2 ⟨X, a6', nX, bX, cX, kp2, h2, rfl⟩
        refine ⟨trivial, X, H2, a6', nX, fun x => ⟨bX x, fun hx => ?_⟩, kp2, h2, rfl⟩
        obtain ⟨o, ho, e⟩ := List.mem_filterMap.mp hx
        split at e
        · cases e
          obtain ⟨j, hj, ej⟩ := List.getElem_of_mem ho
          exact cX j o hj (by rw [List.getElem?_eq_getElem hj, ej]) (by assumption)
        · cases e
      · exact ⟨[], a6, by simp, by simp, fun j o hj => by omega, ⟨_, rfl⟩, by simp, rfl⟩
    obtain ⟨X, H2, a6', nX, bX, kp2, h2, run⟩ := inner
    have h1' : H2[h.length]? = some (.lst (nDs ((List.range i).filter fun k => decide (k ∈ need m gs (blw m gs k))))) := kp2.at h1
    have ln := law_needed_s ok (S := X) (fun k hk => below_lt ok mg ((bX k).mp hk)) nX (d := .ref H.length) (h := H2) (by simp [bList, h2])
    have en : need m gs X = need m gs (blw m gs i) := need_congr fun k => by rw [eb]; exact bX k
    rw [en] at ln
    have ap := mAppend_s (n := h.length) (d := .int i) h1' (by rw [List.length_map]; omega)
    generalize hb : sSeq _ _ _ _ = r
    simp [hg, G.e] at hb
    rw [run] at hb
    simp [ln, fIn_tup] at hb
    rw [filter_succ]
    by_cases q : i ∈ need m gs (blw m gs i)
    · simp [q, h1', ap] at hb
      subst hb
      refine ⟨_, _, .inl rfl, _, _, _, rfl, (kp.trans kp2).set (Nat.le_refl _), ?_⟩
      rw [List.getElem?_set_self (List.getElem?_eq_some_iff.mp h1').1]
      simp [q]
    · simp [q] at hb
      subst hb
      exact ⟨_, _, .inl rfl, _, _, _, rfl, kp.trans kp2, by simpa [q] using h1'⟩
  · rintro e H ⟨a4, a5, a6, rfl, kp, h1⟩
    refine ⟨trivial, ?_⟩
    simp [h1]
    show gc h (.ok (.tup (nDs (loops m gs))) H) = _
    exact gc_keep kp (by rw [clD_tup]; exact cl_nDs)
  · exact ⟨none, none, none, rfl, ⟨_, rfl⟩, by simp⟩
end K89
namespace K89
open PySem L2 Fl
theorem mTix_s {l : List Nat} {k : Nat} {h : IH} (hk : k ∈ l) : mTix (.tup (nDs l)) [.int k] h = .ok (.int (l.idxOf k : Nat)) h := by
  have m : (k : Int) ∈ l.map fun t : Nat => (t : Int) := List.mem_map.mpr ⟨k, hk, rfl⟩
  have ix : ∀ l : List Nat, (l.map fun t : Nat => (t : Int)).idxOf (k : Int) = l.idxOf k := by
    intro l
    induction l with
    | nil => rfl
    | cons x l ih =>
      rw [List.map_cons, List.idxOf_cons, List.idxOf_cons, ih]
      by_cases q : x = k
      · simp [q]
      · have q2 : ((x : Int) == (k : Int)) = false := beq_eq_false_iff_ne.mpr (by omega)
        have q3 : (x == k) = false := by simpa using q
        rw [q2, q3]
  dsimp only [mTix]
  rw [intsD_nat]
  dsimp only
  rw [if_pos m, ix]
theorem law_trimmed_s {m : Nat} {gs : List G} (ok : Ok m gs) {kept : List Nat} (kl : ∀ k ∈ kept, k < gs.length) (cls : Closed m gs kept) (hz : kept.length ≤ 1000) {h : IH} :
    F_law_trimmed [netD m gs, .tup (nDs kept)] h = .ok (netD m (trim m gs kept)) h := by
  simp [F_law_trimmed, S_law_trimmed]
  refine for_map kept (fun k : Nat => D.int k) (fun i e H => ∃ a5 a6 a7 a8 a9, e = [some (netD m gs), some (.tup (nDs kept)), some (.int m), some (gsD gs), some (.ref h.length), a5, a6, a7, a8, a9] ∧ Keep h H ∧
    H[h.length]? = some (.lst ((((kept.take i).filterMap fun k => gs[k]?).map (ren (tφ m kept))).map G.e))) (fun r => gc h (endS (r.sq _)) = _) ?_ ?_ ?_
  · rintro i k e H hk ⟨a5, a6, a7, a8, a9, rfl, kp, h1⟩
    refine ⟨trivial, _, rfl, .inl ?_⟩
    have mk : k ∈ kept := List.mem_of_getElem? hk
    have klk := kl k mk
    have hg : gs[k]? = some gs[k] := List.getElem?_eq_getElem (kl k mk)
    have om := ok.many _ (List.getElem_mem (kl k mk))
    have cl : ∀ o ∈ gs[k].o, m ≤ o → o - m ∈ kept := fun o ho hm => cls k mk _ (by
      unfold blw
      rw [hg]
      exact List.mem_filterMap.mpr ⟨o, ho, by rw [if_pos hm]⟩)
    generalize gs[k] = g at hg om cl
    have hi := (List.getElem?_eq_some_iff.mp hk).1
    have tk : kept.take (i + 1) = kept.take i ++ [k] := by
      rw [List.take_succ_eq_append_getElem hi]
      congr 2
      exact (List.getElem?_eq_some_iff.mp hk).2
    have ap := mAppend_s (n := h.length) (d := (ren (tφ m kept) g).e) h1 (by
      rw [List.length_map, List.length_map]
      have := List.length_filterMap_le (fun k => gs[k]?) (kept.take i)
      rw [List.length_take] at this
      omega)
    generalize hb : sSeq _ _ _ _ = r
    simp [hg, G.e, setAll, h1] at hb
    rw [fz_map g.o (fun k : Nat => D.int k) (fun o => .int (tφ m kept o : Nat)) rfl rfl (fun _ => trivial) (by omega)] at hb
    · have e1 : D.tup [.str g.w, .tup (g.o.map fun o => D.int (tφ m kept o : Nat)), .int g.d] = (ren (tφ m kept) g).e := by
        simp [ren, G.e, G.w]
        rfl
      simp at hb
      rw [e1, ap] at hb
      simp at hb
      subst hb
      refine ⟨_, _, .inl rfl, _, _, _, _, _, rfl, kp.set (Nat.le_refl _), ?_⟩
      rw [List.getElem?_set_self (List.getElem?_eq_some_iff.mp h1).1, tk, List.filterMap_append]
      simp [hg]
    · intro o ho
      refine ⟨_, rfl, fun acc H2 hH2 => ?_⟩
      by_cases q : o < m
      · have q2 : (o : Int) < m := by omega
        simp [q2, tφ, q]
      · have q2 : ¬ (o : Int) < m := by omega
        have q3 : ((o : Int) - (m : Int)) = ((o - m : Nat) : Int) := by omega
        have mt := mTix_s (h := H2) (cl o ho (by omega))
        simp [q2, tφ, q, isTup, q3, mt]
    · exact clDs_map fun _ _ => by simp
  · rintro e H ⟨a5, a6, a7, a8, a9, rfl, kp, h1⟩
    refine ⟨trivial, ?_⟩
    rw [List.take_length] at h1
    simp [h1]
    have z := gc_keep (d := netD m (trim m gs kept)) kp (by simp [cl_gs])
    simpa [netD, gsD, trim] using z
  · exact ⟨none, none, none, none, none, rfl, ⟨_, rfl⟩, by simp⟩
/-! ### tries -/
theorem law_users_s {m : Nat} {gs : List G} (ok : Ok m gs) {k : Nat} (hk : k < m + gs.length) {h : IH} :
    F_law_users [netD m gs, .int k] h = .ok (.tup [.str "told", .tup (nDs ((List.range gs.length).filter fun j => decide (k ∈ ((gs[j]?).map G.o).getD [])))]) h := by
  simp [F_law_users, S_law_users, users_of_s ok hk]
theorem gc_exc {d : D} {h : IH} {o : HB} (q : clD h.length d = true) : gc h (.ok d (h ++ [o])) = .ok d h := gc_app q
theorem law_users_bad {m : Nat} {gs : List G} {d : D} {h : IH} (hb : ∀ h : IH, Fis_below [d, .int ((m : Int) + gs.length)] h = .ok (.bl false) h) :
    F_law_users [netD m gs, d] h = .ok (.tup [.str "step", .str "number"]) h := by
  simp [F_law_users, S_law_users, users_of_bad hb, hdGo, subN, upC, NC, unS, List.lookup, gc_exc]
theorem law_beside_s {m : Nat} {gs os : List G} (ok : Ok m gs) (ok2 : Ok m os) (hz : gs.length + os.length ≤ 40) {h : IH} : F_law_beside [netD m gs, netD m os] h = .ok (.tup [.str "told", netD m (both m gs os)]) h := by
  simp [F_law_beside, S_law_beside, beside_s ok ok2 hz]
theorem law_beside_num {m n : Nat} {gs os : List G} {h : IH} (ne : m ≠ n) : F_law_beside [netD m gs, netD n os] h = .ok (.tup [.str "step", .str "number"]) h := by
  simp [F_law_beside, S_law_beside, beside_num ne, hdGo, subN, upC, NC, unS, List.lookup, gc_exc]
theorem law_beside_wide {m : Nat} {gs os : List G} {h : IH} (hz : 40 < gs.length + os.length) : F_law_beside [netD m gs, netD m os] h = .ok (.tup [.str "step", .str "wide"]) h := by
  simp [F_law_beside, S_law_beside, beside_wide hz, hdGo, subN, upC, NC, unS, List.lookup, gc_exc]
end K89
namespace K89
open PySem L2 Fl
/-- the dict shows the list -/
structure Shows (ps : List (Nat × Nat)) (came : List (Option Nat)) : Prop where
  lk : ∀ k, ps.lookup k = cv came k
  len : ps.length ≤ 100
theorem Shows.key {ps : List (Nat × Nat)} {came : List (Option Nat)} (s : Shows ps came) {k : Nat} (h : cv came k = none) : k ∉ ps.map (·.1) := fun z => by
  have e := s.lk k
  rw [h] at e
  obtain ⟨p, hp, rfl⟩ := List.mem_map.mp z
  have : ∀ l : List (Nat × Nat), p ∈ l → l.lookup p.1 ≠ none := by
    intro l
    induction l with
    | nil => intro z; cases z
    | cons q l ih =>
      intro hp
      rw [List.lookup_cons]
      by_cases c : p.1 = q.1
      · simp [c]
      · have c2 : (p.1 == q.1) = false := beq_eq_false_iff_ne.mpr c
        rw [c2]
        rcases List.mem_cons.mp hp with rfl | hp
        · exact absurd rfl c
        · exact ih hp
  exact this ps hp e
theorem Shows.put {ps : List (Nat × Nat)} {came : List (Option Nat)} (s : Shows ps came) {k t : Nat} (h : cv came k = none) (hk : k < came.length) (hz : ps.length < 100) : Shows (ps ++ [(k, t)]) (came.set k (some t)) := by
  refine ⟨fun j => ?_, by simp; omega⟩
  rw [cv_set hk, List.lookup_append, s.lk]
  by_cases q : k = j
  · subst q
    rw [if_pos rfl, h]
    simp
  · rw [if_neg q]
    have q2 : (j == k) = false := beq_eq_false_iff_ne.mpr fun z => q z.symm
    cases cv came j <;> simp [List.lookup_cons, q2]
def candAt (m : Nat) (gs : List G) (came : List (Option Nat)) (k : Nat) : Option (Nat × Nat) := if cv came (m + k) = none then (gs[k]?).bind fun g => (tb g came).map fun t => (t, k) else none
theorem cands_at (m : Nat) (gs : List G) (came : List (Option Nat)) : cands m gs came = (List.range gs.length).filterMap (candAt m gs came) := rfl
/-- the best one so far -/
def BestOf (l : List (Nat × Nat)) : Option (Nat × Nat) → Prop
  | none => l = []
  | some p => LeastP l p
def bD (m : Nat) : Option (Nat × Nat) → D
  | none => .non
  | some p => .tup [.int p.1, .int ((m + p.2 : Nat) : Int)]
theorem there_s {g : G} {came : List (Option Nat)} {ps : List (Nat × Nat)} (s : Shows ps came) {H : IH} {p : Nat} (hp : H[p]? = some (.dic (dN ps))) (hz : g.o.length ≤ 1000) {e : Lc} (e4 : e[4]? = some (some (.ref p))) (e12 : 12 < e.length) :
    fz H (lcGo (fun _ => True) (.n 12) (tB (eOp (fIn false) (eV 12) (eV 4))) (eOp fIy (eV 4) (eV 12)) H.length e (nDs g.o) (H ++ [.lst []])) = .ok (.fls (nDs (g.o.filterMap (cv came)))) H := by
  have en : nDs (g.o.filterMap (cv came)) = g.o.filterMap fun k => (cv came k).map fun t : Nat => D.int t := by
    unfold nDs
    rw [List.map_filterMap]
  rw [fz_filt g.o (fun k : Nat => D.int k) (fun k => (cv came k).map fun t : Nat => D.int t) rfl rfl (fun _ => trivial) (by omega), ← en]
  · intro k hk
    refine ⟨_, rfl, fun acc H2 hH2 => ?_⟩
    have hp2 : H2[p]? = some (.dic (dN ps)) := by rw [hH2]; exact Keep.one hp
    have fi := fIn_dic (neg := false) (i := (k : Int)) hp2
    have kv := kvK_dN k ps
    rw [s.lk] at kv
    have a4 : (e.set 12 (some (D.int k)))[4]? = some (some (.ref p)) := by rw [List.getElem?_set_ne (by decide)]; exact e4
    have a12 : (e.set 12 (some (D.int k)))[12]? = some (some (.int k)) := List.getElem?_set_self e12
    cases hc : cv came k with
    | none => rw [hc] at kv; simp [a4, a12, fi, kv]
    | some t => rw [hc] at kv; simp [a4, a12, fi, kv, hp2]
  · rw [← en]
    exact cl_nDs
/-- one gate looked at -/
noncomputable def lapB : SS := (sSeq (sAs (.t [8, 9, 10]) (eOp fIy (eV 3) (eV 5))) (sSeq (sAs (.n 11) (eFz (eLc [12] (.n 12) (iE (eV 9)) (tB (eOp (fIn false) (eV 12) (eV 4))) (eOp fIy (eV 4) (eV 12))))) (sSeq (sIf (tOr' (tB (eOp (fIn false) (eOp gAdd (eV 2) (eV 5)) (eV 4))) (tOr' (tB (eOp (fEq false) (eB bLen (aCons (eV 11) aNil)) (eC (.int 0)))) (tAn (tB (eOp (fEq false) (eV 8) (eC (.str "last")))) (tB (eOp fLt (eB bLen (aCons (eV 11) aNil)) (eB bLen (aCons (eV 9) aNil))))))) sCt sNx) (sSeq (sAs (.n 13) (eOp gAdd (eV 10) (eIf (tB (eOp (fEq false) (eV 8) (eC (.str "first")))) (eB gMin (aCons (eV 11) aNil)) (eB gMax (aCons (eV 11) aNil))))) (sIf (tOr' (tB (eOp (fIs false) (eV 7) (eC .non))) (tB (eOp fLt (eV 13) (eOp fIy (eV 7) (eC (.int 0)))))) (sAs (.n 7) (eTup (aCons (eV 13) (aCons (eOp gAdd (eV 2) (eV 5)) aNil)))) sNx)))))
theorem lap_s {m : Nat} {gs : List G} (ok : Ok m gs) {came : List (Option Nat)} {ps : List (Nat × Nat)} (sh : Shows ps came) (hl : came.length = m + gs.length) {p : Nat} {H : IH} (hp : H[p]? = some (.dic (dN ps))) {x0 x1 a5 a6 a8 a9 a10 a11 a12 a13 : Option D} :
    ∃ (bo : Option (Nat × Nat)) (a5' a8' a9' a10' a11' a12' a13' : Option D), BestOf (cands m gs came) bo ∧
      forGo (fun _ => True) (.n 5) lapB (rgD 0 gs.length) [x0, x1, some (.int m), some (gsD gs), some (.ref p), a5, a6, some .non, a8, a9, a10, a11, a12, a13] H =
        .nx [x0, x1, some (.int m), some (gsD gs), some (.ref p), a5', a6, some (bD m bo), a8', a9', a10', a11', a12', a13'] H := by
  refine for_rg (fun i e H2 => ∃ (bo : Option (Nat × Nat)) (a5' a8' a9' a10' a11' a12' a13' : Option D), H2 = H ∧ BestOf ((List.range i).filterMap (candAt m gs came)) bo ∧
      e = [x0, x1, some (.int m), some (gsD gs), some (.ref p), a5', a6, some (bD m bo), a8', a9', a10', a11', a12', a13'])
    (fun r => ∃ (bo : Option (Nat × Nat)) (a5' a8' a9' a10' a11' a12' a13' : Option D), BestOf (cands m gs came) bo ∧ r = .nx [x0, x1, some (.int m), some (gsD gs), some (.ref p), a5', a6, some (bD m bo), a8', a9', a10', a11', a12', a13'] H) ?_ ?_ ?_
  · rintro i e H2 hi ⟨bo, a5', a8', a9', a10', a11', a12', a13', rfl, hbo, rfl⟩
    refine ⟨trivial, _, rfl, .inl ?_⟩
    have hg : gs[i]? = some gs[i] := List.getElem?_eq_getElem hi
    have om := ok.many _ (List.getElem_mem hi)
    generalize gs[i] = g at hg om
    have rs : (List.range (i + 1)).filterMap (candAt m gs came) = (List.range i).filterMap (candAt m gs came) ++ (candAt m gs came i).toList := by
      rw [List.range_succ, List.filterMap_append]
      cases hca : candAt m gs came i <;> simp [hca]
    have lt : ∀ q ∈ (List.range i).filterMap (candAt m gs came), q.2 < i := fun q hq => by
      obtain ⟨j, hj, e⟩ := List.mem_filterMap.mp hq
      unfold candAt at e
      split at e
      · obtain ⟨g, _, e⟩ := Option.bind_eq_some_iff.mp e
        obtain ⟨t, _, e⟩ := Option.map_eq_some_iff.mp e
        cases e
        exact List.mem_range.mp hj
      · cases e
    rw [rs]
    generalize (List.range i).filterMap (candAt m gs came) = l at hbo lt
    have fi := fIn_dic (neg := false) (i := ((m + i : Nat) : Int)) hp
    rw [kvK_dN, sh.lk] at fi
    push_cast at fi
    generalize hb : lapB _ _ = r
    simp [lapB, hg, G.e, setAll] at hb
    rw [there_s sh hp (by omega) rfl (by simp)] at hb
    have tbe : tb g came = if g.o.filterMap (cv came) = [] ∨ (g.f = false ∧ (g.o.filterMap (cv came)).length < g.o.length) then none else some (g.d + if g.f then lmin (g.o.filterMap (cv came)) else lmax (g.o.filterMap (cv came))) := rfl
    generalize g.o.filterMap (cv came) = ts at hb tbe
    have ca : candAt m gs came i = if cv came (m + i) = none then (tb g came).map fun t => (t, i) else none := by
      unfold candAt
      rw [hg]
      rfl
    have stay : ∀ (e2 : Lc) (r' : RS), candAt m gs came i = none → (r' = .nx e2 H2 ∨ r' = .ct e2 H2) → (∃ a5' a8' a9' a10' a11' a12' a13', e2 = [x0, x1, some (.int m), some (gsD gs), some (.ref p), a5', a6, some (bD m bo), a8', a9', a10', a11', a12', a13']) → r' = r →
        ∃ e2 h2, (r = RS.nx e2 h2 ∨ r = RS.ct e2 h2) ∧ ∃ (bo : Option (Nat × Nat)) (a5' a8' a9' a10' a11' a12' a13' : Option D), h2 = H2 ∧ BestOf (l ++ (candAt m gs came i).toList) bo ∧ e2 = [x0, x1, some (.int m), some (gsD gs), some (.ref p), a5', a6, some (bD m bo), a8', a9', a10', a11', a12', a13'] := by
      intro e2 r' hn hr he er
      obtain ⟨b5, b8, b9, b10, b11, b12, b13, rfl⟩ := he
      refine ⟨_, H2, er ▸ hr, bo, _, _, _, _, _, _, _, rfl, ?_, rfl⟩
      rw [hn]
      simpa using hbo
    cases hcv : cv came (m + i) with
    | some t0 =>
      rw [hcv] at fi
      simp [fi] at hb
      exact stay _ _ (by rw [ca, hcv]; rfl) (.inr rfl) ⟨_, _, _, _, _, _, _, rfl⟩ hb
    | none =>
      rw [hcv] at fi
      simp [fi] at hb
      by_cases q1 : ts = []
      · subst q1
        simp at hb tbe
        exact stay _ _ (by rw [ca, tbe]; simp) (.inr rfl) ⟨_, _, _, _, _, _, _, rfl⟩ hb
      · have q1l := List.length_pos_iff.mpr q1
        by_cases q2 : g.f = false ∧ ts.length < g.o.length
        · rw [if_pos (.inr q2)] at tbe
          simp [q1, q2, G.w] at hb
          exact stay _ _ (by rw [ca, tbe]; simp) (.inr rfl) ⟨_, _, _, _, _, _, _, rfl⟩ hb
        · rw [if_neg (by rintro (z | z); exact q1 z; exact q2 z)] at tbe
          have tme : (if g.w = Str.ofString "first" then gMin [.fls (nDs ts)] H2 else gMax [.fls (nDs ts)] H2) = .ok (.int ((if g.f = true then lmin ts else lmax ts : Nat) : Int)) H2 := by
            cases hf : g.f
            · simp [G.w, hf, gMax_s q1]
            · simp [G.w, hf, gMin_s q1]
          have hw : (if g.w = Str.ofString "last" then R.ok (decide (ts.length < g.o.length)) H2 else R.ok false H2) = R.ok false H2 := by
            cases hf : g.f
            · have : ¬ ts.length < g.o.length := fun z => q2 ⟨hf, z⟩
              simp [G.w, hf, this]
            · simp [G.w, hf]
          generalize (if g.f = true then lmin ts else lmax ts) = x at tbe tme
          have cae : candAt m gs came i = some (g.d + x, i) := by rw [ca, tbe]; simp [hcv]
          simp [q1] at hb
          rw [hw] at hb
          simp at hb
          rw [tme] at hb
          simp at hb
          cases bo with
          | none =>
            have hl0 : l = [] := hbo
            subst hl0
            simp [bD, isN] at hb
            subst hb
            refine ⟨_, _, .inl rfl, some (g.d + x, i), _, _, _, _, _, _, _, rfl, ?_, by simp [bD]; exact ⟨rfl, rfl, rfl, rfl, rfl, rfl, rfl⟩⟩
            rw [cae]
            exact ⟨by simp, fun q hq => by simp at hq; subst hq; omega⟩
          | some b =>
            have hlb : LeastP l b := hbo
            by_cases q3 : g.d + x < b.1
            · have q4 : (g.d : Int) + x < b.1 := by omega
              simp [bD, isN, q4] at hb
              subst hb
              refine ⟨_, _, .inl rfl, some (g.d + x, i), _, _, _, _, _, _, _, rfl, ?_, by simp [bD]; exact ⟨rfl, rfl, rfl, rfl, rfl, rfl, rfl⟩⟩
              rw [cae]
              refine ⟨by simp, fun q hq => ?_⟩
              rcases List.mem_append.mp hq with z | z
              · have := hlb.2 q z
                dsimp only
                omega
              · simp at z; subst z; omega
            · have q4 : ¬ (g.d : Int) + x < b.1 := by omega
              simp [bD, isN, q4] at hb
              subst hb
              refine ⟨_, _, .inl rfl, some b, _, _, _, _, _, _, _, rfl, ?_, by simp [bD]; exact ⟨rfl, rfl, rfl, rfl, rfl, rfl, rfl⟩⟩
              rw [cae]
              refine ⟨by simp [hlb.1], fun q hq => ?_⟩
              rcases List.mem_append.mp hq with z | z
              · exact hlb.2 q z
              · have := lt b hlb.1
                simp at z; subst z
                dsimp only
                omega
  · rintro e H2 ⟨bo, a5', a8', a9', a10', a11', a12', a13', rfl, hbo, rfl⟩
    exact ⟨trivial, bo, _, _, _, _, _, _, _, hbo, rfl⟩
  · exact ⟨none, _, _, _, _, _, _, _, rfl, rfl, rfl⟩
theorem law_comes_s {m : Nat} {gs : List G} {ts c' : List (Option Nat)} (ok : Ok m gs) (hts : ts.length = m) (run : Run m gs (ts ++ List.replicate gs.length none) c') {h : IH} :
    F_law_comes [netD m gs, .tup (ts.map oD)] h = .ok (.tup ((c'.drop m).map oD)) h := by
  have hn := ok.hn
  have hm := ok.hm
  have sm := small (show m ≤ 4000 by omega)
  have sm2 := small (show gs.length ≤ 4000 by omega)
  have sm3 : -4611686018427387904 ≤ (gs.length : Int) + 1 ∧ (gs.length : Int) + 1 < 4611686018427387904 := by omega
  simp [F_law_comes, S_law_comes, sm]
  refine for_rg (fun i e H => ∃ (ps : List (Nat × Nat)) (a5 : Option D), e = [some (netD m gs), some (.tup (ts.map oD)), some (.int m), some (gsD gs), some (.ref h.length), a5, none, none, none, none, none, none, none, none] ∧ Keep h H ∧ H[h.length]? = some (.dic (dN ps)) ∧
    ps.length ≤ i ∧ ∀ k, ps.lookup k = if k < i then cv ts k else none) (fun r => gc h (endS (r.sq _)) = _) ?_ ?_ ?_
  · rintro i e H hi ⟨ps, a5, rfl, kp, h1, lp, lk⟩
    refine ⟨trivial, _, rfl, .inl ?_⟩
    have hit : i < ts.length := by omega
    have ht : (ts.map oD)[i]? = some (oD (cv ts i)) := oD_at hit
    rw [List.getElem?_map] at ht
    generalize hb : sIf _ _ _ _ _ = r
    cases hc : cv ts i with
    | none =>
      rw [hc] at ht
      simp [ht, isN] at hb
      subst hb
      refine ⟨_, _, .inl rfl, ps, _, rfl, kp, h1, by omega, fun k => ?_⟩
      rw [lk k]
      by_cases q : k < i
      · rw [if_pos q, if_pos (by omega)]
      · rw [if_neg q]
        split
        · have : k = i := by omega
          subst this
          rw [hc]
        · rfl
    | some t =>
      rw [hc] at ht
      have nk : i ∉ ps.map (·.1) := fun z => by
        have := Shows.key (ps := ps) (came := ts.take i) ⟨fun k => by
          rw [lk k]
          unfold cv
          rw [List.getElem?_take]
          split <;> rfl, by omega⟩ (k := i) (by unfold cv; rw [List.getElem?_take, if_neg (by omega)]; rfl)
        exact this z
      have pu := fPuy_dN (v := t) h1 nk (by omega)
      simp [ht, isN, pu] at hb
      subst hb
      refine ⟨_, _, .inl rfl, ps ++ [(i, t)], _, rfl, kp.set (Nat.le_refl _), ?_, by simp; omega, fun k => ?_⟩
      · rw [List.getElem?_set_self (List.getElem?_eq_some_iff.mp h1).1]
      · rw [List.lookup_append, lk k]
        by_cases q : k < i
        · rw [if_pos q, if_pos (by omega)]
          have q2 : (k == i) = false := beq_eq_false_iff_ne.mpr (by omega)
          cases cv ts k <;> simp [List.lookup_cons, q2]
        · rw [if_neg q]
          by_cases q3 : k = i
          · subst q3
            simp [hc]
          · have q2 : (k == i) = false := beq_eq_false_iff_ne.mpr q3
            rw [if_neg (by omega)]
            simp [List.lookup_cons, q2]
  · rintro e H ⟨ps, a5, rfl, kp, h1, lp, lk⟩
    refine ⟨trivial, ?_⟩
    have sh : Shows ps (ts ++ List.replicate gs.length none) := ⟨fun k => by
      rw [lk k]
      unfold cv
      by_cases q : k < m
      · rw [if_pos q, List.getElem?_append_left (by omega)]
      · rw [if_neg q, List.getElem?_append_right (by omega), List.getElem?_replicate]
        split <;> rfl, by omega⟩
    simp [sm2, sm3]
    have o0 := opn_init (gs := gs) hts
    refine for_rg (fun i e H => ∃ (ps : List (Nat × Nat)) (came : List (Option Nat)) (a5 a6 a7 a8 a9 a10 a11 a12 a13 : Option D), e = [some (netD m gs), some (.tup (ts.map oD)), some (.int m), some (gsD gs), some (.ref h.length), a5, a6, a7, a8, a9, a10, a11, a12, a13] ∧ Keep h H ∧
      H[h.length]? = some (.dic (dN ps)) ∧ Shows ps came ∧ came.length = m + gs.length ∧ Run m gs came c' ∧ (opn m gs came).length + i ≤ gs.length ∧ ps.length + (opn m gs came).length ≤ m + gs.length) (fun r => gc h (endS (r.sq _)) = _) ?_ ?_ ?_
    · rintro i e H hi ⟨ps, came, a5, a6, a7, a8, a9, a10, a11, a12, a13, rfl, kp, h1, sh, hl, run, on, lp⟩
      refine ⟨trivial, _, rfl, ?_⟩
      obtain ⟨bo, b5, b8, b9, b10, b11, b12, b13, hbo, lap⟩ := lap_s ok sh hl h1 (x0 := some (netD m gs)) (x1 := some (.tup (ts.map oD))) (a5 := a5) (a6 := some (.int i)) (a8 := a8) (a9 := a9) (a10 := a10) (a11 := a11) (a12 := a12) (a13 := a13)
      generalize hb : sSeq _ _ _ _ = r
      simp [sm2] at hb
      unfold lapB at lap
      rw [lap] at hb
      have fin : ∀ (e : Lc) (H : IH), e.length = 14 → e[2]? = some (some (D.int m)) → e[3]? = some (some (gsD gs)) → e[4]? = some (some (D.ref h.length)) → Keep h H → (∃ ps, Shows ps c' ∧ H[h.length]? = some (.dic (dN ps))) →
          gc h (endS ((RS.nx e H).sq (sRt (eB bTup (aCons (eFz (eLc [5] (Tg.n 5) (iR1 (aCons (eB bLen (aCons (eV 3) aNil)) aNil)) tYe (eGet (eV 4) (eOp gAdd (eV 2) (eV 5))))) aNil))))) = R.ok (D.tup (List.drop m (List.map oD c'))) h := by
        intro e H e14 e2 e3 e4 kp ⟨ps, sh, hp⟩
        simp [e3, sm2, rgD_map]
        have lc := run.len
        have ec : (List.range gs.length).map (fun k => oD (cv c' (m + k))) = List.drop m (List.map oD c') := by
          refine List.ext_getElem (by simp; omega) fun i h1 h2 => ?_
          simp at h1
          have : m + i < c'.length := by omega
          simp [cv, this]
        have ecl : ∀ n, clDs n (List.drop m (List.map oD c')) = true := fun n => by rw [← List.map_drop]; exact cl_oDs
        rw [fz_map (List.range gs.length) (fun k : Nat => D.int k) (fun k => oD (cv c' (m + k))) rfl rfl (fun _ => trivial) (by simp; omega), ec]
        · simp
          exact gc_keep kp (by simpa using ecl h.length)
        · intro k hk
          refine ⟨_, rfl, fun acc H2 hH2 => ?_⟩
          have hp2 : H2[h.length]? = some (.dic (dN ps)) := by rw [hH2]; exact Keep.one hp
          have kv := kvK_dN (m + k) ps
          rw [sh.lk] at kv
          push_cast at kv
          have g2 : ∀ x y : Option D, ((e.set 5 x).set 5 y)[2]? = some (some (D.int m)) := fun x y => by rw [List.getElem?_set_ne (by decide), List.getElem?_set_ne (by decide)]; exact e2
          have g4 : ∀ x y : Option D, ((e.set 5 x).set 5 y)[4]? = some (some (D.ref h.length)) := fun x y => by rw [List.getElem?_set_ne (by decide), List.getElem?_set_ne (by decide)]; exact e4
          have g5 : ∀ x y : Option D, ((e.set 5 x).set 5 y)[5]? = some y := fun x y => List.getElem?_set_self (by rw [List.length_set]; omega)
          have f2 : ∀ y : Option D, (e.set 5 y)[2]? = some (some (D.int m)) := fun y => by rw [List.getElem?_set_ne (by decide)]; exact e2
          have f4 : ∀ y : Option D, (e.set 5 y)[4]? = some (some (D.ref h.length)) := fun y => by rw [List.getElem?_set_ne (by decide)]; exact e4
          have f5 : ∀ y : Option D, (e.set 5 y)[5]? = some y := fun y => List.getElem?_set_self (by omega)
          cases hc : cv c' (m + k) with
          | none => rw [hc] at kv; simp [g2, g4, g5, f2, f4, f5, hp2, kv]
          | some t => rw [hc] at kv; simp [g2, g4, g5, f2, f4, f5, hp2, kv]
        · rw [ec]; exact ecl _
      cases bo with
      | none =>
        have ce : cands m gs came = [] := hbo
        have e : came = c' := by
          cases run with
          | stop _ => rfl
          | step l _ => rw [ce] at l; exact absurd l.1 (by simp)
        subst e
        simp [bD, isN] at hb
        subst hb
        exact .inr (.inl ⟨_, _, rfl, fin _ H rfl rfl rfl rfl kp ⟨ps, sh, h1⟩⟩)
      | some b =>
        obtain ⟨t, k⟩ := b
        have lb : LeastP (cands m gs came) (t, k) := hbo
        obtain ⟨k1, k2, g, k3, k4⟩ := cand_is lb.1
        cases run with
        | stop e => rw [e] at lb; exact absurd lb.1 (by simp)
        | @step _ _ t' k' l' run =>
          have ee := lb.uniq l'
          cases ee
          have hk : m + k < came.length := by omega
          have mem : k ∈ opn m gs came := List.mem_filter.mpr ⟨List.mem_range.mpr k1, by simpa using k2⟩
          have pos := List.length_pos_of_mem mem
          have pu := fPuy_dN (v := t) h1 (sh.key k2) (by omega)
          push_cast at pu
          simp [bD, isN, pu] at hb
          subst hb
          have es := opn_set (gs := gs) (t := t) hk
          refine .inl ⟨_, _, .inl rfl, ps ++ [(m + k, t)], came.set (m + k) (some t), _, _, _, _, _, _, _, _, _, rfl, kp.set (Nat.le_refl _), ?_, sh.put k2 hk (by omega), by simpa using hl, run, ?_, ?_⟩
          · rw [List.getElem?_set_self (List.getElem?_eq_some_iff.mp h1).1]
          · rw [es, List.length_erase_of_mem mem]
            omega
          · rw [es, List.length_erase_of_mem mem, List.length_append]
            simp
            omega
    · rintro e H ⟨ps, came, a5, a6, a7, a8, a9, a10, a11, a12, a13, rfl, kp, h1, sh, hl, run, on, lp⟩
      omega
    · refine ⟨ps, ts ++ List.replicate gs.length none, _, _, _, _, _, _, _, _, _, rfl, kp, h1, sh, by simp [hts], run, ?_, ?_⟩
      · rw [o0]; simp
      · rw [o0]; simp; omega
  · exact ⟨[], none, rfl, ⟨_, rfl⟩, by simp [dN], by simp, fun k => by simp⟩
end K89
namespace K89
open PySem L2 Fl
/-! ### a network within another one -/
def psi (m : Nat) (φ : Nat → Nat) (o : Nat) : Nat := if o < m then o else m + φ (o - m)
structure Emb (m : Nat) (gs' gs : List G) (φ : Nat → Nat) : Prop where
  lt : ∀ k, k < gs'.length → φ k < gs.length
  mono : ∀ a b, a < b → b < gs'.length → φ a < φ b
  gate : ∀ k g', gs'[k]? = some g' → ∃ g, gs[φ k]? = some g ∧ g.f = g'.f ∧ g.d = g'.d ∧ g.o = g'.o.map (psi m φ)
  op : ∀ g ∈ gs', ∀ o ∈ g.o, o < m + gs'.length
section
variable {m : Nat} {gs' gs : List G} {φ : Nat → Nat} (E : Emb m gs' gs φ)
include E
theorem Emb.inj {a b : Nat} (ha : a < gs'.length) (hb : b < gs'.length) (e : φ a = φ b) : a = b := by
  rcases Nat.lt_trichotomy a b with h | h | h
  · have := E.mono a b h hb; omega
  · exact h
  · have := E.mono b a h ha; omega
theorem Emb.le {a b : Nat} (ha : a < gs'.length) (hb : b < gs'.length) (h : φ a ≤ φ b) : a ≤ b := by
  rcases Nat.lt_trichotomy a b with q | q | q
  · omega
  · omega
  · have := E.mono b a q ha; omega
/-- the two stand alike -/
structure Like (m : Nat) (gs' gs : List G) (φ : Nat → Nat) (c' c : List (Option Nat)) : Prop where
  l' : c'.length = m + gs'.length
  l : c.length = m + gs.length
  cv : ∀ o, o < m + gs'.length → cv c' o = cv c (psi m φ o)
theorem tb_like {c' c : List (Option Nat)} (L : Like m gs' gs φ c' c) {k : Nat} {g' : G} (hg : gs'[k]? = some g') : ∃ g, gs[φ k]? = some g ∧ tb g c = tb g' c' := by
  obtain ⟨g, h1, h2, h3, h4⟩ := E.gate k g' hg
  refine ⟨g, h1, ?_⟩
  have e : g.o.filterMap (K89.cv c) = g'.o.filterMap (K89.cv c') := by
    rw [h4, List.filterMap_map]
    exact fm_congr fun o ho => (L.cv o (E.op g' (List.mem_of_getElem? hg) o ho)).symm
  unfold tb
  rw [e, h2, h3, h4, List.length_map]
theorem cands_mem {gs : List G} {c : List (Option Nat)} {t k : Nat} : (t, k) ∈ cands m gs c ↔ k < gs.length ∧ cv c (m + k) = none ∧ ∃ g, gs[k]? = some g ∧ tb g c = some t := by
  refine ⟨cand_is, fun ⟨h1, h2, g, h3, h4⟩ => ?_⟩
  refine List.mem_filterMap.mpr ⟨k, List.mem_range.mpr h1, ?_⟩
  rw [if_pos h2, h3]
  simp [h4]
theorem psi_hi (k : Nat) : psi m φ (m + k) = m + φ k := by
  unfold psi
  rw [if_neg (by omega), show m + k - m = k by omega]
theorem cand_like {c' c : List (Option Nat)} (L : Like m gs' gs φ c' c) {t k : Nat} (hk : k < gs'.length) : (t, k) ∈ cands m gs' c' ↔ (t, φ k) ∈ cands m gs c := by
  have e1 := L.cv (m + k) (by omega)
  rw [psi_hi E] at e1
  have hg : gs'[k]? = some gs'[k] := List.getElem?_eq_getElem hk
  obtain ⟨g, h1, h2⟩ := tb_like E L hg
  rw [cands_mem E, cands_mem E]
  constructor
  · rintro ⟨_, a2, g', a3, a4⟩
    rw [hg] at a3
    cases a3
    exact ⟨E.lt k hk, by rw [← e1]; exact a2, g, h1, by rw [h2]; exact a4⟩
  · rintro ⟨_, a2, g', a3, a4⟩
    rw [h1] at a3
    cases a3
    exact ⟨hk, by rw [e1]; exact a2, _, hg, by rw [← h2]; exact a4⟩
theorem run_like {c a : List (Option Nat)} (r : Run m gs c a) : ∀ {c'}, Like m gs' gs φ c' c → ∃ a', Run m gs' c' a' ∧ Like m gs' gs φ a' a := by
  induction r with
  | @stop c e =>
    intro c' L
    refine ⟨c', .stop ?_, L⟩
    refine List.eq_nil_iff_forall_not_mem.mpr fun ⟨t, k⟩ z => ?_
    have q := (cand_like E L (cand_is z).1).mp z
    rw [e] at q
    cases q
  | @step c a t k lp r ih =>
    intro c' L
    have ci := cand_is lp.1
    have hk : m + k < c.length := by rw [L.l]; omega
    by_cases q : ∃ k', k' < gs'.length ∧ φ k' = k
    · obtain ⟨k', h1, rfl⟩ := q
      have hk' : m + k' < c'.length := by rw [L.l']; omega
      have lp' : LeastP (cands m gs' c') (t, k') := by
        refine ⟨(cand_like E L h1).mpr lp.1, fun ⟨t2, k2⟩ h2 => ?_⟩
        have l2 := (cand_is h2).1
        have := lp.2 (t2, φ k2) ((cand_like E L l2).mp h2)
        rcases this with z | ⟨z1, z2⟩
        · exact .inl z
        · exact .inr ⟨z1, E.le h1 l2 z2⟩
      obtain ⟨a', r', L'⟩ := ih (c' := c'.set (m + k') (some t)) ⟨by simpa using L.l', by simpa using L.l, fun o ho => by
        rw [cv_set hk', cv_set hk]
        by_cases q2 : m + k' = o
        · subst q2
          rw [if_pos rfl, psi_hi E, if_pos rfl]
        · rw [if_neg q2, if_neg, L.cv o ho]
          intro z
          unfold psi at z
          split at z
          · omega
          · have : φ k' = φ (o - m) := by omega
            have := E.inj h1 (by omega) this
            omega⟩
      exact ⟨a', .step lp' r', L'⟩
    · refine ih ⟨L.l', by simpa using L.l, fun o ho => ?_⟩
      rw [cv_set hk, if_neg, L.cv o ho]
      intro z
      unfold psi at z
      split at z
      · omega
      · exact q ⟨o - m, by omega, by omega⟩
theorem like_start {ts : List (Option Nat)} (hts : ts.length = m) : Like m gs' gs φ (ts ++ List.replicate gs'.length none) (ts ++ List.replicate gs.length none) := by
  refine ⟨by simp [hts], by simp [hts], fun o ho => ?_⟩
  unfold psi cv
  by_cases q : o < m
  · rw [if_pos q, List.getElem?_append_left (by omega), List.getElem?_append_left (by omega)]
  · have := E.lt (o - m) (by omega)
    rw [if_neg q, List.getElem?_append_right (by omega), List.getElem?_append_right (by omega), List.getElem?_replicate, List.getElem?_replicate, if_pos (by omega), if_pos (by omega)]
theorem below_like {k : Nat} (hk : k < gs'.length) : blw m gs (φ k) = (blw m gs' k).map φ := by
  have hg : gs'[k]? = some gs'[k] := List.getElem?_eq_getElem hk
  obtain ⟨g, h1, h2, h3, h4⟩ := E.gate k _ hg
  unfold blw
  rw [hg, h1]
  show below m g = (below m gs'[k]).map φ
  unfold below
  rw [h4, List.filterMap_map, List.map_filterMap]
  refine fm_congr fun o _ => ?_
  simp only [Function.comp]
  unfold psi
  by_cases q : o < m
  · rw [if_pos q, if_neg (by omega)]
    rfl
  · rw [if_neg q, if_pos (by omega), if_pos (by omega)]
    simp
theorem blw_lt' {k j : Nat} (h : j ∈ blw m gs' k) : j < gs'.length := by
  unfold blw at h
  cases e : gs'[k]? with
  | none => rw [e] at h; cases h
  | some g =>
    rw [e] at h
    obtain ⟨o, ho, e2⟩ := List.mem_filterMap.mp h
    have := E.op g (List.mem_of_getElem? e) o ho
    split at e2
    · cases e2; omega
    · cases e2
theorem reach_up {S : List Nat} {k : Nat} (hS : ∀ k ∈ S, k < gs'.length) (r : Reach m gs' S k) : k < gs'.length ∧ Reach m gs (S.map φ) (φ k) := by
  induction r with
  | base h => exact ⟨hS _ h, .base (List.mem_map.mpr ⟨_, h, rfl⟩)⟩
  | @step j k _ hk ih =>
    refine ⟨blw_lt' E hk, .step ih.2 ?_⟩
    rw [below_like E ih.1]
    exact List.mem_map.mpr ⟨k, hk, rfl⟩
theorem reach_dn {S : List Nat} {j : Nat} (hS : ∀ k ∈ S, k < gs'.length) (r : Reach m gs (S.map φ) j) : ∃ k, k < gs'.length ∧ φ k = j ∧ Reach m gs' S k := by
  induction r with
  | base h =>
    obtain ⟨k, hk, rfl⟩ := List.mem_map.mp h
    exact ⟨k, hS k hk, rfl, .base hk⟩
  | @step i j _ hj ih =>
    obtain ⟨k, h1, rfl, h3⟩ := ih
    rw [below_like E h1] at hj
    obtain ⟨l, hl, rfl⟩ := List.mem_map.mp hj
    exact ⟨l, blw_lt' E hl, rfl, .step h3 hl⟩
theorem reach_like {S : List Nat} {k : Nat} (hS : ∀ k ∈ S, k < gs'.length) (hk : k < gs'.length) : Reach m gs' S k ↔ Reach m gs (S.map φ) (φ k) := by
  refine ⟨fun r => (reach_up E hS r).2, fun r => ?_⟩
  obtain ⟨j, h1, h2, h3⟩ := reach_dn E hS r
  rw [← E.inj h1 hk h2]
  exact h3
theorem loop_like (ok : Ok m gs) (ok' : Ok m gs') {k : Nat} (hk : k < gs'.length) : k ∈ need m gs' (blw m gs' k) ↔ φ k ∈ need m gs (blw m gs (φ k)) := by
  rw [need_mem ok' fun j hj => blw_lt' E hj, need_mem ok fun j hj => blw_lt ok hj, below_like E hk]
  exact reach_like E (fun j hj => blw_lt' E hj) hk
end
/-! ### what comes -/
theorem start_run {m : Nat} {gs : List G} {ts : List (Option Nat)} (hts : ts.length = m) : ∃ c, Run m gs (ts ++ List.replicate gs.length none) c := run_ex _ _ rfl (by simp [hts])
open Classical in
/-- the list of all times -/
noncomputable def fin (m : Nat) (gs : List G) (ts : List (Option Nat)) : List (Option Nat) := if h : ∃ c, Run m gs (ts ++ List.replicate gs.length none) c then Classical.choose h else []
theorem fin_run {m : Nat} {gs : List G} {ts : List (Option Nat)} (hts : ts.length = m) : Run m gs (ts ++ List.replicate gs.length none) (fin m gs ts) := by
  have h := start_run (gs := gs) hts
  unfold fin
  rw [dif_pos h]
  exact Classical.choose_spec h
/-- what the gates come at -/
noncomputable def cm (m : Nat) (gs : List G) (ts : List (Option Nat)) : List (Option Nat) := (fin m gs ts).drop m
theorem cm_len {m : Nat} {gs : List G} {ts : List (Option Nat)} (hts : ts.length = m) : (cm m gs ts).length = gs.length := by
  unfold cm
  rw [List.length_drop, (fin_run hts).len]
  simp [hts]
theorem cm_at {m : Nat} {gs : List G} {ts : List (Option Nat)} {k : Nat} : cv (cm m gs ts) k = cv (fin m gs ts) (m + k) := by
  unfold cm cv
  rw [List.getElem?_drop]
theorem cm_is {m : Nat} {gs : List G} {ts c : List (Option Nat)} (hts : ts.length = m) (r : Run m gs (ts ++ List.replicate gs.length none) c) : cm m gs ts = c.drop m := by
  unfold cm
  rw [(fin_run hts).uniq r]
theorem cm_emb {m : Nat} {gs' gs : List G} {φ : Nat → Nat} (E : Emb m gs' gs φ) {ts : List (Option Nat)} (hts : ts.length = m) {k : Nat} (hk : k < gs'.length) : cv (cm m gs' ts) k = cv (cm m gs ts) (φ k) := by
  obtain ⟨a', r', L⟩ := run_like E (fin_run hts) (like_start E hts)
  rw [cm_at, cm_at, (fin_run hts).uniq r', L.cv _ (by omega), psi_hi E]
theorem list_cv {l : List (Option Nat)} : l = (List.range l.length).map (cv l) := by
  refine List.ext_getElem (by simp) fun i h1 h2 => ?_
  simp [cv, h1]
/-! trimmed, beside -/
theorem kept_at {gs : List G} {kept : List Nat} (kl : ∀ k ∈ kept, k < gs.length) : (kept.filterMap fun k => gs[k]?).length = kept.length ∧ ∀ (i k : Nat), kept[i]? = some k → (kept.filterMap fun k => gs[k]?)[i]? = gs[k]? := by
  induction kept with
  | nil => simp
  | cons x kept ih =>
    obtain ⟨h1, h2⟩ := ih fun k hk => kl k (List.mem_cons_of_mem _ hk)
    have := kl x (List.mem_cons_self ..)
    rw [List.filterMap_cons, List.getElem?_eq_getElem this]
    refine ⟨by simp [h1], fun i k hi => ?_⟩
    cases i with
    | zero =>
      simp at hi
      subst hi
      simp [List.getElem?_eq_getElem this]
    | succ i =>
      simp at hi ⊢
      exact h2 i k hi
theorem trim_len {m : Nat} {gs : List G} {kept : List Nat} (kl : ∀ k ∈ kept, k < gs.length) : (trim m gs kept).length = kept.length := by
  unfold trim
  rw [List.length_map]
  exact (kept_at kl).1
theorem tφ_lt {m : Nat} {kept : List Nat} {o : Nat} (h : m ≤ o → o - m ∈ kept) : tφ m kept o < m + kept.length := by
  unfold tφ
  by_cases q : o < m
  · rw [if_pos q]; omega
  · rw [if_neg q]
    have := List.idxOf_lt_length_of_mem (h (by omega))
    omega
theorem trim_emb {m : Nat} {gs : List G} (ok : Ok m gs) {kept : List Nat} (kl : ∀ k ∈ kept, k < gs.length) (cls : Closed m gs kept) (asc : kept.Pairwise (· < ·)) : Emb m (trim m gs kept) gs fun i => kept.getD i 0 := by
  have tl := trim_len (m := m) kl
  have gt : ∀ i, i < kept.length → kept.getD i 0 = kept[i]! ∧ kept[i]? = some (kept.getD i 0) ∧ kept.getD i 0 ∈ kept := fun i hi => by
    simp [List.getD, List.getElem?_eq_getElem hi]
  have ga : ∀ i g', (trim m gs kept)[i]? = some g' → ∃ k g, kept[i]? = some k ∧ gs[k]? = some g ∧ g' = ren (tφ m kept) g := fun i g' hg => by
    have hi := (List.getElem?_eq_some_iff.mp hg).1
    rw [tl] at hi
    unfold trim at hg
    rw [List.getElem?_map] at hg
    obtain ⟨g, e1, e2⟩ := Option.map_eq_some_iff.mp hg
    have e3 := (kept_at kl).2 i kept[i] (List.getElem?_eq_getElem hi)
    rw [e3] at e1
    exact ⟨_, g, List.getElem?_eq_getElem hi, e1, e2.symm⟩
  have clo : ∀ k ∈ kept, ∀ g, gs[k]? = some g → ∀ o ∈ g.o, m ≤ o → o - m ∈ kept := fun k hk g hg o ho hm => cls k hk _ (by
    unfold blw
    rw [hg]
    exact List.mem_filterMap.mpr ⟨o, ho, by rw [if_pos hm]⟩)
  refine ⟨fun i hi => ?_, fun a b hab hb => ?_, fun i g' hg => ?_, fun g' hg o ho => ?_⟩
  · exact kl _ (gt i (by omega)).2.2
  · rw [tl] at hb
    have := List.pairwise_iff_getElem.mp asc a b (by omega) hb hab
    simp [List.getD, List.getElem?_eq_getElem hb, List.getElem?_eq_getElem (show a < kept.length by omega), this]
  · obtain ⟨k, g, e1, e2, rfl⟩ := ga i g' hg
    have hk : k ∈ kept := List.mem_of_getElem? e1
    have ek : kept.getD i 0 = k := by simp [List.getD, e1]
    refine ⟨g, by rw [ek]; exact e2, rfl, rfl, ?_⟩
    unfold ren
    dsimp only
    rw [List.map_map]
    refine (List.map_id' g.o).symm.trans (List.map_congr_left fun o ho => ?_)
    simp only [Function.comp]
    unfold tφ psi
    by_cases q : o < m
    · rw [if_pos q, if_pos q]
    · have mem := clo k hk g e2 o ho (by omega)
      have lt := List.idxOf_lt_length_of_mem mem
      rw [if_neg q, if_neg (by omega), show m + kept.idxOf (o - m) - m = kept.idxOf (o - m) by omega]
      simp [List.getD, List.getElem?_eq_getElem lt]
      omega
  · obtain ⟨i, hi, e⟩ := List.getElem_of_mem hg
    obtain ⟨k, g, e1, e2, rfl⟩ := ga i g' (by rw [List.getElem?_eq_getElem hi, e])
    obtain ⟨o2, ho2, rfl⟩ := List.mem_map.mp ho
    rw [tl]
    exact tφ_lt fun hm => clo k (List.mem_of_getElem? e1) g e2 o2 ho2 hm
theorem trim_ok {m : Nat} {gs : List G} (ok : Ok m gs) {kept : List Nat} (kl : ∀ k ∈ kept, k < gs.length) (cls : Closed m gs kept) (asc : kept.Pairwise (· < ·)) : Ok m (trim m gs kept) := by
  have E := trim_emb ok kl cls asc
  have nd : kept.Nodup := asc.imp fun h => Nat.ne_of_lt h
  have mem : ∀ g' ∈ trim m gs kept, ∃ g ∈ gs, g' = ren (tφ m kept) g := fun g' hg => by
    unfold trim at hg
    obtain ⟨g, h1, h2⟩ := List.mem_map.mp hg
    obtain ⟨k, _, e⟩ := List.mem_filterMap.mp h1
    exact ⟨g, List.mem_of_getElem? e, h2.symm⟩
  refine ⟨ok.hm, ?_, E.op, fun g' hg => ?_, ok.m1, fun g' hg => ?_, fun g' hg => ?_⟩
  · rw [trim_len kl]
    exact Nat.le_trans (nodup_le nd kl) ok.hn
  · obtain ⟨g, h1, rfl⟩ := mem g' hg
    simpa [ren] using ok.many g h1
  · obtain ⟨g, h1, rfl⟩ := mem g' hg
    simpa [ren] using ok.ne g h1
  · obtain ⟨g, h1, rfl⟩ := mem g' hg
    simpa [ren] using ok.dl g h1
theorem both_l {m : Nat} {gs os : List G} (ok : Ok m gs) : Emb m gs (both m gs os) id := by
  refine ⟨fun k hk => by simp [both]; omega, fun a b h _ => h, fun k g hg => ⟨g, ?_, rfl, rfl, ?_⟩, ok.op⟩
  · unfold both
    show (gs ++ _)[k]? = _
    rw [List.getElem?_append_left (List.getElem?_eq_some_iff.mp hg).1]
    exact hg
  · refine (List.map_id' g.o).symm.trans (List.map_congr_left fun o _ => ?_)
    unfold psi
    simp
    omega
theorem both_r {m : Nat} {gs os : List G} (ok : Ok m os) : Emb m os (both m gs os) fun k => gs.length + k := by
  refine ⟨fun k hk => by simp [both]; omega, fun a b h _ => by omega, fun k g hg => ⟨ren (bφ m gs.length) g, ?_, rfl, rfl, ?_⟩, ok.op⟩
  · unfold both
    rw [List.getElem?_append_right (by omega), List.getElem?_map]
    simp [hg]
  · unfold ren
    dsimp only
    refine List.map_congr_left fun o _ => ?_
    unfold bφ psi
    dsimp only
    split
    · rfl
    · omega
theorem both_ok {m : Nat} {gs os : List G} (ok : Ok m gs) (ok2 : Ok m os) (hz : gs.length + os.length ≤ 40) : Ok m (both m gs os) := by
  have mem : ∀ g' ∈ both m gs os, g' ∈ gs ∨ ∃ g ∈ os, g' = ren (bφ m gs.length) g := fun g' hg => by
    unfold both at hg
    rcases List.mem_append.mp hg with h | h
    · exact .inl h
    · obtain ⟨g, h1, h2⟩ := List.mem_map.mp h
      exact .inr ⟨g, h1, h2.symm⟩
  have len : (both m gs os).length = gs.length + os.length := by simp [both]
  refine ⟨ok.hm, by omega, fun g' hg o ho => ?_, fun g' hg => ?_, ok.m1, fun g' hg => ?_, fun g' hg => ?_⟩
  · rw [len]
    rcases mem g' hg with h | ⟨g, h, rfl⟩
    · have := ok.op g' h o ho
      omega
    · obtain ⟨o2, ho2, rfl⟩ := List.mem_map.mp ho
      have := ok2.op g h o2 ho2
      unfold bφ
      split <;> omega
  · rcases mem g' hg with h | ⟨g, h, rfl⟩
    · exact ok.many g' h
    · simpa [ren] using ok2.many g h
  · rcases mem g' hg with h | ⟨g, h, rfl⟩
    · exact ok.ne g' h
    · simpa [ren] using ok2.ne g h
  · rcases mem g' hg with h | ⟨g, h, rfl⟩
    · exact ok.dl g' h
    · simpa [ren] using ok2.dl g h
end K89
namespace K89
open PySem L2 Fl
theorem ext_cv {a b : List (Option Nat)} (hl : a.length = b.length) (h : ∀ k, k < a.length → cv a k = cv b k) : a = b := by
  rw [list_cv (l := a), list_cv (l := b), hl]
  exact List.map_congr_left fun k hk => h k (by rw [hl]; exact List.mem_range.mp hk)
theorem cm_trim {m : Nat} {gs : List G} (ok : Ok m gs) {kept : List Nat} (kl : ∀ k ∈ kept, k < gs.length) (cls : Closed m gs kept) (asc : kept.Pairwise (· < ·)) {ts : List (Option Nat)} (hts : ts.length = m) :
    cm m (trim m gs kept) ts = kept.map (cv (cm m gs ts)) := by
  have E := trim_emb ok kl cls asc
  have tl := trim_len (m := m) kl
  refine ext_cv (by rw [cm_len hts, tl, List.length_map]) fun i hi => ?_
  rw [cm_len hts, tl] at hi
  rw [cm_emb E hts (by omega)]
  have e : (kept.map (cv (cm m gs ts)))[i]? = some (cv (cm m gs ts) kept[i]) := by simp [hi]
  unfold cv at e ⊢
  rw [e]
  simp [List.getD, hi]
theorem cv_app {a b : List (Option Nat)} {k : Nat} : cv (a ++ b) k = if k < a.length then cv a k else cv b (k - a.length) := by
  unfold cv
  by_cases q : k < a.length
  · rw [if_pos q, List.getElem?_append_left q]
  · rw [if_neg q, List.getElem?_append_right (by omega)]
theorem cm_both {m : Nat} {gs os : List G} (ok : Ok m gs) (ok2 : Ok m os) {ts : List (Option Nat)} (hts : ts.length = m) : cm m (both m gs os) ts = cm m gs ts ++ cm m os ts := by
  have len : (both m gs os).length = gs.length + os.length := by simp [both]
  refine ext_cv (by rw [cm_len hts, List.length_append, cm_len hts, cm_len hts, len]) fun i hi => ?_
  rw [cm_len hts, len] at hi
  rw [cv_app, cm_len hts]
  by_cases q : i < gs.length
  · rw [if_pos q]
    exact (cm_emb (both_l ok) hts q).symm
  · rw [if_neg q]
    have := cm_emb (both_r (gs := gs) ok2) hts (k := i - gs.length) (by omega)
    rw [this]
    rw [show gs.length + (i - gs.length) = i by omega]
theorem asc_uniq : ∀ {l k : List Nat}, l.Pairwise (· < ·) → k.Pairwise (· < ·) → (∀ x, x ∈ l ↔ x ∈ k) → l = k
  | [], [], _, _, _ => rfl
  | [], y :: k, _, _, h => by have := (h y).mpr (.head _); cases this
  | x :: l, [], _, _, h => by have := (h x).mp (.head _); cases this
  | x :: l, y :: k, hl, hk, h => by
    obtain ⟨l1, l2⟩ := List.pairwise_cons.mp hl
    obtain ⟨k1, k2⟩ := List.pairwise_cons.mp hk
    have e : x = y := by
      rcases List.mem_cons.mp ((h x).mp (.head _)) with a | a
      · exact a
      · rcases List.mem_cons.mp ((h y).mpr (.head _)) with b | b
        · exact b.symm
        · have := k1 x a
          have := l1 y b
          omega
    subst e
    rw [asc_uniq l2 k2 fun z => ?_]
    constructor
    · intro hz
      rcases List.mem_cons.mp ((h z).mp (.tail _ hz)) with rfl | a
      · have := l1 z hz; omega
      · exact a
    · intro hz
      rcases List.mem_cons.mp ((h z).mpr (.tail _ hz)) with rfl | a
      · have := k1 z hz; omega
      · exact a
theorem loops_mem {m : Nat} {gs : List G} {k : Nat} : k ∈ loops m gs ↔ k < gs.length ∧ k ∈ need m gs (blw m gs k) := by
  unfold loops
  rw [List.mem_filter, List.mem_range]
  simp
theorem loops_asc {m : Nat} {gs : List G} : (loops m gs).Pairwise (· < ·) := List.Pairwise.filter _ (range_lt _)
theorem loops_len {m : Nat} {gs : List G} : (loops m gs).length ≤ gs.length := filter_rg_le _ _
theorem loops_trim {m : Nat} {gs : List G} (ok : Ok m gs) {kept : List Nat} (kl : ∀ k ∈ kept, k < gs.length) (cls : Closed m gs kept) (asc : kept.Pairwise (· < ·)) :
    loops m (trim m gs kept) = ((loops m gs).filter fun k => decide (k ∈ kept)).map kept.idxOf := by
  have E := trim_emb ok kl cls asc
  have ok' := trim_ok ok kl cls asc
  have tl := trim_len (m := m) kl
  have nd : kept.Nodup := asc.imp fun h => Nat.ne_of_lt h
  refine asc_uniq loops_asc ?_ fun i => ?_
  · rw [List.pairwise_map]
    refine List.Pairwise.imp_of_mem (fun {a b} ha hb hab => ?_) (List.Pairwise.filter _ loops_asc)
    have ha := of_decide_eq_true (List.mem_filter.mp ha).2
    have hb := of_decide_eq_true (List.mem_filter.mp hb).2
    have la := List.idxOf_lt_length_of_mem ha
    have lb := List.idxOf_lt_length_of_mem hb
    rcases Nat.lt_trichotomy (kept.idxOf a) (kept.idxOf b) with q | q | q
    · exact q
    · have e1 : kept[kept.idxOf a] = a := List.getElem_idxOf la
      have e2 : kept[kept.idxOf b] = b := List.getElem_idxOf lb
      have : a = b := by rw [← e1, ← e2]; congr 1
      omega
    · have z := List.pairwise_iff_getElem.mp asc _ _ lb la q
      rw [List.getElem_idxOf lb, List.getElem_idxOf la] at z
      omega
  · rw [loops_mem, tl, List.mem_map]
    constructor
    · rintro ⟨h1, h2⟩
      have h3 := (loop_like E ok ok' (by omega)).mp h2
      have ek : kept.getD i 0 = kept[i] := by simp [List.getD, h1]
      rw [ek] at h3
      have mem := List.getElem_mem h1
      refine ⟨kept[i], List.mem_filter.mpr ⟨loops_mem.mpr ⟨kl _ mem, h3⟩, by simpa using mem⟩, ?_⟩
      exact nd.idxOf_getElem i h1
    · rintro ⟨k, h1, rfl⟩
      obtain ⟨h2, h3⟩ := List.mem_filter.mp h1
      have mem := of_decide_eq_true h3
      have la := List.idxOf_lt_length_of_mem mem
      refine ⟨la, (loop_like E ok ok' (by omega)).mpr ?_⟩
      have ek : kept.getD (kept.idxOf k) 0 = k := by
        simp [List.getD, la]
      rw [ek]
      exact (loops_mem.mp h2).2
theorem loops_both {m : Nat} {gs os : List G} (ok : Ok m gs) (ok2 : Ok m os) (hz : gs.length + os.length ≤ 40) : loops m (both m gs os) = loops m gs ++ (loops m os).map fun k => gs.length + k := by
  have ok3 := both_ok ok ok2 hz
  have len : (both m gs os).length = gs.length + os.length := by simp [both]
  refine asc_uniq loops_asc ?_ fun i => ?_
  · rw [List.pairwise_append]
    refine ⟨loops_asc, ?_, fun a ha b hb => ?_⟩
    · rw [List.pairwise_map]
      exact loops_asc.imp fun h => by omega
    · have := (loops_mem.mp ha).1
      obtain ⟨k, _, rfl⟩ := List.mem_map.mp hb
      omega
  · rw [List.mem_append, loops_mem, len, List.mem_map]
    constructor
    · rintro ⟨h1, h2⟩
      by_cases q : i < gs.length
      · exact .inl (loops_mem.mpr ⟨q, (loop_like (both_l ok) ok3 ok q).mpr h2⟩)
      · refine .inr ⟨i - gs.length, loops_mem.mpr ⟨by omega, (loop_like (both_r ok2) ok3 ok2 (by omega)).mpr ?_⟩, by omega⟩
        rw [show gs.length + (i - gs.length) = i by omega]
        exact h2
    · rintro (h | ⟨k, h, rfl⟩)
      · obtain ⟨h1, h2⟩ := loops_mem.mp h
        exact ⟨by omega, (loop_like (both_l ok) ok3 ok h1).mp h2⟩
      · obtain ⟨h1, h2⟩ := loops_mem.mp h
        exact ⟨by omega, (loop_like (both_r ok2) ok3 ok2 h1).mp h2⟩
/-! latest, quiet -/
theorem lmax_spec : ∀ {l : List Nat}, l ≠ [] → lmax l ∈ l ∧ ∀ y ∈ l, y ≤ lmax l
  | [], h => absurd rfl h
  | x :: l, _ => by
    show l.foldl max x ∈ x :: l ∧ ∀ y ∈ x :: l, y ≤ l.foldl max x
    induction l generalizing x with
    | nil => simp
    | cons z l ih =>
      obtain ⟨h1, h2⟩ := ih (x := max x z) (by simp)
      rw [List.foldl_cons]
      refine ⟨?_, fun y hy => ?_⟩
      · rcases List.mem_cons.mp h1 with e | e
        · rw [e]
          by_cases q : x ≤ z
          · rw [Nat.max_eq_right q]; simp
          · rw [Nat.max_eq_left (by omega)]; simp
        · exact List.mem_cons_of_mem _ (List.mem_cons_of_mem _ e)
      · have h3 := h2 (max x z) (List.mem_cons_self ..)
        rcases List.mem_cons.mp hy with rfl | hy
        · omega
        · rcases List.mem_cons.mp hy with rfl | hy
          · omega
          · exact h2 y (List.mem_cons_of_mem _ hy)
theorem lmax_is {l : List Nat} {t : Nat} (h : t ∈ l) (h2 : ∀ y ∈ l, y ≤ t) : lmax l = t := by
  obtain ⟨h3, h4⟩ := lmax_spec (l := l) (fun z => by rw [z] at h; cases h)
  have := h2 _ h3
  have := h4 t h
  omega
theorem tms_prs (c : List (Option Nat)) : tms c = (prs c).map (·.1) := by
  unfold prs tms
  rw [List.map_filterMap]
  conv => lhs; rw [list_cv (l := c)]
  rw [List.filterMap_map]
  refine fm_congr fun k _ => ?_
  simp only [Function.comp, id]
  cases cv c k <;> rfl
theorem last_prs {c : List (Option Nat)} (h : tms c ≠ []) : ∃ p, (sP (prs c))[(sP (prs c)).length - 1]? = some p ∧ p.1 = lmax (tms c) := by
  have ne : sP (prs c) ≠ [] := fun z => by
    have := (sP_perm (prs c)).length_eq
    rw [z] at this
    apply h
    rw [tms_prs]
    have : prs c = [] := List.length_eq_zero_iff.mp this.symm
    rw [this]
    rfl
  have pos := List.length_pos_iff.mpr ne
  refine ⟨_, List.getElem?_eq_getElem (by omega), ?_⟩
  symm
  rw [tms_prs]
  refine lmax_is (List.mem_map.mpr ⟨_, (sP_perm (prs c)).mem_iff.mp (List.getElem_mem (by omega)), rfl⟩) fun y hy => ?_
  obtain ⟨p, hp, rfl⟩ := List.mem_map.mp hy
  have hp := (sP_perm (prs c)).mem_iff.mpr hp
  obtain ⟨i, hi, rfl⟩ := List.getElem_of_mem hp
  by_cases q : i = (sP (prs c)).length - 1
  · subst q; omega
  · have := List.pairwise_iff_getElem.mp (sP_srt (prs c)) i ((sP (prs c)).length - 1) hi (by omega) (by omega)
    unfold ple at this
    have := of_decide_eq_true this
    omega
theorem behind_is (l : List Nat) : lmax (0 :: l.map (· + 1)) = if l = [] then 0 else lmax l + 1 := by
  by_cases q : l = []
  · subst q; rfl
  · rw [if_neg q]
    obtain ⟨h1, h2⟩ := lmax_spec q
    refine lmax_is (List.mem_cons_of_mem _ (List.mem_map.mpr ⟨_, h1, rfl⟩)) fun y hy => ?_
    rcases List.mem_cons.mp hy with rfl | hy
    · omega
    · obtain ⟨x, hx, rfl⟩ := List.mem_map.mp hy
      have := h2 x hx
      omega
end K89
namespace K89
open PySem L2 Fl
/-! ### the jar -/
/-- at n stands a jar, its figures at m -/
structure Jar (n m : Nat) (h : IH) : Prop where
  ne : n ≠ m
  at_ : ∃ (b : Int) (a q : Nat), h[n]? = some (.lst [.int b, .ref m, .int a, .int q])
  fig : ∃ F : List Int, h[m]? = some (.lst (F.map D.int))
/-- only the jar has changed -/
structure JS (n m : Nat) (h h' : IH) : Prop where
  jar : Jar n m h'
  len : h'.length = h.length
  same : ∀ i, i ≠ n → h'[i]? = h[i]?
section
variable {n m : Nat} {h h' h2 g H : IH}
theorem Jar.nlt (J : Jar n m h) : n < h.length := by
  obtain ⟨b, a, q, e⟩ := J.at_
  exact (List.getElem?_eq_some_iff.mp e).1
theorem Jar.mlt (J : Jar n m h) : m < h.length := by
  obtain ⟨F, e⟩ := J.fig
  exact (List.getElem?_eq_some_iff.mp e).1
theorem JS.refl (J : Jar n m h) : JS n m h h := ⟨J, rfl, fun _ _ => rfl⟩
theorem JS.trans (a : JS n m h h') (b : JS n m h' h2) : JS n m h h2 := ⟨b.jar, by rw [b.len, a.len], fun i hi => by rw [b.same i hi, a.same i hi]⟩
theorem Jar.app (J : Jar n m h) : Jar n m (h ++ g) := by
  obtain ⟨b, a, q, e⟩ := J.at_
  obtain ⟨F, e2⟩ := J.fig
  exact ⟨J.ne, ⟨b, a, q, by rw [List.getElem?_append_left J.nlt]; exact e⟩, ⟨F, by rw [List.getElem?_append_left J.mlt]; exact e2⟩⟩
theorem JS.app (J : Jar n m h) (s : JS n m (h ++ g) H) : ∃ h', H = h' ++ g ∧ JS n m h h' := by
  have hl : H.length = h.length + g.length := by rw [s.len, List.length_append]
  have tl : (H.take h.length).length = h.length := by rw [List.length_take]; omega
  have e : H = H.take h.length ++ g := by
    refine List.ext_getElem? fun i => ?_
    by_cases q : i < h.length
    · rw [List.getElem?_append_left (by omega), List.getElem?_take_of_lt q]
    · have nl := J.nlt
      rw [List.getElem?_append_right (by omega), tl, s.same i (by omega), List.getElem?_append_right (by omega)]
  have at2 : ∀ i, i < h.length → (H.take h.length)[i]? = H[i]? := fun i hi => List.getElem?_take_of_lt hi
  refine ⟨H.take h.length, e, ⟨s.jar.ne, ?_, ?_⟩, tl, fun i hi => ?_⟩
  · obtain ⟨b, a, q, z⟩ := s.jar.at_
    exact ⟨b, a, q, by rw [at2 n J.nlt]; exact z⟩
  · obtain ⟨F, z⟩ := s.jar.fig
    exact ⟨F, by rw [at2 m J.mlt]; exact z⟩
  · by_cases q : i < h.length
    · rw [at2 i q, s.same i hi, List.getElem?_append_left q]
    · rw [List.getElem?_eq_none (by omega), List.getElem?_eq_none (by omega)]
theorem JS.gcH (s : JS n m h h') : gcH h h' := fun i o hi e => by
  by_cases q : i = n
  · subst q
    obtain ⟨b, a, q, z⟩ := s.jar.at_
    rw [z] at e
    cases e
    have := s.jar.mlt
    rw [s.len] at this
    exact .inr (by simp [clB, this])
  · rw [s.same i q] at e
    exact .inl e
theorem gc_js {d : D} (s : JS n m h h') : gc h (.ok d h') = .ok d h' := by
  dsimp only [gc]
  split
  · rw [← s.len, List.take_length]
  · rfl
theorem gc_jsg {d : D} (s : JS n m h h') (q : clD h.length d = true) : gc h (.ok d (h' ++ g)) = .ok d h' := gc_same q s.len s.gcH
theorem fz_js {l : List D} (s : JS n m h h') (q : clDs h.length l = true) : fz h (.ok (.ref h.length) (h' ++ [.lst l])) = .ok (.fls l) h' := fz_same s.len s.gcH q
end
theorem sip_s {n m : Nat} {h : IH} (J : Jar n m h) (p : Nat) (k : Nat) : ∃ (r : Nat) (h' : IH), r < k + 1 ∧ (1 ≤ k → r < k) ∧ JS n m h h' ∧ F_law_sip [.ref n, .int p, .int k] h = .ok (.int r) h' := by
  by_cases hk : k < 2
  · refine ⟨0, h, by omega, by omega, JS.refl J, ?_⟩
    have : (k : Int) < 2 := by omega
    simp [F_law_sip, S_law_sip, this]
  · have hk2 : ¬ (k : Int) < 2 := by omega
    obtain ⟨b, a, q, e⟩ := J.at_
    obtain ⟨F, e2⟩ := J.fig
    have nl := J.nlt
    have ne := J.ne
    have p2 : ∀ (H : IH) (L : List D) (d : D), H[n]? = some (.lst L) → 2 < L.length → fPuy (.ref n) (.int 2) d H = some (H.set n (.lst (L.set 2 d))) := fun H L d e hl => fPuy_l (i := 2) e hl
    have p0 : ∀ (H : IH) (L : List D) (d : D), H[n]? = some (.lst L) → 0 < L.length → fPuy (.ref n) (.int 0) d H = some (H.set n (.lst (L.set 0 d))) := fun H L d e hl => fPuy_l (i := 0) e hl
    generalize hb : (b * 16807 + ((a : Int) + 1) * 60037 + 31) % 2147480183 = b'
    have js : JS n m h (h.set n (.lst [.int b', .ref m, .int ((a : Int) + 1), .int q])) := by
      refine ⟨⟨ne, ⟨b', a + 1, q, by rw [List.getElem?_set_self nl]; simp⟩, ⟨F, by rw [List.getElem?_set_ne ne]; exact e2⟩⟩, by simp, fun i hi => ?_⟩
      rw [List.getElem?_set_ne (Ne.symm hi)]
    have a1 : (h.set n (.lst [.int b, .ref m, .int ((a : Int) + 1), .int q]))[n]? = some (.lst [.int b, .ref m, .int ((a : Int) + 1), .int q]) := List.getElem?_set_self nl
    have q1 := p2 h _ (.int ((a : Int) + 1)) e (by simp)
    have q2 := p0 _ _ (.int b') a1 (by simp)
    simp at q1 q2
    have a2 : (h.set n (.lst [.int b', .ref m, .int ((a : Int) + 1), .int q]))[n]? = some (.lst [.int b', .ref m, .int ((a : Int) + 1), .int q]) := List.getElem?_set_self nl
    have a3 : (h.set n (.lst [.int b', .ref m, .int ((a : Int) + 1), .int q]))[m]? = some (.lst (F.map D.int)) := by
      rw [List.getElem?_set_ne ne]; exact e2
    have fin : ∀ w : Int, ∃ r : Nat, r < k ∧ w % (k : Int) = r := fun w => ⟨(w % k).toNat, by have := Int.emod_lt_of_pos w (show (0 : Int) < k by omega); have := Int.emod_nonneg w (show (k : Int) ≠ 0 by omega); omega, by have := Int.emod_nonneg w (show (k : Int) ≠ 0 by omega); omega⟩
    have k0 : (0 : Int) < k := by omega
    have k1 : 0 < k := by omega
    suffices ∃ w : Int, F_law_sip [.ref n, .int p, .int k] h = .ok (.int (w % k)) (h.set n (.lst [.int b', .ref m, .int ((a : Int) + 1), .int q])) by
      obtain ⟨w, z⟩ := this
      obtain ⟨r, h1, h2⟩ := fin w
      exact ⟨r, _, by omega, fun _ => h1, js, by rw [z, h2]⟩
    have mo1 : Fl.MulOk b 16807 := .inr (by decide)
    have mo2 : Fl.MulOk ((a : Int) + 1) 60037 := .inr (by decide)
    have gj : ∀ d, gc h (.ok d (h.set n (.lst [.int b', .ref m, .int ((a : Int) + 1), .int q]))) = .ok d (h.set n (.lst [.int b', .ref m, .int ((a : Int) + 1), .int q])) := fun d => gc_js js
    by_cases c1 : a + 1 ≤ F.length
    · have c2 : (a : Int) + 1 ≤ F.length := by omega
      have fa : F[a]? = some F[a] := List.getElem?_eq_getElem (by omega)
      refine ⟨b' / 17 + F[a], ?_⟩
      simp [F_law_sip, S_law_sip, hk2, e, q1, a1, mo1, mo2, hb, q2, a2, a3, k0, k1, c2, fa, gj]
    · have c2 : ¬ (a : Int) + 1 ≤ F.length := by omega
      by_cases c3 : q < 3 ∧ ((p : Int) + q) % 4 = 0
      · have c4 : (q : Int) < 3 := by omega
        have c5 := c3.2
        have c6 : ∃ w : Int, ([D.int 0, D.int ((k : Int) - 1), D.int p] : List D)[q]? = some (.int w) := by
          have c7 : q = 0 ∨ q = 1 ∨ q = 2 := by omega
          rcases c7 with rfl | rfl | rfl
          · exact ⟨_, rfl⟩
          · exact ⟨_, rfl⟩
          · exact ⟨_, rfl⟩
        obtain ⟨w, hw⟩ := c6
        refine ⟨w, ?_⟩
        simp [F_law_sip, S_law_sip, hk2, e, q1, a1, mo1, mo2, hb, q2, a2, a3, k0, k1, c2, c4, c5, hw, gj]
      · refine ⟨b' / 17, ?_⟩
        by_cases c4 : (q : Int) < 3
        · have c5 : ¬ ((p : Int) + q) % 4 = 0 := fun z => c3 ⟨by omega, z⟩
          simp [F_law_sip, S_law_sip, hk2, e, q1, a1, mo1, mo2, hb, q2, a2, a3, k0, k1, c2, c4, c5, gj]
        · simp [F_law_sip, S_law_sip, hk2, e, q1, a1, mo1, mo2, hb, q2, a2, a3, k0, k1, c2, c4, gj]
end K89
namespace K89
open PySem L2 Fl
theorem word_at {r : Nat} (h : r < 2) : ∃ f : Bool, ([D.str "first", D.str "last"] : List D)[r]? = some (.str (if f = true then "first" else "last")) := by
  have : r = 0 ∨ r = 1 := by omega
  rcases this with rfl | rfl
  · exact ⟨true, rfl⟩
  · exact ⟨false, rfl⟩
theorem delay_at {r : Nat} (h : r < 6) : ∃ d : Nat, d ≤ 2000 ∧ ([D.int 0, D.int 1, D.int 2, D.int 3, D.int 99, D.int 2000] : List D)[r]? = some (.int d) := by
  have : r = 0 ∨ r = 1 ∨ r = 2 ∨ r = 3 ∨ r = 4 ∨ r = 5 := by omega
  rcases this with rfl | rfl | rfl | rfl | rfl | rfl
  · exact ⟨0, by omega, rfl⟩
  · exact ⟨1, by omega, rfl⟩
  · exact ⟨2, by omega, rfl⟩
  · exact ⟨3, by omega, rfl⟩
  · exact ⟨99, by omega, rfl⟩
  · exact ⟨2000, by omega, rfl⟩
/-- a list of draws -/
theorem draws_e {α : Type} (enc : α → D) (ce : ∀ a k, clD k (enc a) = true) {n m : Nat} {f : SE} {e : Lc} {x : Nat} {P : α → Prop} (he : ∀ (H : IH) (i : Nat), Jar n m H → ∃ (r : α) (H' : IH), P r ∧ JS n m H H' ∧ f (e.set x (some (.int i))) H = .ok (enc r) H') {h hb : IH} (sb : JS n m hb h) (J : Jar n m h) (c : Nat) (hc : c ≤ 1000) :
    ∃ (l : List α) (h' : IH), l.length = c ∧ (∀ r ∈ l, P r) ∧ JS n m h h' ∧ fz hb (lcGo (fun _ => True) (.n x) tYe f h.length e (rgD 0 c) (h ++ [.lst []])) = .ok (.fls (l.map enc)) h' := by
  have go : ∀ (c : Nat) (xs : List Nat) (acc : List α) (h0 h1 : IH), xs.length = c → JS n m h h1 → acc.length + c ≤ 1000 → (∀ r ∈ acc, P r) → ∃ (l : List α) (h' : IH), l.length = c ∧ (∀ r ∈ l, P r) ∧ JS n m h h' ∧
      lcGo (fun _ => True) (.n x) tYe f h.length e (nDs xs) (h1 ++ [.lst (acc.map enc)]) = .ok (.ref h.length) (h' ++ [.lst ((acc ++ l).map enc)]) := by
    intro c
    induction c with
    | zero =>
      intro xs acc h0 h1 hx s ha hp
      obtain rfl := List.length_eq_zero_iff.mp hx
      refine ⟨[], h1, rfl, by simp, s, ?_⟩
      show lcGo _ _ _ _ _ _ [] _ = _
      unfold lcGo
      simp
    | succ c ih =>
      intro xs acc h0 h1 hx s ha hp
      cases xs with
      | nil => cases hx
      | cons i xs =>
        have hx : xs.length = c := by simpa using hx
        obtain ⟨r, H', hr, s2, ev⟩ := he (h1 ++ [.lst (acc.map enc)]) i s.jar.app
        obtain ⟨h2, rfl, s3⟩ := JS.app s.jar s2
        obtain ⟨l, h', l1, l2, l3, l4⟩ := ih xs (acc ++ [r]) h0 h2 hx (s.trans s3) (by rw [List.length_append]; simp; omega) (fun y hy => by
          rcases List.mem_append.mp hy with z | z
          · exact hp y z
          · simp at z; subst z; exact hr)
        refine ⟨r :: l, h', by simp [l1], fun y hy => ?_, l3, ?_⟩
        · rcases List.mem_cons.mp hy with rfl | z
          · exact hr
          · exact l2 y z
        · show lcGo _ _ _ _ _ _ (.int i :: nDs xs) _ = _
          unfold lcGo
          have hl : h2.length = h.length := by rw [s3.len, s.len]
          have g1 : (h2 ++ [HB.lst (acc.map enc)])[h.length]? = some (.lst (acc.map enc)) := by rw [← hl]; simp
          have g2 : (h2 ++ [HB.lst (acc.map enc)]).set h.length (.lst (acc.map enc ++ [enc r])) = h2 ++ [.lst ((acc ++ [r]).map enc)] := by rw [← hl]; simp
          simp [tgS, ev, g1]
          rw [if_pos (by rw [sizeLine_eq]; omega)]
          have e2 : acc.map enc ++ [enc r] = (acc ++ [r]).map enc := by simp
          simp at g2 l4
          rw [g2, l4]
  rw [rgD_map]
  have el : (List.range c).map (fun i : Nat => D.int i) = nDs (List.range c) := rfl
  rw [el]
  obtain ⟨l, h', l1, l2, l3, l4⟩ := go c (List.range c) [] h h (by simp) (JS.refl J) (by simpa using hc) (by simp)
  refine ⟨l, h', l1, l2, l3, ?_⟩
  have l4' : lcGo (fun _ => True) (.n x) tYe f h.length e (nDs (List.range c)) (h ++ [.lst []]) = .ok (.ref h.length) (h' ++ [.lst (l.map enc)]) := l4
  rw [l4', sb.len]
  exact fz_js (sb.trans l3) (clDs_map fun a _ => ce a _)
theorem draws_s {n m : Nat} {f : SE} {e : Lc} {x : Nat} {P : Nat → Prop} (he : ∀ (H : IH) (i : Nat), Jar n m H → ∃ (r : Nat) (H' : IH), P r ∧ JS n m H H' ∧ f (e.set x (some (.int i))) H = .ok (.int r) H') {h hb : IH} (sb : JS n m hb h) (J : Jar n m h) (c : Nat) (hc : c ≤ 1000) :
    ∃ (l : List Nat) (h' : IH), l.length = c ∧ (∀ r ∈ l, P r) ∧ JS n m h h' ∧ fz hb (lcGo (fun _ => True) (.n x) tYe f h.length e (rgD 0 c) (h ++ [.lst []])) = .ok (.fls (nDs l)) h' :=
  draws_e (fun r : Nat => D.int r) (fun _ _ => by simp) he sb J c hc
/-- a gate of a network with many signals, n gates -/
structure GOk (s n : Nat) (g : G) : Prop where
  op : ∀ o ∈ g.o, o < s + n
  ne : 1 ≤ g.o.length
  many : g.o.length ≤ 60
  dl : g.d ≤ 2000
theorem gate_s {n m : Nat} {h : IH} (J : Jar n m h) {s c at_ form : Nat} (hs : 1 ≤ s) (hs3 : s ≤ 3) (hc : at_ < c) (hc2 : c ≤ 40) (hf : form < 6) :
    ∃ (g : G) (h' : IH), GOk s c g ∧ JS n m h h' ∧ F_law_gate [.ref n, .int s, .int c, .int at_, .int form] h = .ok g.e h' := by
  obtain ⟨r1, h1, _, b1, s1, e1⟩ := sip_s J 11 2
  obtain ⟨r2, h2, _, b2, s2, e2⟩ := sip_s s1.jar 12 6
  obtain ⟨f, hf1⟩ := word_at (b1 (by omega))
  obtain ⟨d, hd, hd1⟩ := delay_at (b2 (by omega))
  have s12 := s1.trans s2
  push_cast at e1 e2
  by_cases f0 : form = 0
  · subst f0
    obtain ⟨r3, h3, _, b3, s3, e3⟩ := sip_s s12.jar 14 4
    push_cast at e3
    by_cases q : r3 = 0
    · subst q
      obtain ⟨r4, h4, b4, b5, s4, e4⟩ := sip_s (s12.trans s3).jar 13 s
      push_cast at e4
      have b6 : r4 < s := by
        by_cases z : 1 ≤ s
        · exact b5 z
        · omega
      have js := (s12.trans s3).trans s4
      by_cases q2 : 0 < at_
      · refine ⟨⟨f, [s + at_ - 1, r4], d⟩, h4, ⟨by simp; omega, by simp, by simp, hd⟩, js, ?_⟩
        have ei : (s : Int) + at_ - 1 = ((s + at_ - 1 : Nat) : Int) := by omega
        simp [F_law_gate, S_law_gate, e1, e2, hf1, hd1, q2, e3, e4, G.e, G.w, ei, gc_js js]
      · refine ⟨⟨f, [s + c - 1, r4], d⟩, h4, ⟨by simp; omega, by simp, by simp, hd⟩, js, ?_⟩
        have ei : (s : Int) + c - 1 = ((s + c - 1 : Nat) : Int) := by omega
        simp [F_law_gate, S_law_gate, e1, e2, hf1, hd1, q2, e3, e4, G.e, G.w, ei, gc_js js]
    · have js := s12.trans s3
      by_cases q2 : 0 < at_
      · refine ⟨⟨f, [s + at_ - 1], d⟩, h3, ⟨by simp; omega, by simp, by simp, hd⟩, js, ?_⟩
        have ei : (s : Int) + at_ - 1 = ((s + at_ - 1 : Nat) : Int) := by omega
        simp [F_law_gate, S_law_gate, e1, e2, hf1, hd1, q2, q, e3, G.e, G.w, ei, gc_js js]
      · refine ⟨⟨f, [s + c - 1], d⟩, h3, ⟨by simp; omega, by simp, by simp, hd⟩, js, ?_⟩
        have ei : (s : Int) + c - 1 = ((s + c - 1 : Nat) : Int) := by omega
        simp [F_law_gate, S_law_gate, e1, e2, hf1, hd1, q2, q, e3, G.e, G.w, ei, gc_js js]
  · by_cases f1 : form = 1
    · subst f1
      by_cases q2 : 0 < at_
      · refine ⟨⟨f, [s + at_ - 1], d⟩, h2, ⟨by simp; omega, by simp, by simp, hd⟩, s12, ?_⟩
        have ei : (s : Int) + at_ - 1 = ((s + at_ - 1 : Nat) : Int) := by omega
        simp [F_law_gate, S_law_gate, e1, e2, hf1, hd1, q2, G.e, G.w, ei, gc_js s12]
      · obtain ⟨r4, h4, b4, b5, s4, e4⟩ := sip_s s12.jar 15 s
        push_cast at e4
        have js := s12.trans s4
        have b6 := b5 hs
        refine ⟨⟨f, [r4], d⟩, h4, ⟨by simp; omega, by simp, by simp, hd⟩, js, ?_⟩
        simp [F_law_gate, S_law_gate, e1, e2, hf1, hd1, q2, G.e, G.w, e4, gc_js js]
    · obtain ⟨r3, h3, _, b3, s3, e3⟩ := sip_s s12.jar 17 4
      push_cast at e3
      have b3 := b3 (by omega)
      have room : ∃ rm : Nat, 1 ≤ rm ∧ rm ≤ s + c ∧ (if form = 2 then (s : Int) + at_ else (s : Int) + c) = rm := by
        by_cases q : form = 2
        · exact ⟨s + at_, by omega, by omega, by rw [if_pos q]; omega⟩
        · exact ⟨s + c, by omega, by omega, by rw [if_neg q]; omega⟩
      obtain ⟨rm, rm1, rm2, rm3⟩ := room
      have js := s12.trans s3
      have rg : (-4611686018427387904 : Int) ≤ 1 + r3 ∧ (1 : Int) + r3 < 4611686018427387904 := by omega
      have tn : ((1 : Int) + r3).toNat = 1 + r3 := by omega
      have dr := fun (e : Lc) (h0 : e[0]? = some (some (.ref n))) (h9 : e[9]? = some (some (.int (rm : Nat)))) => draws_s (n := n) (m := m) (f := eB F_law_sip (aCons (eV 0) (aCons (eC (.int 16)) (aCons (eV 9) aNil)))) (e := e) (x := 11) (P := fun r => r < rm) (fun H i J2 => by
        obtain ⟨r, H', _, b, s, ev⟩ := sip_s J2 16 rm
        push_cast at ev
        refine ⟨r, H', b rm1, s, ?_⟩
        have g0 : (e.set 11 (some (.int i)))[0]? = some (some (.ref n)) := by rw [List.getElem?_set_ne (by decide)]; exact h0
        have g9 : (e.set 11 (some (.int i)))[9]? = some (some (.int (rm : Nat))) := by rw [List.getElem?_set_ne (by decide)]; exact h9
        simp [g0, g9, ev]) s3 js.jar (1 + r3) (by omega)
      obtain ⟨l, h4, l1, l2, l3, l4⟩ := dr [some (.ref n), some (.int s), some (.int c), some (.int at_), some (.int form), some (.str (if f = true then "first" else "last")), some (.int d), none, none, some (.int (rm : Nat)), none, none] rfl rfl
      refine ⟨⟨f, l, d⟩, h4, ⟨fun o ho => ?_, by dsimp only; omega, by dsimp only; omega, hd⟩, js.trans l3, ?_⟩
      · have := l2 o ho
        omega
      · have f0' : ¬ (form : Int) = 0 := by omega
        have f1' : ¬ (form : Int) = 1 := by omega
        by_cases q : form = 2
        · have f2 : (form : Int) = 2 := by omega
          rw [if_pos q] at rm3
          simp [F_law_gate, S_law_gate, e1, e2, hf1, hd1, f0, f1, q, f0', f1', f2, rm3, e3, rg, tn]
          rw [q] at l4
          try simp at l4
          rw [l4]
          simp [G.e, G.w, gc_js (js.trans l3)]
        · have f2 : ¬ (form : Int) = 2 := by omega
          rw [if_neg q] at rm3
          simp [F_law_gate, S_law_gate, e1, e2, hf1, hd1, f0, f1, q, f0', f1', f2, rm3, e3, rg, tn]
          try simp at l4
          rw [l4]
          simp [G.e, G.w, gc_js (js.trans l3)]
theorem network_s {n m : Nat} {h : IH} (J : Jar n m h) {most : Nat} (h1 : 1 ≤ most) (h2 : most ≤ 40) :
    ∃ (s : Nat) (gs : List G) (h' : IH), Ok s gs ∧ s ≤ 3 ∧ 1 ≤ gs.length ∧ JS n m h h' ∧ F_law_network [.ref n, .int most] h = .ok (netD s gs) h' := by
  obtain ⟨r1, h3, _, b1, s1, e1⟩ := sip_s J 18 3
  obtain ⟨r2, h4, _, b2, s2, e2⟩ := sip_s s1.jar 19 most
  obtain ⟨r3, h5, _, b3, s3, e3⟩ := sip_s (s1.trans s2).jar 20 6
  have b1 := b1 (by omega)
  have b2 := b2 h1
  have b3 := b3 (by omega)
  push_cast at e1 e2 e3
  have s123 := (s1.trans s2).trans s3
  have ec : (1 : Int) + r2 = ((1 + r2 : Nat) : Int) := by omega
  have es : (1 : Int) + r1 = ((1 + r1 : Nat) : Int) := by omega
  have sm := small (show 1 + r2 ≤ 4000 by omega)
  simp only [← ec] at sm
  have tn : ((1 : Int) + r2).toNat = 1 + r2 := by omega
  refine Exists.intro (1 + r1) ?_
  have key : ∃ (gs : List G) (h' : IH), gs.length = 1 + r2 ∧ (∀ g ∈ gs, GOk (1 + r1) (1 + r2) g) ∧ JS n m h h' ∧ F_law_network [.ref n, .int most] h = .ok (netD (1 + r1) gs) h' := by
    simp [F_law_network, S_law_network, e1, e2, e3, sm, tn]
    refine for_rg (fun i e H => ∃ (gl : List G) (hj : IH) (a6 : Option D), e = [some (.ref n), some (.int most), some (.int (1 + (r1 : Int))), some (.int (1 + (r2 : Int))), some (.int r3), some (.ref h5.length), a6] ∧ gl.length = i ∧ (∀ g ∈ gl, GOk (1 + r1) (1 + r2) g) ∧ JS n m h hj ∧ H = hj ++ [.lst (gl.map G.e)])
      (fun r => ∃ (gs : List G), gs.length = 1 + r2 ∧ (∀ g ∈ gs, GOk (1 + r1) (1 + r2) g) ∧ ∃ h', JS n m h h' ∧ gc h (endS (r.sq _)) = .ok (netD (1 + r1) gs) h') ?_ ?_ ?_
    · rintro i e H hi ⟨gl, hj, a6, rfl, hl, hg, js, rfl⟩
      refine ⟨trivial, _, rfl, .inl ?_⟩
      obtain ⟨r4, h6, _, b4, s4, e4⟩ := sip_s (js.jar.app (g := [.lst (gl.map G.e)])) 21 5
      push_cast at e4
      have fm : ∃ form : Nat, form < 6 ∧ (if 0 < r4 then D.int r3 else .int 3) = .int form := by
        by_cases q : 0 < r4
        · exact ⟨r3, b3, by rw [if_pos q]⟩
        · exact ⟨3, by omega, by rw [if_neg q]; rfl⟩
      obtain ⟨form, f1, f2⟩ := fm
      obtain ⟨g, h7, g1, g2, g3⟩ := gate_s s4.jar (s := 1 + r1) (c := 1 + r2) (at_ := i) (form := form) (by omega) (by omega) hi (by omega) f1
      obtain ⟨h8, e8, js8⟩ := JS.app js.jar (s4.trans g2)
      subst e8
      have lj : hj.length = h5.length := by rw [js.len, ← s123.len]
      have l8 : h8.length = h5.length := by rw [js8.len, lj]
      have at1 : (hj ++ [HB.lst (gl.map G.e)])[h5.length]? = some (.lst (gl.map G.e)) := by rw [← lj]; simp
      have at2 : (h8 ++ [HB.lst (gl.map G.e)])[h5.length]? = some (.lst (gl.map G.e)) := by rw [← l8]; simp
      have ap := mAppend_s (d := g.e) at2 (by simp; omega)
      have st : (h8 ++ [HB.lst (gl.map G.e)]).set h5.length (.lst (gl.map G.e ++ [g.e])) = h8 ++ [.lst ((gl ++ [g]).map G.e)] := by rw [← l8]; simp
      rw [st] at ap
      push_cast at g3
      generalize hb : sEx _ _ _ = r
      have iff1 : ∀ H : IH, (if 0 < r4 then R.ok (D.int (r3 : Int)) H else R.ok (D.int 3) H) = R.ok (.int form) H := fun H => by rw [← f2]; split <;> rfl
      simp [at1, e4, iff1, g3, ap] at hb
      subst hb
      refine ⟨_, _, .inl rfl, gl ++ [g], h8, _, rfl, by simp [hl], fun x hx => ?_, js.trans js8, by simp⟩
      rcases List.mem_append.mp hx with z | z
      · exact hg x z
      · simp at z; subst z; exact g1
    · rintro e H ⟨gl, hj, a6, rfl, hl, hg, js, rfl⟩
      refine ⟨trivial, gl, hl, hg, hj, js, ?_⟩
      have lj : hj.length = h5.length := by rw [js.len, ← s123.len]
      have at1 : (hj ++ [HB.lst (gl.map G.e)])[h5.length]? = some (.lst (gl.map G.e)) := by rw [← lj]; simp
      simp [at1]
      have z := gc_jsg (g := [.lst (gl.map G.e)]) (d := netD (1 + r1) gl) js (by simp [cl_gs])
      simpa [netD, gsD] using z
    · exact ⟨[], h5, none, rfl, rfl, by simp, s123, by simp⟩
  obtain ⟨gs, h', k1, k2, k3, k4⟩ := key
  refine ⟨gs, h', ⟨by omega, by omega, fun g hg => by rw [k1]; exact (k2 g hg).op, fun g hg => (k2 g hg).many, by omega, fun g hg => (k2 g hg).ne, fun g hg => (k2 g hg).dl⟩, by omega, by omega, k3, k4⟩
theorem time_at {r : Nat} (h : r < 6) : ∃ o : Option Nat, ([D.non, D.int 0, D.int 1, D.int 5, D.int 40, D.int 99999] : List D)[r]? = some (oD o) := by
  have : r = 0 ∨ r = 1 ∨ r = 2 ∨ r = 3 ∨ r = 4 ∨ r = 5 := by omega
  rcases this with rfl | rfl | rfl | rfl | rfl | rfl
  · exact ⟨none, rfl⟩
  · exact ⟨some 0, rfl⟩
  · exact ⟨some 1, rfl⟩
  · exact ⟨some 5, rfl⟩
  · exact ⟨some 40, rfl⟩
  · exact ⟨some 99999, rfl⟩
theorem times_s {n m : Nat} {h : IH} (J : Jar n m h) {s : Nat} (hs : s ≤ 6) : ∃ (ts : List (Option Nat)) (h' : IH), ts.length = s ∧ JS n m h h' ∧ F_law_times [.ref n, .int s] h = .ok (.tup (ts.map oD)) h' := by
  have sm := small (show s ≤ 4000 by omega)
  obtain ⟨l, h', l1, _, l3, l4⟩ := draws_e oD (fun a k => cl_oD) (n := n) (m := m) (f := eOp fIy (eTup (aCons (eC .non) (aCons (eC (.int 0)) (aCons (eC (.int 1)) (aCons (eC (.int 5)) (aCons (eC (.int 40)) (aCons (eC (.int 99999)) aNil))))))) (eB F_law_sip (aCons (eV 0) (aCons (eC (.int 22)) (aCons (eC (.int 6)) aNil)))))
    (e := [some (.ref n), some (.int s), none]) (x := 2) (P := fun _ => True) (fun H i J2 => by
      obtain ⟨r, H', _, b, s, ev⟩ := sip_s J2 22 6
      push_cast at ev
      obtain ⟨o, ho⟩ := time_at (b (by omega))
      exact ⟨o, H', trivial, s, by simp [ev, ho]⟩) (JS.refl J) J s (by omega)
  refine ⟨l, h', l1, l3, ?_⟩
  simp [F_law_times, S_law_times, sm]
  rw [l4]
  simp [gc_js l3]
end K89
namespace K89
open PySem L2 Fl
theorem shl_b : ∃ B : Int, 0 < B ∧ ∀ H : IH, fShl (.int 1) (.int 1800) H = .ok (.int B) H :=
  ⟨1 * 2 ^ (1800 : Int).toNat, Int.mul_pos (by decide) (Int.pow_pos (by decide)), fun H => by
    dsimp only [fShl]
    rw [if_pos ⟨by decide, by decide, by decide⟩]⟩
theorem gc_new {h H : IH} {n : Nat} (hn : h.length ≤ n) : gc h (.ok (.ref n) H) = .ok (.ref n) H := by
  dsimp only [gc]
  rw [if_neg]
  rintro ⟨z, _⟩
  rw [clD_ref] at z
  have := of_decide_eq_true z
  omega
theorem take_len_le {α : Type} (l : List α) (n : Nat) : (l.take n).length ≤ n := by rw [List.length_take]; omega
theorem cut_to' {α : Type} {l : List α} {n : Nat} : cutD l none (some (n : Nat)) = l.take n := by
  have e : HT.sIx l.length l.length (some (n : Nat)) = min n l.length := HT.sIx_nat ..
  unfold cutD
  rw [e, HT.sIx_none, List.drop_zero, Nat.sub_zero]
  by_cases q : n ≤ l.length
  · rw [Nat.min_eq_left q]
  · rw [Nat.min_eq_right (by omega), List.take_length, List.take_of_length_le (by omega)]
theorem jar_s {ns : List Int} (hz : ns.length ≤ 63) {h : IH} : ∃ (h' : IH), Keep h h' ∧ Jar (h.length + 1) h.length h' ∧ F_law_jar [.fls (ns.map D.int)] h = .ok (.ref (h.length + 1)) h' := by
  obtain ⟨B, hB, eB⟩ := shl_b
  have cu := cut_to' (l := ns.map D.int) (n := 50)
  push_cast at cu
  have tl := take_len_le ns 50
  rw [← List.map_take] at cu
  generalize ns.take 50 = xs at cu tl
  have cl : ∀ k, clDs k (xs.map D.int) = true := fun k => clDs_map fun _ _ => by simp
  simp [F_law_jar, S_law_jar, cu, fz_two, fz_lst, cl]
  have fz2 : fz (h ++ [HB.lst []]) (.ok (.ref (h.length + 1)) (h ++ [HB.lst [], HB.lst (xs.map D.int)])) = .ok (.fls (xs.map D.int)) (h ++ [HB.lst []]) := by
    have z := fz_lst (h := h ++ [HB.lst []]) (cl (h ++ [HB.lst []]).length)
    simpa using z
  rw [fz2]
  simp
  refine for_map xs D.int (fun i e H => ∃ (F : List Int) (brew : Int) (a3 a4 a5 : Option D), F.length ≤ i * 200 ∧ H = h ++ [.lst (F.map D.int)] ∧ e = [some (.fls (ns.map D.int)), some (.ref h.length), some (.int brew), a3, a4, a5])
    (fun r => ∃ (h' : IH), Keep h h' ∧ Jar (h.length + 1) h.length h' ∧ gc h (endS (r.sq _)) = .ok (.ref (h.length + 1)) h') ?_ ?_ ?_
  · rintro i c e H hc ⟨F, brew, a3, a4, a5, hF, rfl, rfl⟩
    refine ⟨trivial, _, rfl, .inl ?_⟩
    have hi := (List.getElem?_eq_some_iff.mp hc).1
    have mo1 : Fl.MulOk brew 62089 := .inr (by decide)
    have mo2 : ∀ z : Int, Fl.MulOk z 3 := fun z => .inr (by decide)
    generalize hb : sSeq _ _ _ _ = r
    simp [eB, hB, mo1, mo2] at hb
    generalize (if c < 0 then -c else c) % B = size at hb
    generalize (brew * 62089 + size % 998917 * 3 + 43) % 2147480183 = brew' at hb
    have inner : ∃ (F' : List Int) (a4' a5' : Option D), F'.length ≤ (i + 1) * 200 ∧
        forGo (fun _ => True) (.n 5) (sSeq (sIf (tB (eOp (fEq false) (eV 4) (eC (.int 0)))) sBk sNx) (sSeq (sEx (eMt isLst mAppend (eV 1) (aCons (eOp fMod (Fl.eB bInt (aCons (eV 4) aNil)) (eC (.int 1361))) aNil))) (sAs (.n 4) (eOp fDiv (eV 4) (eC (.int 1361)))))) (rgD 0 200)
          [some (.fls (ns.map D.int)), some (.ref h.length), some (.int brew'), some (.int c), some (.int size), a5] (h ++ [.lst (F.map D.int)]) =
        .nx [some (.fls (ns.map D.int)), some (.ref h.length), some (.int brew'), some (.int c), a4', a5'] (h ++ [.lst (F'.map D.int)]) := by
      refine for_rg (fun j e H => ∃ (F' : List Int) (s2 : Int) (a5' : Option D), F'.length ≤ i * 200 + j ∧ H = h ++ [.lst (F'.map D.int)] ∧ e = [some (.fls (ns.map D.int)), some (.ref h.length), some (.int brew'), some (.int c), some (.int s2), a5'])
        (fun r => ∃ (F' : List Int) (a4' a5' : Option D), F'.length ≤ (i + 1) * 200 ∧ r = .nx [some (.fls (ns.map D.int)), some (.ref h.length), some (.int brew'), some (.int c), a4', a5'] (h ++ [.lst (F'.map D.int)])) ?_ ?_ ?_
      · rintro j e H hj ⟨F', s2, a5', hF', rfl, rfl⟩
        refine ⟨trivial, _, rfl, ?_⟩
        have ap := mAppend_s (n := h.length) (h := h ++ [.lst (F'.map D.int)]) (L := F'.map D.int) (d := .int (s2 % 1361)) (by simp) (by simp; omega)
        have st : (h ++ [HB.lst (F'.map D.int)]).set h.length (.lst (F'.map D.int ++ [.int (s2 % 1361)])) = h ++ [.lst ((F' ++ [s2 % 1361]).map D.int)] := by simp
        rw [st] at ap
        generalize hb : sSeq _ _ _ _ = r
        by_cases q : s2 = 0
        · subst q
          simp at hb
          subst hb
          exact .inr (.inl ⟨_, _, rfl, F', _, _, by omega, rfl⟩)
        · simp [q, ap] at hb
          subst hb
          exact .inl ⟨_, _, .inl rfl, F' ++ [s2 % 1361], s2 / 1361, _, by simp; omega, by simp, rfl⟩
      · rintro e H ⟨F', s2, a5', hF', rfl, rfl⟩
        exact ⟨trivial, F', _, _, by omega, rfl⟩
      · exact ⟨F, size, a5, by omega, rfl, rfl⟩
    obtain ⟨F', a4', a5', hF', run⟩ := inner
    rw [run] at hb
    subst hb
    exact ⟨_, _, .inl rfl, F', brew', _, _, _, hF', rfl, rfl⟩
  · rintro e H ⟨F, brew, a3, a4, a5, hF, rfl, rfl⟩
    refine ⟨trivial, h ++ [.lst (F.map D.int), .lst [.int brew, .ref h.length, .int 0, .int (brew / 29 % 9)]], ⟨_, rfl⟩, ⟨by omega, ⟨brew, 0, (brew / 29 % 9).toNat, ?_⟩, ⟨F, by simp⟩⟩, ?_⟩
    · have : ((brew / 29 % 9).toNat : Int) = brew / 29 % 9 := by omega
      rw [this]
      simp
    · simp
      exact gc_new (by omega)
  · exact ⟨[], 890027, none, none, none, by simp, by simp, rfl⟩
end K89
namespace K89
open PySem L2 Fl
/-! ### texts -/
def jL (c : Nat) : List (List Nat) → List Nat
  | [] => []
  | [x] => x
  | x :: r => x ++ c :: jL c r
theorem cut_uniq {c : Nat} : ∀ {x y A B : List Nat}, c ∉ x → c ∉ y → x ++ c :: A = y ++ c :: B → x = y ∧ A = B
  | [], [], _, _, _, _, h => ⟨rfl, (List.cons.inj h).2⟩
  | [], b :: y, _, _, _, hy, h => by
    obtain ⟨e, _⟩ := List.cons.inj h
    exact absurd (e ▸ List.mem_cons_self ..) hy
  | a :: x, [], _, _, hx, _, h => by
    obtain ⟨e, _⟩ := List.cons.inj h
    exact absurd (e ▸ List.mem_cons_self ..) hx
  | a :: x, b :: y, _, _, hx, hy, h => by
    obtain ⟨e, h⟩ := List.cons.inj h
    obtain ⟨h1, h2⟩ := cut_uniq (fun z => hx (List.mem_cons_of_mem _ z)) (fun z => hy (List.mem_cons_of_mem _ z)) h
    exact ⟨by rw [e, h1], h2⟩
theorem jL_uniq {c : Nat} : ∀ {p q : List (List Nat)}, p ≠ [] → q ≠ [] → (∀ x ∈ p, c ∉ x) → (∀ x ∈ q, c ∉ x) → jL c p = jL c q → p = q
  | [], _, h, _, _, _, _ => absurd rfl h
  | _ :: _, [], _, h, _, _, _ => absurd rfl h
  | [x], [y], _, _, _, _, h => by
    have e : x = y := h
    rw [e]
  | [x], y :: y2 :: r, _, _, hp, _, h => by
    have e : x = y ++ c :: jL c (y2 :: r) := h
    exact absurd (by rw [e]; simp) (hp x (.head _))
  | x :: x2 :: r, [y], _, _, _, hq, h => by
    have e : x ++ c :: jL c (x2 :: r) = y := h
    exact absurd (by rw [← e]; simp) (hq y (.head _))
  | x :: x2 :: r, y :: y2 :: s, _, _, hp, hq, h => by
    have e : x ++ c :: jL c (x2 :: r) = y ++ c :: jL c (y2 :: s) := h
    obtain ⟨e1, e2⟩ := cut_uniq (hp x (.head _)) (hq y (.head _)) e
    rw [e1, jL_uniq (by simp) (by simp) (fun z hz => hp z (.tail _ hz)) (fun z hz => hq z (.tail _ hz)) e2]
theorem join_L (c : Nat) : ∀ ps : List Str, (Str.join ⟨#[c]⟩ ps).cps.toList = jL c (ps.map fun s => s.cps.toList)
  | [] => rfl
  | [x] => rfl
  | x :: y :: r => by
    have ih := join_L c (y :: r)
    show (x ++ ⟨#[c]⟩ ++ Str.join ⟨#[c]⟩ (y :: r)).cps.toList = _
    simp only [Str.cps_append, Array.toList_append]
    rw [ih]
    show _ = x.cps.toList ++ c :: jL c ((y :: r).map fun s => s.cps.toList)
    simp
theorem str_inj {a b : Str} (h : a.cps.toList = b.cps.toList) : a = b := Str.ext' (Array.toList_inj.mp h)
theorem map_inj : ∀ {a b : List Str}, (a.map fun s => s.cps.toList) = (b.map fun s => s.cps.toList) → a = b
  | [], [], _ => rfl
  | [], _ :: _, h => by cases h
  | _ :: _, [], h => by cases h
  | x :: a, y :: b, h => by
    obtain ⟨h1, h2⟩ := List.cons.inj h
    rw [str_inj h1, map_inj h2]
/-- parts that lack the sign come back -/
theorem split_join {c : Nat} {ps : List Str} (ne : ps ≠ []) (fr : ∀ x ∈ ps, c ∉ x.cps.toList) : Txt.split (Str.join ⟨#[c]⟩ ps) ⟨#[c]⟩ = ps := by
  have e := StrLaws.join_split (Str.join ⟨#[c]⟩ ps) ⟨#[c]⟩
  have e2 := congrArg (fun s : Str => s.cps.toList) e
  simp only [join_L] at e2
  have ne2 : Txt.split (Str.join ⟨#[c]⟩ ps) ⟨#[c]⟩ ≠ [] := fun z => by
    have := PyProof.Rows.split_pos (Str.join ⟨#[c]⟩ ps) ⟨#[c]⟩
    rw [z] at this
    simp at this
  have fr2 := StrLaws.split_free (Str.join ⟨#[c]⟩ ps) c
  refine map_inj (jL_uniq (c := c) (by simpa using ne2) (by simpa using ne) (fun x hx => ?_) (fun x hx => ?_) e2)
  · obtain ⟨s, hs, rfl⟩ := List.mem_map.mp hx
    exact fr2 s hs
  · obtain ⟨s, hs, rfl⟩ := List.mem_map.mp hx
    exact fr s hs
theorem tjoin (sep : Str) (ps : List Str) : Txt.join sep ps = Str.join sep ps := StrLaws.glued_eq_join sep ps
/-! numbers as texts -/
theorem num_ok {n : Nat} (h : n ≤ 2000) : numOk n = true := List.all_eq_true.mp nums_ok n (List.mem_range.mpr (by omega))
theorem fig_cps : ("0123456789" : Str).cps.toList = [48, 49, 50, 51, 52, 53, 54, 55, 56, 57] := by decide +kernel
structure NumT (n : Nat) : Prop where
  len : 1 ≤ (strN n).length ∧ (strN n).length ≤ 4
  fig : ∀ c ∈ (strN n).cps.toList, c ∈ ("0123456789" : Str).cps.toList
  lead : (strN n).length = 1 ∨ (strN n).cps.toList[0]? ≠ some 48
  int : PySem.intText? (strN n) = some (n : Int)
theorem num_t {n : Nat} (h : n ≤ 2000) : NumT n := by
  have z := num_ok h
  unfold numOk at z
  simp only [Bool.and_eq_true, decide_eq_true_eq, List.all_eq_true] at z
  exact ⟨z.1.1.1, z.1.1.2, z.1.2, z.2⟩
theorem len_cps (s : Str) : s.cps.toList.length = s.length := by simp [Str.length]
theorem NumT.free {n c : Nat} (t : NumT n) (h : c < 48) : c ∉ (strN n).cps.toList := fun z => by
  have := t.fig c z
  rw [fig_cps] at this
  simp at this
  omega
theorem only_signs_s {n : Nat} (t : NumT n) {h : IH} : Fonly_signs [.str (strN n), .str "0123456789"] h = .ok (.bl true) h := by
  simp [Fonly_signs, Sonly_signs]
  have e : chD (strN n) = (strN n).cps.toList.map fun c => .str ⟨#[c]⟩ := rfl
  rw [e]
  refine for_map (strN n).cps.toList (fun c => .str ⟨#[c]⟩) (fun i e H => H = h ∧ ∃ a, e = [some (.str (strN n)), some (.str "0123456789"), a]) (fun r => gc h (endS (r.sq _)) = _) ?_ ?_ ?_
  · rintro i c e H hc ⟨rfl, a, rfl⟩
    refine ⟨trivial, _, rfl, .inl ⟨[some (.str (strN n)), some (.str "0123456789"), some (.str ⟨#[c]⟩)], H, .inl ?_, rfl, _, rfl⟩⟩
    have m := t.fig c (List.mem_of_getElem? hc)
    have fi : fIn true (.str ⟨#[c]⟩) (.str "0123456789") H = .ok (.bl false) H := by
      dsimp only [fIn]
      rw [decide_eq_true m]
      rfl
    simp [fi]
  · rintro e H ⟨rfl, a, rfl⟩
    exact ⟨trivial, by simp⟩
  · exact ⟨rfl, _, rfl⟩
theorem written_s {n : Nat} (hn : n ≤ 2000) {h : IH} : Fwritten_number [.str (strN n)] h = .ok (.int n) h := by
  have t := num_t hn
  have l1 := t.len
  have q1 : (1 : Int) ≤ (strN n).length ∧ ((strN n).length : Int) ≤ 9 := by omega
  have q2 : (strN n).length ≤ 16777216 := by omega
  have q3 : (strN n).length ≤ 640 := by omega
  have os := only_signs_s t (h := h)
  have bi : bInt [.str (strN n)] h = .ok (.int n) h := by
    dsimp only [bInt]
    rw [t.int]
    dsimp only
    rw [if_pos q3]
  by_cases q4 : (strN n).length = 1
  · simp [Fwritten_number, Swritten_number, q1, q2, os, tru, q4, bi]
  · have q5 : 1 < (strN n).length := by omega
    have c0 : (strN n).cps.toList[0]? = some ((strN n).cps.toList[0]'(by rw [len_cps]; omega)) := List.getElem?_eq_getElem _
    generalize (strN n).cps.toList[0]'(by rw [len_cps]; omega) = c at c0
    have cn : c ≠ 48 := fun z => by
      rcases t.lead with y | y
      · exact q4 y
      · rw [z] at c0; exact y c0
    have ix : fIy (.str (strN n)) (.int 0) h = .ok (.str ⟨#[c]⟩) h := by
      show fIx (.str (strN n)) (.int 0) h = _
      dsimp only [fIx]
      rw [if_pos (by rw [sizeLine_eq]; exact q2), atI_0, c0]
    have ne : ¬ ((⟨#[c]⟩ : Str) = "0") := fun z => by
      have z0 : ("0" : Str).cps.toList = [48] := by decide +kernel
      have := congrArg (fun s : Str => s.cps.toList) z
      simp only [z0] at this
      exact cn (by simpa using this)
    simp [Fwritten_number, Swritten_number, q1, q2, os, tru, q5, bi, ix, ne]
theorem numbers_of_s {ns : List Nat} (hn : ∀ n ∈ ns, n ≤ 2000) (hz : ns.length ≤ 1000) {d : D} {h : IH} : Fnumbers_of [d, .fls (ns.map fun n => .str (strN n))] h = .ok (.tup (nDs ns)) h := by
  simp [Fnumbers_of, Snumbers_of]
  refine for_map ns (fun n => .str (strN n)) (fun i e H => ∃ a, e = [some d, some (.fls (ns.map fun n => .str (strN n))), some (.ref h.length), a] ∧ H = h ++ [.lst (nDs (ns.take i))]) (fun r => gc h (endS (r.sq _)) = _) ?_ ?_ ?_
  · rintro i n e H hi ⟨a, rfl, rfl⟩
    refine ⟨trivial, _, rfl, .inl ?_⟩
    have m := List.mem_of_getElem? hi
    have il := (List.getElem?_eq_some_iff.mp hi).1
    have w := written_s (hn n m) (h := h ++ [.lst (nDs (ns.take i))])
    have ap := mAppend_s (n := h.length) (h := h ++ [.lst (nDs (ns.take i))]) (L := nDs (ns.take i)) (d := .int n) (by simp) (by simp; omega)
    have tk : ns.take (i + 1) = ns.take i ++ [n] := by
      rw [List.take_succ_eq_append_getElem il]
      congr 2
      exact (List.getElem?_eq_some_iff.mp hi).2
    generalize hb : sSeq _ _ _ _ = r
    simp at w ap
    simp [w, isN, ap] at hb
    subst hb
    exact ⟨_, _, .inl rfl, _, rfl, by rw [tk]; simp⟩
  · rintro e H ⟨a, rfl, rfl⟩
    refine ⟨trivial, ?_⟩
    simp
    exact gc_app (by simp)
  · exact ⟨_, rfl, by simp⟩
end K89
namespace K89
open PySem L2 Fl
def lineW (g : G) : List Str := g.w :: strN g.d :: g.o.map strN
def lineS (g : G) : Str := Txt.join " " (lineW g)
def headS (m : Nat) : Str := "signals " ++ strN m
def netT (m : Nat) (gs : List G) : Str := Txt.join "\n" (headS m :: gs.map lineS)
theorem sum_le {α : Type} {f : α → Nat} {b : Nat} : ∀ {l : List α}, (∀ x ∈ l, f x ≤ b) → (l.map f).sum ≤ b * l.length
  | [], _ => by simp
  | x :: l, h => by
    have := h x (.head _)
    have := sum_le (l := l) fun y hy => h y (.tail _ hy)
    rw [List.map_cons, List.sum_cons, List.length_cons, Nat.mul_succ]
    omega
theorem w_len (g : G) : g.w.length ≤ 5 := by
  have h1 : ("first" : Str).length = 5 := by decide +kernel
  have h2 : ("last" : Str).length = 4 := by decide +kernel
  unfold G.w
  cases g.f
  · simp [h2]
  · simp [h1]
structure GT (g : G) : Prop where
  d : g.d ≤ 2000
  o : ∀ k ∈ g.o, k ≤ 2000
  n : g.o.length ≤ 60
theorem Ok.gt {m : Nat} {gs : List G} (ok : Ok m gs) {g : G} (hg : g ∈ gs) : GT g := ⟨ok.dl g hg, fun k hk => by have := ok.op g hg k hk; have := ok.hn; have := ok.hm; omega, ok.many g hg⟩
theorem lineW_len {g : G} (t : GT g) : ∀ x ∈ lineW g, x.length ≤ 5 := fun x hx => by
  unfold lineW at hx
  rcases List.mem_cons.mp hx with rfl | hx
  · exact w_len g
  · rcases List.mem_cons.mp hx with rfl | hx
    · have := (num_t t.d).len; omega
    · obtain ⟨k, hk, rfl⟩ := List.mem_map.mp hx
      have := (num_t (t.o k hk)).len; omega
theorem lineW_n (g : G) : (lineW g).length = 2 + g.o.length := by simp [lineW]; omega
theorem sp1 : (" " : Str) = ⟨#[32]⟩ := by decide +kernel
theorem nl1 : ("\n" : Str) = ⟨#[10]⟩ := by decide +kernel
theorem len1 : (" " : Str).length = 1 ∧ ("\n" : Str).length = 1 ∧ ("signals " : Str).length = 8 := by decide +kernel
theorem lineS_len {g : G} (t : GT g) : (lineS g).length ≤ 400 := by
  have h1 := StrLaws.join_length_le " " (lineW g)
  have h2 := sum_le (f := Str.length) (lineW_len t)
  have h3 := lineW_n g
  have h4 := t.n
  have h5 := len1.1
  unfold lineS
  rw [tjoin]
  have e : (fun x : Str => x.length) = Str.length := rfl
  rw [h5, e] at h1
  rw [h3] at h1 h2
  omega
theorem gJoin_f {a : Str} {ys : List Str} {h : IH} (hz : (ys.map (·.length)).sum + ys.length * a.length ≤ 16777216) : gJoin (.str a) [.fls (ys.map D.str)] h = .ok (.str (Txt.join a ys)) h := by
  dsimp only [gJoin, lsV]
  rw [strsD_map]
  dsimp only
  rw [if_pos hz]
theorem gJoin_r {a : Str} {ys : List Str} {h : IH} {n : Nat} (e : h[n]? = some (.lst (ys.map D.str))) (hz : (ys.map (·.length)).sum + ys.length * a.length ≤ 16777216) : gJoin (.str a) [.ref n] h = .ok (.str (Txt.join a ys)) h := by
  dsimp only [gJoin]
  rw [lsV_ref e]
  dsimp only
  rw [strsD_map]
  dsimp only
  rw [if_pos hz]
theorem bStr_n {n : Nat} (hn : n ≤ 2000) {h : IH} : bStr [.int n] h = .ok (.str (strN n)) h := by
  have : n.log2 < 1920 := by
    by_cases q : n = 0
    · subst q; decide
    · exact Nat.lt_trans ((Nat.log2_lt q).mpr (show n < 2 ^ 11 by omega)) (by decide)
  simp [this]
  rfl
theorem line_ok {g : G} (t : GT g) {h : IH} : gJoin (.str " ") [.fls ((lineW g).map D.str)] h = .ok (.str (lineS g)) h := by
  refine gJoin_f ?_
  have h2 := sum_le (f := Str.length) (lineW_len t)
  have h3 := lineW_n g
  have h4 := t.n
  rw [len1.1]
  rw [h3] at h2 ⊢
  have e : (fun x : Str => x.length) = Str.length := rfl
  rw [e]
  omega
theorem head_len {m : Nat} (hm : m ≤ 6) : (headS m).length ≤ 12 := by
  have := (num_t (show m ≤ 2000 by omega)).len
  unfold headS
  rw [Str.length_append, len1.2.2]
  omega
theorem net_sum {m : Nat} {gs : List G} (ok : Ok m gs) : ((headS m :: gs.map lineS).map (·.length)).sum + (headS m :: gs.map lineS).length * ("\n" : Str).length ≤ 16777216 := by
  have h1 := head_len ok.hm
  have h2 : ((gs.map lineS).map (·.length)).sum ≤ 400 * (gs.map lineS).length := sum_le fun x hx => by
    obtain ⟨g, hg, rfl⟩ := List.mem_map.mp hx
    exact lineS_len (ok.gt hg)
  have h3 := ok.hn
  rw [List.length_map] at h2
  rw [List.map_cons, List.sum_cons, len1.2.1, List.length_cons, List.length_map]
  omega
theorem network_text_s {m : Nat} {gs : List G} (ok : Ok m gs) {h : IH} : Fnetwork_text [netD m gs] h = .ok (.str (netT m gs)) h := by
  have hm := ok.hm
  have hn := ok.hn
  have bs := bStr_n (n := m) (by omega) (h := h)
  have q1 : 8 + (strN m).length ≤ 16777216 := by have := (num_t (n := m) (by omega)).len; omega
  have l8 := len1.2.2
  simp only [Fnetwork_text, Snetwork_text, fnG_ap]
  simp [bs, l8, q1, -bStr_s]
  refine for_map gs G.e (fun i e H => ∃ a4 a5 a6, e = [some (netD m gs), some (.int m), some (gsD gs), some (.ref h.length), a4, a5, a6, none] ∧ H = h ++ [.lst ((headS m :: (gs.take i).map lineS).map D.str)]) (fun r => gc h (endS (r.sq _)) = _) ?_ ?_ ?_
  · rintro i g e H hi ⟨a4, a5, a6, rfl, rfl⟩
    refine ⟨trivial, _, rfl, .inl ?_⟩
    have mg := List.mem_of_getElem? hi
    have t := ok.gt mg
    have il := (List.getElem?_eq_some_iff.mp hi).1
    have tk : gs.take (i + 1) = gs.take i ++ [g] := by
      rw [List.take_succ_eq_append_getElem il]
      congr 2
      exact (List.getElem?_eq_some_iff.mp hi).2
    generalize hH : h ++ [HB.lst ((headS m :: (gs.take i).map lineS).map D.str)] = H
    have at1 : H[h.length]? = some (.lst ((headS m :: (gs.take i).map lineS).map D.str)) := by rw [← hH]; simp
    have ap := mAppend_s (d := .str (lineS g)) at1 (by simp; omega)
    have st : H.set h.length (.lst ((headS m :: (gs.take i).map lineS).map D.str ++ [.str (lineS g)])) = h ++ [.lst ((headS m :: (gs.take (i + 1)).map lineS).map D.str)] := by rw [← hH, tk]; simp
    rw [st] at ap
    have bd := bStr_n t.d (h := H)
    have lo := line_ok t (h := H)
    have q2 : 2 + g.o.length ≤ 16777216 := by have := t.n; omega
    have e1 : [D.str g.w, D.str (strN g.d)] ++ g.o.map (fun k => D.str (strN k)) = (lineW g).map D.str := by simp [lineW]
    generalize hb : sEx _ _ _ = r
    simp [at1, bd, -bStr_s, setAll, G.e, fz_lst] at hb
    rw [fz_map g.o (fun k : Nat => D.int k) (fun k => .str (strN k)) rfl rfl (fun _ => trivial) (by have := t.n; omega)] at hb
    · have cl : clDs H.length ((lineW g).map D.str) = true := clDs_map fun _ _ => by simp
      have q3 : g.o.length + 1 + 1 ≤ 16777216 := by omega
      simp at hb
      simp at e1
      rw [if_pos (by omega), e1, fz_lst cl] at hb
      simp at hb
      rw [lo] at hb
      simp at hb
      rw [ap] at hb
      simp at hb
      subst hb
      exact ⟨_, _, .inl rfl, _, _, _, rfl, by simp⟩
    · intro k hk
      refine ⟨_, rfl, fun acc H2 hH2 => ?_⟩
      simp [bStr_n (t.o k hk), -bStr_s]
    · exact clDs_map fun _ _ => by simp
  · rintro e H ⟨a4, a5, a6, rfl, rfl⟩
    refine ⟨trivial, ?_⟩
    have jr := gJoin_r (h := h ++ [.lst ((headS m :: (gs.take gs.length).map lineS).map D.str)]) (n := h.length) (ys := headS m :: gs.map lineS) (a := "\n") (by simp) (net_sum ok)
    simp at jr
    simp [jr]
    exact gc_app (by simp)
  · exact ⟨_, _, _, rfl, by simp [headS]⟩
/-! ### read -/
theorem empty_str : ("" : Str) = ⟨#[]⟩ := by decide +kernel
theorem lines_of_s {x : Str} {ps : List Str} (hx : Txt.split x "\n" = ps) (ne : x ≠ "") (hz : x.length ≤ 1000000) {h : IH} : Flines_of [.str x] h = .ok (.fls (ps.map D.str)) h := by
  have l1 := len1.2.1
  have cl : clDs h.length (ps.map D.str) = true := clDs_map fun _ _ => by simp
  have sp : mSplit (.str x) [.str "\n"] h = .ok (.ref h.length) (h ++ [.lst (ps.map D.str)]) := by
    dsimp only [mSplit]
    rw [if_pos ⟨by rw [l1]; rfl, by rw [sizeLine_eq]; omega⟩, hx]
  simp [Flines_of, Slines_of, ne, sp, fz_lst, cl]
theorem spaced_s {x : Str} {ps : List Str} (hx : Txt.split x " " = ps) (hz : x.length ≤ 1000000) (hp : ps.length ≤ 1000000) {h : IH} : Fspaced_words [.str x] h = .ok (.fls ((ps.filter fun w : Str => decide (w ≠ "")).map D.str)) h := by
  have l1 := len1.1
  have cl : clDs h.length (ps.map D.str) = true := clDs_map fun _ _ => by simp
  have sp : mSplit (.str x) [.str " "] h = .ok (.ref h.length) (h ++ [.lst (ps.map D.str)]) := by
    dsimp only [mSplit]
    rw [if_pos ⟨by rw [l1]; rfl, by rw [sizeLine_eq]; omega⟩, hx]
  have en : (ps.filter fun w : Str => decide (w ≠ "")).map D.str = ps.filterMap fun w : Str => if w ≠ "" then some (D.str w) else none := (fm_filter D.str ps).symm
  simp [Fspaced_words, Sspaced_words, sp, fz_lst, cl]
  rw [fz_filt ps D.str (fun w : Str => if w ≠ "" then some (D.str w) else none) rfl rfl (fun _ => trivial) (by omega), ← en]
  · simp
  · intro w hw
    refine ⟨_, rfl, fun acc H hH => ?_⟩
    by_cases q : w = ""
    · simp [q]
    · simp [q]
  · rw [← en]
    exact clDs_map fun _ _ => by simp
theorem gc_neww {h H : IH} {n : Nat} (hn : h.length ≤ n) : gc h (.ok (.ref n) H) = .ok (.ref n) H := by
  dsimp only [gc]
  rw [if_neg]
  rintro ⟨z, _⟩
  rw [clD_ref] at z
  have := of_decide_eq_true z
  omega
/-- the words of the lines, with the lines' numbers -/
def numW (ls : List (List Str)) (i : Nat) : List (Nat × List Str) := ((List.range i).filterMap fun a => if (ls.getD a []) = [] then none else some (a + 1, ls.getD a []))
def nwD (p : Nat × List Str) : D := .tup [.int p.1, .fls (p.2.map D.str)]
theorem numbered_s {x : Str} {ps : List Str} {ls : List (List Str)} {h : IH} (hl : ∀ h : IH, Flines_of [.str x] h = .ok (.fls (ps.map D.str)) h) (hz : ps.length ≤ 1000) (ll : ls.length = ps.length)
    (hs : ∀ (i : Nat) (p : Str) (w : List Str) (h : IH), ps[i]? = some p → ls[i]? = some w → Fspaced_words [.str p] h = .ok (.fls (w.map D.str)) h) :
    Fnumbered_words [.str x] h = .ok (.ref h.length) (h ++ [.lst ((numW ls ps.length).map nwD)]) := by
  have sm := small (show ps.length ≤ 4000 by omega)
  simp [Fnumbered_words, Snumbered_words, hl, sm]
  refine for_rg (fun i e H => ∃ a3 a4, e = [some (.str x), some (.fls (ps.map D.str)), some (.ref h.length), a3, a4] ∧ H = h ++ [.lst ((numW ls i).map nwD)]) (fun r => gc h (endS (r.sq _)) = _) ?_ ?_ ?_
  · rintro i e H hi ⟨a3, a4, rfl, rfl⟩
    refine ⟨trivial, _, rfl, .inl ?_⟩
    have hp : ps[i]? = some ps[i] := List.getElem?_eq_getElem hi
    have hw : ls[i]? = some (ls[i]'(by omega)) := List.getElem?_eq_getElem _
    have gd : ls.getD i [] = ls[i]'(by omega) := by simp [List.getD, hw]
    generalize ls[i]'(by omega) = w at hw gd
    have sp := hs i _ w (h ++ [.lst ((numW ls i).map nwD)]) hp hw
    have ns : numW ls (i + 1) = numW ls i ++ (if w = [] then [] else [(i + 1, w)]) := by
      unfold numW
      rw [List.range_succ, List.filterMap_append]
      by_cases q : w = []
      · simp [hw, q]
      · simp [hw, q]
    have nl : (numW ls i).length ≤ i := by
      have := List.length_filterMap_le (fun a => if (ls.getD a []) = [] then none else some (a + 1, ls.getD a [])) (List.range i)
      rw [List.length_range] at this
      exact this
    have ap := mAppend_s (n := h.length) (h := h ++ [.lst ((numW ls i).map nwD)]) (L := (numW ls i).map nwD) (d := .tup [.int ((i : Int) + 1), .fls (w.map D.str)]) (by simp) (by simp; omega)
    generalize hb : sSeq _ _ _ _ = r
    rw [ns]
    by_cases q : w = []
    · subst q
      simp [hp, sp] at hb
      subst hb
      exact ⟨_, _, .inl rfl, _, _, rfl, by simp⟩
    · have pos := List.length_pos_iff.mpr q
      simp at ap
      simp [hp, sp, pos, ap] at hb
      subst hb
      exact ⟨_, _, .inl rfl, _, _, rfl, by simp [q, nwD]⟩
  · rintro e H ⟨a3, a4, rfl, rfl⟩
    refine ⟨trivial, ?_⟩
    simp
    exact gc_neww (Nat.le_refl _)
  · exact ⟨_, _, rfl, by simp [numW]⟩
end K89
namespace K89
open PySem L2 Fl
theorem sig_cps : ("signals" : Str).cps.toList = [115, 105, 103, 110, 97, 108, 115] := by decide +kernel
theorem sigs_eq : ("signals " : Str) = "signals" ++ " " := by decide +kernel
theorem fst_cps : ("first" : Str).cps.toList = [102, 105, 114, 115, 116] ∧ ("last" : Str).cps.toList = [108, 97, 115, 116] := by decide +kernel
theorem w_free {g : G} {c : Nat} (h : c < 90) : c ∉ g.w.cps.toList := by
  unfold G.w
  cases g.f
  · rw [if_neg (by simp), fst_cps.2]; simp; omega
  · rw [if_pos rfl, fst_cps.1]; simp; omega
theorem lineW_free {g : G} (t : GT g) {c : Nat} (h : c < 48) : ∀ x ∈ lineW g, c ∉ x.cps.toList := fun x hx => by
  unfold lineW at hx
  rcases List.mem_cons.mp hx with rfl | hx
  · exact w_free (by omega)
  · rcases List.mem_cons.mp hx with rfl | hx
    · exact (num_t t.d).free h
    · obtain ⟨k, hk, rfl⟩ := List.mem_map.mp hx
      exact (num_t (t.o k hk)).free h
theorem jL_free {c d : Nat} (hcd : c ≠ d) : ∀ {p : List (List Nat)}, (∀ x ∈ p, c ∉ x) → c ∉ jL d p
  | [], _ => by simp [jL]
  | [x], h => h x (.head _)
  | x :: y :: r, h => by
    have ih := jL_free hcd (p := y :: r) fun z hz => h z (.tail _ hz)
    show c ∉ x ++ d :: jL d (y :: r)
    rw [List.mem_append, List.mem_cons]
    rintro (z | z | z)
    · exact h x (.head _) z
    · exact hcd z
    · exact ih z
theorem lineS_free {g : G} (t : GT g) : 10 ∉ (lineS g).cps.toList := by
  unfold lineS
  rw [tjoin, sp1, join_L]
  refine jL_free (by decide) fun x hx => ?_
  obtain ⟨s, hs, rfl⟩ := List.mem_map.mp hx
  exact lineW_free t (by decide) s hs
theorem lineS_split {g : G} (t : GT g) : Txt.split (lineS g) " " = lineW g := by
  unfold lineS
  rw [tjoin, sp1]
  exact split_join (by simp [lineW]) (lineW_free t (by decide))
/-- what may stand ahead -/
def PreOk (pre : Str) : Prop := pre = "" ∨ pre = " "
theorem emp_cps : ("" : Str).cps.toList = [] ∧ (" " : Str).cps.toList = [32] ∧ ("\n" : Str).cps.toList = [10] ∧ ("signals " : Str).cps.toList = [115, 105, 103, 110, 97, 108, 115, 32] := by decide +kernel
theorem head_free {pre : Str} (hp : PreOk pre) {m : Nat} (hm : m ≤ 6) : 10 ∉ (pre ++ headS m).cps.toList := by
  have f := (num_t (show m ≤ 2000 by omega)).free (c := 10) (by decide)
  unfold headS
  simp only [Str.cps_append, Array.toList_append, emp_cps.2.2.2]
  rcases hp with rfl | rfl
  · rw [emp_cps.1]; simpa using f
  · rw [emp_cps.2.1]; simpa using f
theorem head_split {pre : Str} (hp : PreOk pre) {m : Nat} (hm : m ≤ 6) : ∃ ps, Txt.split (pre ++ headS m) " " = ps ∧ ps.length ≤ 3 ∧ (ps.filter fun w : Str => decide (w ≠ "")) = [("signals" : Str), strN m] := by
  have t := num_t (show m ≤ 2000 by omega)
  have f := t.free (c := 32) (by decide)
  have ne : strN m ≠ "" := fun z => by
    have := t.len.1
    rw [z] at this
    revert this
    decide +kernel
  have s1 : 32 ∉ ("signals" : Str).cps.toList := by rw [sig_cps]; decide
  have ns : ¬ (("signals" : Str) = "") := by decide +kernel
  rcases hp with rfl | rfl
  · refine ⟨[("signals" : Str), strN m], ?_, by simp, by simp [ns, ne]⟩
    have e : ("" : Str) ++ headS m = Str.join ⟨#[32]⟩ [("signals" : Str), strN m] := by
      show ("" : Str) ++ headS m = "signals" ++ ⟨#[32]⟩ ++ strN m
      unfold headS
      rw [sigs_eq, ← sp1]
      refine str_inj ?_
      simp only [Str.cps_append, Array.toList_append, emp_cps.1, List.nil_append]
    rw [e, sp1]
    exact split_join (by simp) fun x hx => by
      simp at hx
      rcases hx with rfl | rfl
      · exact s1
      · exact f
  · refine ⟨[("" : Str), "signals", strN m], ?_, by simp, by simp [ns, ne]⟩
    have e : (" " : Str) ++ headS m = Str.join ⟨#[32]⟩ [("" : Str), "signals", strN m] := by
      show (" " : Str) ++ headS m = "" ++ ⟨#[32]⟩ ++ ("signals" ++ ⟨#[32]⟩ ++ strN m)
      unfold headS
      rw [sigs_eq, ← sp1]
      refine str_inj ?_
      simp only [Str.cps_append, Array.toList_append, emp_cps.1, List.nil_append, List.append_assoc]
    rw [e, sp1]
    exact split_join (by simp) fun x hx => by
      simp at hx
      rcases hx with rfl | rfl | rfl
      · rw [emp_cps.1]; simp
      · exact s1
      · exact f
theorem join_pre (c pre a : Str) (r : List Str) : pre ++ Str.join c (a :: r) = Str.join c ((pre ++ a) :: r) := by
  cases r with
  | nil => rfl
  | cons b r =>
    show pre ++ (a ++ c ++ Str.join c (b :: r)) = pre ++ a ++ c ++ Str.join c (b :: r)
    refine str_inj ?_
    simp only [Str.cps_append, Array.toList_append, List.append_assoc]
theorem join_end (c : Str) : ∀ (a : Str) (r : List Str), Str.join c (a :: r) ++ c = Str.join c ((a :: r) ++ [("" : Str)])
  | a, [] => by
    show a ++ c = a ++ c ++ ""
    refine str_inj ?_
    simp only [Str.cps_append, Array.toList_append, emp_cps.1, List.append_nil]
  | a, b :: r => by
    have ih := join_end c b r
    show a ++ c ++ Str.join c (b :: r) ++ c = a ++ c ++ Str.join c ((b :: r) ++ [("" : Str)])
    rw [← ih]
    refine str_inj ?_
    simp only [Str.cps_append, Array.toList_append, List.append_assoc]
theorem rep_0 : repS "\n" ((0 : Nat) : Int) = "" := by decide +kernel
theorem rep_1 : repS "\n" ((1 : Nat) : Int) = "\n" := by decide +kernel
theorem rep_2 : repS "\n" ((2 : Nat) : Int) = "\n" ++ "\n" := by decide +kernel
def linesL (pre : Str) (m : Nat) (gs : List G) (k : Nat) : List Str := ((pre ++ headS m) :: gs.map lineS) ++ List.replicate k ("" : Str)
theorem text_join (pre : Str) (m : Nat) (gs : List G) {k : Nat} (hk : k < 3) : pre ++ netT m gs ++ repS "\n" k = Str.join ⟨#[10]⟩ (linesL pre m gs k) := by
  unfold netT linesL
  rw [tjoin, join_pre, ← nl1]
  have z : ∀ x : Str, x ++ "" = x := fun x => str_inj (by simp only [Str.cps_append, Array.toList_append, emp_cps.1, List.append_nil])
  have : k = 0 ∨ k = 1 ∨ k = 2 := by omega
  rcases this with rfl | rfl | rfl
  · rw [rep_0, z]; simp
  · rw [rep_1]
    simp only [List.replicate]
    exact join_end _ _ _
  · have e1 := join_end "\n" (pre ++ headS m) (gs.map lineS)
    have e2 := join_end "\n" (pre ++ headS m) (gs.map lineS ++ [("" : Str)])
    rw [rep_2]
    show Str.join "\n" ((pre ++ headS m) :: gs.map lineS) ++ ("\n" ++ "\n") = Str.join "\n" (((pre ++ headS m) :: gs.map lineS) ++ [("" : Str), ""])
    rw [List.cons_append] at e1 e2
    rw [← e1] at e2
    have e3 : ((pre ++ headS m) :: gs.map lineS) ++ [("" : Str), ""] = (pre ++ headS m) :: (gs.map lineS ++ [("" : Str)] ++ [("" : Str)]) := by simp
    rw [e3, ← e2]
    refine str_inj ?_
    simp only [Str.cps_append, Array.toList_append, List.append_assoc]
def wordsL (m : Nat) (gs : List G) (k : Nat) : List (List Str) := ([("signals" : Str), strN m] :: gs.map lineW) ++ List.replicate k []
theorem numW_snd (ls : List (List Str)) : (numW ls ls.length).map (·.2) = ls.filter fun w => decide (w ≠ []) := by
  have e : ls = (List.range ls.length).map fun a => ls.getD a [] := by
    refine List.ext_getElem (by simp) fun i h1 h2 => ?_
    simp [List.getD, h1]
  unfold numW
  rw [List.map_filterMap]
  conv => rhs; rw [e]
  rw [List.filter_map]
  have z : ∀ l : List Nat, l.filterMap (fun a => ((if ls.getD a [] = [] then none else some (a + 1, ls.getD a []) : Option (Nat × List Str))).map fun x => x.2) = (l.filter ((fun w => decide (w ≠ [])) ∘ fun a => ls.getD a [])).map fun a => ls.getD a [] := by
    intro l
    induction l with
    | nil => rfl
    | cons a l ih =>
      by_cases q : ls.getD a [] = []
      · have e1 : ((fun w : List Str => decide (w ≠ [])) ∘ fun a => ls.getD a []) a = false := decide_eq_false fun y => y q
        have e2 : ((if ls.getD a [] = [] then none else some (a + 1, ls.getD a []) : Option (Nat × List Str))) = none := if_pos q
        rw [List.filterMap_cons, List.filter_cons, ih, e1, e2]
        rfl
      · have e1 : ((fun w : List Str => decide (w ≠ [])) ∘ fun a => ls.getD a []) a = true := decide_eq_true q
        have e2 : ((if ls.getD a [] = [] then none else some (a + 1, ls.getD a []) : Option (Nat × List Str))) = some (a + 1, ls.getD a []) := if_neg q
        rw [List.filterMap_cons, List.filter_cons, ih, e1, e2]
        rfl
  exact z _
theorem filter_words (m : Nat) (gs : List G) (k : Nat) : (wordsL m gs k).filter (fun w => decide (w ≠ [])) = [("signals" : Str), strN m] :: gs.map lineW := by
  unfold wordsL
  rw [List.filter_append]
  have h1 : (List.replicate k ([] : List Str)).filter (fun w => decide (w ≠ [])) = [] := by
    rw [List.filter_eq_nil_iff]
    intro a ha
    rw [List.eq_of_mem_replicate ha]
    simp
  have h2 : ([("signals" : Str), strN m] :: gs.map lineW).filter (fun w => decide (w ≠ [])) = [("signals" : Str), strN m] :: gs.map lineW := by
    refine List.filter_eq_self.mpr fun a ha => ?_
    rcases List.mem_cons.mp ha with rfl | ha
    · simp
    · obtain ⟨g, _, rfl⟩ := List.mem_map.mp ha
      simp [lineW]
  rw [h1, h2]
  simp
theorem inF_sig : inF (.str "signals") [.str "signals"] = true := by simp [inF, eqF]
theorem read_network_s {m : Nat} {gs : List G} (ok : Ok m gs) {pre : Str} (hp : PreOk pre) {k : Nat} (hk : k < 3) {h : IH} : Fread_network [.str (pre ++ netT m gs ++ repS "\n" k)] h = .ok (netD m gs) h := by
  have hm := ok.hm
  have hn := ok.hn
  have tj := text_join pre m gs hk
  have frL : ∀ x ∈ linesL pre m gs k, 10 ∉ x.cps.toList := fun x hx => by
    unfold linesL at hx
    rcases List.mem_append.mp hx with hx | hx
    · rcases List.mem_cons.mp hx with rfl | hx
      · exact head_free hp hm
      · obtain ⟨g, hg, rfl⟩ := List.mem_map.mp hx
        exact lineS_free (ok.gt hg)
    · rw [List.eq_of_mem_replicate hx, emp_cps.1]; simp
  have sj := split_join (c := 10) (ps := linesL pre m gs k) (by simp [linesL]) frL
  rw [← tj, ← nl1] at sj
  have pl : pre.length ≤ 1 := by
    rcases hp with rfl | rfl
    · decide +kernel
    · rw [len1.1]; omega
  have l1 : (pre ++ headS m).length ≤ 13 := by
    have := head_len hm
    rw [Str.length_append]
    omega
  have lenL : (linesL pre m gs k).length ≤ 43 := by simp [linesL]; omega
  have xl : (pre ++ netT m gs ++ repS "\n" k).length ≤ 100000 := by
    have h1 := StrLaws.join_length_le ⟨#[10]⟩ (linesL pre m gs k)
    have h2 : ((linesL pre m gs k).map (·.length)).sum ≤ 400 * (linesL pre m gs k).length := sum_le fun x hx => by
      unfold linesL at hx
      rcases List.mem_append.mp hx with hx | hx
      · rcases List.mem_cons.mp hx with rfl | hx
        · omega
        · obtain ⟨g, hg, rfl⟩ := List.mem_map.mp hx
          exact lineS_len (ok.gt hg)
      · rw [List.eq_of_mem_replicate hx]
        exact (show ("" : Str).length ≤ 400 by decide +kernel)
    rw [← tj] at h1
    have h3 : (⟨#[10]⟩ : Str).length = 1 := rfl
    rw [h3] at h1
    omega
  have xne : pre ++ netT m gs ++ repS "\n" k ≠ "" := fun z => by
    have h1 := congrArg (fun s : Str => s.cps.toList) z
    simp only [Str.cps_append, Array.toList_append, emp_cps.1] at h1
    have h2 : (netT m gs).cps.toList = [] := by
      have := List.append_eq_nil_iff.mp h1
      exact (List.append_eq_nil_iff.mp this.1).2
    unfold netT at h2
    rw [tjoin, nl1, join_L] at h2
    have h3 : (headS m).cps.toList ≠ [] := by
      unfold headS
      simp only [Str.cps_append, Array.toList_append, emp_cps.2.2.2]
      simp
    cases gs with
    | nil => exact h3 h2
    | cons g gs =>
      have h4 : (headS m).cps.toList ++ 10 :: jL 10 (((g :: gs).map lineS).map fun s => s.cps.toList) = [] := h2
      simp at h4
  have lo : ∀ h : IH, Flines_of [.str (pre ++ netT m gs ++ repS "\n" k)] h = .ok (.fls ((linesL pre m gs k).map D.str)) h := fun h => lines_of_s sj xne (by omega)
  have sp : ∀ (i : Nat) (p : Str) (w : List Str) (h : IH), (linesL pre m gs k)[i]? = some p → (wordsL m gs k)[i]? = some w → Fspaced_words [.str p] h = .ok (.fls (w.map D.str)) h := fun i p w h e1 e2 => by
    obtain ⟨hps, hs1, hs2, hs3⟩ := head_split hp hm
    by_cases q0 : i = 0
    · subst q0
      simp [linesL] at e1
      simp [wordsL] at e2
      subst e1 e2
      have z := spaced_s hs1 (by omega) (by omega) (h := h)
      rw [hs3] at z
      exact z
    · by_cases q1 : i < 1 + gs.length
      · obtain ⟨j, rfl⟩ : ∃ j, i = j + 1 := ⟨i - 1, by omega⟩
        have hj : j < gs.length := by omega
        simp [linesL, List.getElem?_append_left, hj] at e1
        simp [wordsL, List.getElem?_append_left, hj] at e2
        subst e1 e2
        have t := ok.gt (List.getElem_mem hj)
        have z := spaced_s (lineS_split t) (by have := lineS_len t; omega) (by rw [lineW_n]; have := t.n; omega) (h := h)
        have fe : (lineW gs[j]).filter (fun w : Str => decide (w ≠ "")) = lineW gs[j] := by
          refine List.filter_eq_self.mpr fun a ha => ?_
          have : 1 ≤ a.length := by
            unfold lineW at ha
            rcases List.mem_cons.mp ha with rfl | ha
            · unfold G.w
              split
              · decide +kernel
              · decide +kernel
            · rcases List.mem_cons.mp ha with rfl | ha
              · exact (num_t t.d).len.1
              · obtain ⟨o, ho, rfl⟩ := List.mem_map.mp ha
                exact (num_t (t.o o ho)).len.1
          refine decide_eq_true fun y => ?_
          rw [y] at this
          revert this
          decide +kernel
        rw [fe] at z
        exact z
      · have a1 : p = "" := by
          unfold linesL at e1
          rw [List.getElem?_append_right (by simp; omega)] at e1
          exact List.eq_of_mem_replicate (List.mem_of_getElem? e1)
        have a2 : w = [] := by
          unfold wordsL at e2
          rw [List.getElem?_append_right (by simp; omega)] at e2
          exact List.eq_of_mem_replicate (List.mem_of_getElem? e2)
        subst a1 a2
        have z := spaced_s (x := "") (ps := [("" : Str)]) (by
          have := split_join (c := 32) (ps := [("" : Str)]) (by simp) (fun x hx => by simp at hx; rw [hx, emp_cps.1]; simp)
          rw [← sp1] at this
          exact this) (by decide +kernel) (by simp) (h := h)
        simpa using z
  have llen : (wordsL m gs k).length = (linesL pre m gs k).length := by simp [wordsL, linesL]
  have nw := fun h => numbered_s (h := h) lo (by omega) llen sp
  have qs := numW_snd (wordsL m gs k)
  rw [filter_words] at qs
  rw [llen] at qs
  generalize numW (wordsL m gs k) (linesL pre m gs k).length = Q at nw qs
  have ql : Q.length = 1 + gs.length := by
    have := congrArg List.length qs
    simp at this
    omega
  generalize pre ++ netT m gs ++ repS "\n" k = x at nw
  simp [Fread_network, Sread_network, nw]
  have cond : ∀ H : IH, (fun h' : IH => h'[h.length + 1]? = some (HB.lst (Q.map nwD))) H ↔ H[h.length + 1]? = some (HB.lst (Q.map nwD)) := fun H => Iff.rfl
  refine for_map Q nwD (fun i e H => ∃ a3 a4 a5, e = [some (.str x), some (if i = 0 then .non else .int m), some (.ref h.length), a3, a4, a5, none] ∧ H = h ++ [.lst ((gs.take (i - 1)).map G.e), .lst (Q.map nwD)]) (fun r => gc h (endS (r.sq _)) = _) ?_ ?_ ?_
  · rintro i p e H hi ⟨a3, a4, a5, rfl, rfl⟩
    refine ⟨by simp, _, rfl, .inl ?_⟩
    have il := (List.getElem?_eq_some_iff.mp hi).1
    have p2 : ([("signals" : Str), strN m] :: gs.map lineW)[i]? = some p.2 := by
      rw [← qs, List.getElem?_map, hi]
      rfl
    obtain ⟨ln, ws⟩ := p
    dsimp only at p2
    generalize hb : sSeq _ _ _ _ = r
    by_cases q0 : i = 0
    · subst q0
      simp at p2
      subst p2
      have fi : ∀ H : IH, fIn true (.str "signals") (.tup [.str "signals"]) H = .ok (.bl false) H := fun H => by
        dsimp only [fIn]
        rw [if_pos (by simp [flatD]), inF_sig]
        rfl
      have no := fun H => numbers_of_s (ns := [m]) (d := .int ln) (h := H) (by simp; omega) (by simp)
      have cu : cutD [D.str "signals", D.str (strN m)] (some 1) none = [D.str (strN m)] := by
        have := cut_from (l := [D.str "signals", D.str (strN m)]) (n := 1) (by simp)
        exact this
      have fz1 : ∀ H : IH, fz H (.ok (.ref H.length) (H ++ [HB.lst [D.str (strN m)]])) = .ok (.fls [D.str (strN m)]) H := fun H => fz_lst (by simp)
      have fz2 := fz1 (h ++ [HB.lst [], HB.lst (Q.map nwD)])
      have no2 := no (h ++ [HB.lst [], HB.lst (Q.map nwD)])
      simp at fz2 no2
      simp [nwD, setAll, fi, isN, cu, fz2, no2] at hb
      subst hb
      exact ⟨_, _, .inl rfl, _, _, _, rfl, by simp⟩
    · obtain ⟨j, rfl⟩ : ∃ j, i = j + 1 := ⟨i - 1, by omega⟩
      have hj : j < gs.length := by omega
      simp [hj] at p2
      have hg : gs[j]? = some gs[j] := List.getElem?_eq_getElem hj
      have mg := List.getElem_mem hj
      have t := ok.gt mg
      have ne := ok.ne _ mg
      have tk : gs.take (j + 1) = gs.take j ++ [gs[j]] := List.take_succ_eq_append_getElem hj
      generalize gs[j] = g at p2 hg t ne tk
      subst p2
      generalize hH : h ++ [HB.lst ((gs.take j).map G.e), HB.lst (Q.map nwD)] = H
      have at1 : H[h.length]? = some (.lst ((gs.take j).map G.e)) := by rw [← hH]; simp
      have ap := mAppend_s (d := g.e) at1 (by simp; omega)
      have st : H.set h.length (.lst ((gs.take j).map G.e ++ [g.e])) = h ++ [.lst ((gs.take (j + 1)).map G.e), .lst (Q.map nwD)] := by rw [← hH, tk]; simp
      rw [st] at ap
      have fi : fIn true (.str g.w) (.tup [.str "first", .str "last"]) H = .ok (.bl false) H := by
        dsimp only [fIn]
        rw [if_pos (by simp [flatD]), inF_w]
        rfl
      have no := numbers_of_s (ns := g.d :: g.o) (d := .int ln) (h := H) (fun n hn => by
        rcases List.mem_cons.mp hn with rfl | hn
        · exact t.d
        · exact t.o n hn) (by have := t.n; simp; omega)
      have cu : cutD ((lineW g).map D.str) (some 1) none = (g.d :: g.o).map fun n => .str (strN n) := by
        have := cut_from (l := (lineW g).map D.str) (n := 1) (by simp [lineW])
        rw [show ((1 : Nat) : Int) = 1 from rfl] at this
        rw [this]
        simp [lineW]
      have cu2 : cutD (nDs (g.d :: g.o)) (some 1) none = nDs g.o := by
        have := cut_from (l := nDs (g.d :: g.o)) (n := 1) (by simp)
        rw [show ((1 : Nat) : Int) = 1 from rfl] at this
        rw [this]
        simp
      have fz1 : fz H (.ok (.ref H.length) (H ++ [HB.lst ((g.d :: g.o).map fun n => .str (strN n))])) = .ok (.fls ((g.d :: g.o).map fun n => .str (strN n))) H := fz_lst (clDs_map fun _ _ => by simp)
      have w0 : ((lineW g).map D.str)[0]? = some (.str g.w) := by simp [lineW]
      have ll3 : ¬ ((lineW g).length : Int) < 3 := by rw [lineW_n]; omega
      simp only [Nat.add_sub_cancel] at hb
      rw [hH] at hb
      have lz : ¬ (lineW g).length < 3 := by omega
      simp [nwD, setAll, w0, fi, isN, ll3, lz, cu] at hb
      simp at fz1 no cu2
      rw [fz1] at hb
      simp at hb
      rw [no] at hb
      simp [isN, w0, cu2] at hb
      have e2 : D.tup [.str g.w, .tup (g.o.map fun t : Nat => D.int t), .int g.d] = g.e := rfl
      rw [e2] at hb
      simp [at1, ap] at hb
      subst hb
      exact ⟨_, _, .inl rfl, _, _, _, rfl, by simp⟩
  · rintro e H ⟨a3, a4, a5, rfl, rfl⟩
    refine ⟨by simp, ?_⟩
    rw [ql]
    have q0 : ¬ (1 + gs.length = 0) := by omega
    have tk : gs.take (1 + gs.length - 1) = gs := by rw [show 1 + gs.length - 1 = gs.length by omega, List.take_length]
    rw [if_neg q0, tk]
    have isn := fun H => is_network_s ok (h := H)
    simp [isn, tru]
    exact gc_app (by simp [cl_gs])
  · exact ⟨_, _, _, rfl, by simp⟩
end K89
namespace K89
open PySem L2 Fl
/-! ### sizes, plainness -/
@[simp] theorem plains_nDs {l : List Nat} : plains (l.map fun t : Nat => D.int t) = true := plains_map fun _ _ => by simp
theorem wts_nDs (l : List Nat) : wts (l.map fun t : Nat => D.int t) = 0 := by
  have := wts_map (f := fun t : Nat => D.int t) (b := 0) (l := l) fun _ _ => by simp
  omega
theorem plain_G (g : G) : plain g.e = true := by simp [G.e]
theorem plain_gs {gs : List G} : plains (gs.map G.e) = true := plains_map fun g _ => plain_G g
theorem plain_oDs {l : List (Option Nat)} : plains (l.map oD) = true := plains_map fun o _ => by cases o <;> simp
theorem wts_oDs (l : List (Option Nat)) : wts (l.map oD) = 0 := by
  have := wts_map (f := oD) (b := 0) (l := l) fun o _ => by cases o <;> simp
  omega
theorem plain_pN {l : List (Nat × Nat)} : plains (l.map pN) = true := plains_map fun p _ => by simp [pN]
theorem wts_pN (l : List (Nat × Nat)) : wts (l.map pN) ≤ 2 * l.length := wts_map fun p _ => by simp [pN]
theorem wt_gs {m : Nat} {gs : List G} (ok : Ok m gs) : wts (gs.map G.e) + gs.length ≤ 2560 := by
  have := wts_map (f := G.e) (b := 63) (l := gs) fun g hg => by
    have := ok.many g hg
    simp [G.e, wts_nDs]
    omega
  have := ok.hn
  omega
/-! the report -/
theorem gAdd_s {i j : Str} {h : IH} (hi : i.length ≤ 1000) (hj : j.length ≤ 1000) : gAdd (.str i) (.str j) h = .ok (.str (i ++ j)) h := by
  rw [gAdd_str, if_pos (by rw [sizeLine_eq]; omega)]
def repT (m n l : Nat) : Str := "signals " ++ strN m ++ " gates " ++ strN n ++ " loops " ++ strN l
theorem len2 : (" gates " : Str).length = 7 ∧ (" loops " : Str).length = 7 := by decide +kernel
theorem rep_len {m n l : Nat} (hm : m ≤ 2000) (hn : n ≤ 2000) (hl : l ≤ 2000) : ("signals " ++ strN m : Str).length ≤ 12 ∧ ("signals " ++ strN m ++ " gates " : Str).length ≤ 19 ∧ ("signals " ++ strN m ++ " gates " ++ strN n : Str).length ≤ 23 ∧
    ("signals " ++ strN m ++ " gates " ++ strN n ++ " loops " : Str).length ≤ 30 ∧ (strN m).length ≤ 4 ∧ (strN n).length ≤ 4 ∧ (strN l).length ≤ 4 := by
  have h1 := (num_t hm).len
  have h2 := (num_t hn).len
  have h3 := (num_t hl).len
  have h4 := len1.2.2
  simp only [Str.length_append, h4, len2.1, len2.2]
  omega
/-- the steps of the report -/
theorem rep_steps {m n l : Nat} (hm : m ≤ 2000) (hn : n ≤ 2000) (hl : l ≤ 2000) : (∀ h : IH, gAdd (.str "signals ") (.str (strN m)) h = .ok (.str ("signals " ++ strN m)) h) ∧ (∀ h : IH, gAdd (.str ("signals " ++ strN m)) (.str " gates ") h = .ok (.str ("signals " ++ strN m ++ " gates ")) h) ∧
    (∀ h : IH, gAdd (.str ("signals " ++ strN m ++ " gates ")) (.str (strN n)) h = .ok (.str ("signals " ++ strN m ++ " gates " ++ strN n)) h) ∧ (∀ h : IH, gAdd (.str ("signals " ++ strN m ++ " gates " ++ strN n)) (.str " loops ") h = .ok (.str ("signals " ++ strN m ++ " gates " ++ strN n ++ " loops ")) h) ∧
    (∀ h : IH, gAdd (.str ("signals " ++ strN m ++ " gates " ++ strN n ++ " loops ")) (.str (strN l)) h = .ok (.str (repT m n l)) h) := by
  obtain ⟨r1, r2, r3, r4, r5, r6, r7⟩ := rep_len hm hn hl
  have l8 := len1.2.2
  have l7 := len2
  exact ⟨fun h => gAdd_s (by omega) (by omega), fun h => gAdd_s (by omega) (by omega), fun h => gAdd_s (by omega) (by omega), fun h => gAdd_s (by omega) (by omega), fun h => gAdd_s (by omega) (by omega)⟩
theorem report_s {m : Nat} {gs : List G} (ok : Ok m gs) {h : IH} : Fnetwork_report [netD m gs] h = .ok (.str (repT m gs.length (loops m gs).length)) h := by
  have hm := ok.hm
  have hn := ok.hn
  have ll := loops_len (m := m) (gs := gs)
  obtain ⟨r1, r2, r3, r4, r5⟩ := rep_steps (m := m) (n := gs.length) (l := (loops m gs).length) (by omega) (by omega) (by omega)
  have b1 := fun H => bStr_n (n := m) (by omega) (h := H)
  have b2 := fun H => bStr_n (n := gs.length) (by omega) (h := H)
  have b3 := fun H => bStr_n (n := (loops m gs).length) (by omega) (h := H)
  have gl := fun H => gates_in_loops_s ok (h := H)
  simp [Fnetwork_report, Snetwork_report, -bStr_s, -gAdd_str, b1, b2, b3, r1, r2, r3, r4, r5, gl]
/-! the odd one -/
theorem odd_at {m n r : Nat} (hr : r < 6) (hz : m + n ≤ 100) : ∃ d : D, ([D.int ((m : Int) + n), D.int (-1), D.non, D.bl true, D.str "0", D.int 1000000000000000000000000000000] : List D)[r]? = some d ∧ ∀ h : IH, Fis_below [d, .int ((m : Int) + n)] h = .ok (.bl false) h := by
  have : r = 0 ∨ r = 1 ∨ r = 2 ∨ r = 3 ∨ r = 4 ∨ r = 5 := by omega
  rcases this with rfl | rfl | rfl | rfl | rfl | rfl
  · exact ⟨_, rfl, fun h => by rw [is_below_int]; simp⟩
  · exact ⟨_, rfl, fun h => by rw [is_below_int]; simp⟩
  · exact ⟨_, rfl, fun h => is_below_non⟩
  · exact ⟨_, rfl, fun h => is_below_bl⟩
  · exact ⟨_, rfl, fun h => is_below_str⟩
  · refine ⟨_, rfl, fun h => ?_⟩
    rw [is_below_int, decide_eq_false]
    omega
theorem need_nil {m : Nat} {gs : List G} (ok : Ok m gs) : need m gs [] = [] := by
  refine List.eq_nil_iff_forall_not_mem.mpr fun k hk => ?_
  have r := (need_mem ok (by simp)).mp hk
  induction r with
  | base h => cases h
  | step _ _ ih => exact ih ((need_mem ok (by simp)).mpr (by assumption))
theorem set_s {S : List Nat} (hz : S.length < 64) {h : IH} : ∃ T : List Nat, T.Nodup ∧ (∀ k, k ∈ T ↔ k ∈ S) ∧ ssO (.tup (nDs S)) h = .ok (.ref h.length) (h ++ [.lst (nDs T)]) := by
  have pos : ∀ k ∈ usrt (S.map fun t : Nat => (t : Int)), ∃ j : Nat, k = j ∧ j ∈ S := fun k hk => by
    obtain ⟨j, hj, rfl⟩ := List.mem_map.mp (usrt_mem.mp hk)
    exact ⟨j, rfl, hj⟩
  have e : usrt (S.map fun t : Nat => (t : Int)) = ((usrt (S.map fun t : Nat => (t : Int))).map Int.toNat).map fun t : Nat => (t : Int) := by
    rw [List.map_map]
    refine (List.map_id' _).symm.trans (List.map_congr_left fun k hk => ?_)
    obtain ⟨j, rfl, _⟩ := pos k hk
    simp
  refine ⟨(usrt (S.map fun t : Nat => (t : Int))).map Int.toNat, ?_, fun k => ?_, ?_⟩
  · have nd : (usrt (S.map fun t : Nat => (t : Int))).Pairwise (· < ·) := usrt_srt _
    rw [List.Nodup, List.pairwise_map]
    refine List.Pairwise.imp_of_mem (fun {a b} ha hb hab => ?_) nd
    obtain ⟨j, rfl, _⟩ := pos a ha
    obtain ⟨l, rfl, _⟩ := pos b hb
    simp
    omega
  · rw [List.mem_map]
    constructor
    · rintro ⟨a, ha, rfl⟩
      obtain ⟨j, rfl, hj⟩ := pos a ha
      simpa using hj
    · intro hk
      exact ⟨(k : Int), usrt_mem.mpr (List.mem_map.mpr ⟨k, hk, rfl⟩), by simp⟩
  · show (match intsD (nDs S) with
      | some ns => if ns.length < 64 then R.ok (D.ref h.length) (h ++ [HB.lst ((usrt ns).map D.int)]) else R.bad
      | none => R.bad) = _
    rw [intsD_nat]
    dsimp only
    rw [if_pos (by simpa using hz), e, nDs_int]
    simp
end K89
namespace K89
open PySem L2 Fl
theorem looks_s {p q : Nat} {h : IH} (J : Jar p q h) {m : Nat} {gs : List G} (ok : Ok m gs) (h1 : 1 ≤ gs.length) : ∃ h', JS p q h h' ∧ F_law_looks [.ref p, netD m gs] h = .ok (.bl true) h' := by
  have hm := ok.hm
  have hn := ok.hn
  have wg := wt_gs ok
  have sm := small (show gs.length ≤ 4000 by omega)
  have rg1 : (-4611686018427387904 : Int) ≤ (m : Int) + gs.length ∧ (m : Int) + gs.length < 4611686018427387904 := by omega
  have tn : ((m : Int) + gs.length).toNat = m + gs.length := by omega
  simp only [F_law_looks, S_law_looks, fnG_ap]
  simp [rg1, tn, -bStr_s, -gAdd_str]
  refine for_rg (fun i e H => ∃ a4 a5, e = [some (.ref p), some (netD m gs), some (.int m), some (gsD gs), a4, a5, none, none, none, none, none, none, none, none] ∧ H = h) (fun r => ∃ h', JS p q h h' ∧ gc h (endS (r.sq _)) = .ok (.bl true) h') ?_ ?_ ?_
  · rintro i e H hi ⟨a4, a5, rfl, rfl⟩
    refine ⟨trivial, _, rfl, .inl ?_⟩
    have us := law_users_s ok hi (h := H)
    have e1 : (List.range gs.length).filterMap (fun j => if i ∈ ((gs[j]?).map G.o).getD [] then some (D.int (j : Nat)) else none) = nDs ((List.range gs.length).filter fun j => decide (i ∈ ((gs[j]?).map G.o).getD [])) := fm_filter (fun j : Nat => D.int (j : Nat)) _
    have fl := filter_rg_le (fun j => decide (i ∈ ((gs[j]?).map G.o).getD [])) gs.length
    generalize hL : (List.range gs.length).filter (fun j => decide (i ∈ ((gs[j]?).map G.o).getD [])) = L at us e1 fl
    have sa := same_s (d := .tup [.str "told", .tup (nDs L)]) (by simp) (by simp [wts_nDs]; omega) (h := H)
    generalize hb : sSeq _ _ _ _ = r
    simp [sm, rgD_map] at hb
    rw [fz_filt (List.range gs.length) (fun k : Nat => D.int k) (fun j => if i ∈ ((gs[j]?).map G.o).getD [] then some (D.int j) else none) rfl rfl (fun _ => trivial) (by simp; omega), e1] at hb
    · simp at hb us sa
      simp [us, sa, tru] at hb
      subst hb
      exact ⟨_, _, .inl rfl, _, _, rfl, rfl⟩
    · intro j hj
      have hj := List.mem_range.mp hj
      have hg : gs[j]? = some gs[j] := List.getElem?_eq_getElem hj
      refine ⟨_, rfl, fun acc H hH => ?_⟩
      have fi := fIn_tup (neg := false) (k := i) (l := gs[j].o) (h := H)
      by_cases z : i ∈ gs[j].o
      · simp [hg, G.e, fi, z]
      · simp [hg, G.e, fi, z]
    · rw [e1]
      exact cl_nDs
  · rintro e H ⟨a4, a5, rfl, rfl⟩
    refine ⟨trivial, ?_⟩
    obtain ⟨r1, h2, _, b1, s1, e1⟩ := sip_s J 23 6
    have b1 := b1 (by omega)
    push_cast at e1
    obtain ⟨od, od1, od2⟩ := odd_at (m := m) (n := gs.length) b1 (by omega)
    have ub := fun H => law_users_bad (m := m) (gs := gs) (h := H) od2
    have ss := fun H => same_s (d := .tup [.str "step", .str "number"]) (by simp) (by simp) (h := H)
    have ll := loops_len (m := m) (gs := gs)
    have lo := fun H => law_loops_s ok (h := H)
    have gl := fun H => gates_in_loops_s ok (h := H)
    have rp := fun H => report_s ok (h := H)
    obtain ⟨p1, p2, p3, p4, p5⟩ := rep_steps (m := m) (n := gs.length) (l := (loops m gs).length) (by omega) (by omega) (by omega)
    have c1 := fun H => bStr_n (n := m) (by omega) (h := H)
    have c2 := fun H => bStr_n (n := gs.length) (by omega) (h := H)
    have c3 := fun H => bStr_n (n := (loops m gs).length) (by omega) (h := H)
    have sl := fun H => same_s (d := .tup [.tup (nDs (loops m gs)), .str (repT m gs.length (loops m gs).length)]) (by simp) (by simp [wts_nDs]; omega) (h := H)
    simp [-bStr_s, -gAdd_str, e1, od1, ub, ss, tru, lo, c1, c2, c3, p1, p2, p3, p4, p5, gl, rp, sl]
    obtain ⟨r2, h3, _, b2, s2, e2⟩ := sip_s s1.jar 25 3
    have b2 := b2 (by omega)
    push_cast at e2
    have rg2 : (-4611686018427387904 : Int) ≤ 1 + r2 ∧ (1 : Int) + r2 < 4611686018427387904 := by omega
    have tn2 : ((1 : Int) + r2).toNat = 1 + r2 := by omega
    obtain ⟨S, h4, S1, S2, s3, dr⟩ := draws_s (n := p) (m := q) (f := eB F_law_sip (aCons (eV 0) (aCons (eC (.int 24)) (aCons (eB bLen (aCons (eV 3) aNil)) aNil))))
      (e := [some (D.ref p), some (netD m gs), some (D.int ↑m), some (gsD gs), a4, a5, none, some od, some (D.tup (nDs (loops m gs))), some (D.str (repT m gs.length (loops m gs).length)), none, none, none, none]) (x := 11) (P := fun r => r < gs.length) (fun H i J2 => by
        obtain ⟨r, H', _, b, s, ev⟩ := sip_s J2 24 gs.length
        push_cast at ev
        exact ⟨r, H', b h1, s, by simp [ev]⟩) s2 (s1.trans s2).jar (1 + r2) (by omega)
    have js := (s1.trans s2).trans s3
    refine ⟨h4, js, ?_⟩
    obtain ⟨T, T1, T2, T3⟩ := set_s (S := S) (h := h4) (by omega)
    have cT : clDs h4.length (nDs T) = true := cl_nDs
    have hT : ∀ k ∈ T, k < gs.length := fun k hk => S2 k ((T2 k).mp hk)
    have ln := law_needed_s ok hT T1 (d := .fls (nDs T)) (h := h4) (by simp)
    rw [need_congr T2] at ln
    have kl : ∀ k ∈ need m gs S, k < gs.length := fun k hk => reach_lt ok S2 ((need_mem ok S2).mp hk)
    have cls := need_closed ok S2
    have asc : (need m gs S).Pairwise (· < ·) := need_asc
    have nl := need_len (m := m) (gs := gs) (S := S)
    have nf := needed_for_s ok S2 (by omega) (.inr rfl) (h := h4)
    have nf0 := needed_for_s ok (S := []) (by simp) (by simp) (.inr rfl) (h := h4)
    rw [need_nil ok] at nf0
    have tr := trimmed_s ok S2 (by omega) (h := h4)
    have lt := law_trimmed_s ok kl cls (by omega) (h := h4)
    have okt := trim_ok ok kl cls asc
    have wt2 := wt_gs okt
    have gt := gates_in_loops_s okt (h := h4)
    rw [loops_trim ok kl cls asc] at gt
    have ck := check_network_s okt (h := h4)
    rw [trim_len kl] at ck
    generalize need m gs S = kept at ln kl cls asc nl nf tr lt okt wt2 gt ck
    have sa := same_s (d := .tup [.tup (nDs kept), .tup [], netD m (trim m gs kept)]) (by simp [plain_gs]) (by simp [wts_nDs]; omega) (h := h4)
    have fle : ((loops m gs).filter fun k => decide (k ∈ kept)).length ≤ (loops m gs).length := List.length_filter_le _ _
    have sbX : ∀ X : List Nat, X.length ≤ 100 → F_law_same [.tup [.tup (nDs X), .int kept.length], .tup [.tup (nDs X), .int kept.length]] h4 = .ok (.bl true) h4 := fun X hX => same_s (by simp) (by simp [wts_nDs]; omega)
    have sb := sbX (((loops m gs).filter fun k => decide (k ∈ kept)).map kept.idxOf) (by rw [List.length_map]; omega)
    have e3 : (loops m gs).filterMap (fun k => if k ∈ kept then some (D.int (kept.idxOf k : Nat)) else none) = nDs (((loops m gs).filter fun k => decide (k ∈ kept)).map kept.idxOf) := by
      rw [fm_filter (fun k => D.int (kept.idxOf k : Nat)), nDs, List.map_map]
      rfl
    simp [e2, rg2, tn2]
    rw [dr]
    simp at nf0 sa
    simp [T3, fz_lst, cT, ln, lt, nf, nf0, tr, sa, tru, gt, ck]
    rw [fz_filt (loops m gs) (fun k : Nat => D.int k) (fun k => if k ∈ kept then some (D.int (kept.idxOf k : Nat)) else none) rfl rfl (fun _ => trivial) (by omega), e3]
    · simp at sb
      simp [sb, gc_js js]
    · intro k hk
      refine ⟨_, rfl, fun acc H2 hH2 => ?_⟩
      have fi := fIn_tup (neg := false) (k := k) (l := kept) (h := H2)
      by_cases z : k ∈ kept
      · have mt := mTix_s (h := H2) z
        simp [fi, z, isTup, mt]
      · simp [fi, z]
    · rw [e3]
      exact cl_nDs
  · exact ⟨_, _, rfl, rfl⟩
end K89
namespace K89
open PySem L2 Fl
theorem lmax_same {l k : List Nat} (h : ∀ x, x ∈ l ↔ x ∈ k) : lmax l = lmax k := by
  by_cases q : k = []
  · subst q
    have : l = [] := List.eq_nil_iff_forall_not_mem.mpr fun x hx => by have := (h x).mp hx; cases this
    rw [this]
  · obtain ⟨h1, h2⟩ := lmax_spec q
    exact lmax_is ((h _).mpr h1) fun y hy => h2 y ((h y).mp hy)
theorem tms_app (a b : List (Option Nat)) : tms (a ++ b) = tms a ++ tms b := by unfold tms; rw [List.filterMap_append]
theorem tms_len (a : List (Option Nat)) : (tms a).length ≤ a.length := List.length_filterMap_le _ _
theorem quiet_eq (a b : List (Option Nat)) : (if tms (a ++ b) = [] then 0 else lmax (tms (a ++ b)) + 1) = lmax (0 :: (tms (b ++ a)).map (· + 1)) := by
  rw [behind_is]
  have e : ∀ x, x ∈ tms (a ++ b) ↔ x ∈ tms (b ++ a) := fun x => by rw [tms_app, tms_app, List.mem_append, List.mem_append]; exact Or.comm
  have e2 : tms (a ++ b) = [] ↔ tms (b ++ a) = [] := by
    constructor
    · intro h
      refine List.eq_nil_iff_forall_not_mem.mpr fun x hx => ?_
      have := (e x).mpr hx
      rw [h] at this
      cases this
    · intro h
      refine List.eq_nil_iff_forall_not_mem.mpr fun x hx => ?_
      have := (e x).mp hx
      rw [h] at this
      cases this
  by_cases q : tms (a ++ b) = []
  · rw [if_pos q, if_pos (e2.mp q)]
  · rw [if_neg q, if_neg fun z => q (e2.mpr z), lmax_same e]
theorem atI_last {l : List D} (h : l ≠ []) : atI l (-1) = l[l.length - 1]? := by
  have := List.length_pos_iff.mpr h
  unfold L2.atI L2.ixN
  rw [if_neg (by omega), if_pos (by omega)]
  show l[((-1 : Int) + l.length).toNat]? = _
  congr 1
  omega
def latD (c : List (Option Nat)) : D := if tms c = [] then .non else .int (lmax (tms c) : Nat)
theorem plain_lat (c : List (Option Nat)) : plain (latD c) = true := by
  unfold latD
  split <;> simp
theorem wt_lat (c : List (Option Nat)) : wt (latD c) = 0 := by
  unfold latD
  split <;> simp
theorem prs_len (c : List (Option Nat)) : (prs c).length ≤ c.length := by
  have := List.length_filterMap_le (fun k => (cv c k).map fun t => (t, k)) (List.range c.length)
  rw [List.length_range] at this
  exact this
theorem sP_len (c : List (Option Nat)) : (sP (prs c)).length ≤ c.length := by
  rw [(sP_perm _).length_eq]
  exact prs_len c
theorem latest_eval {c : List (Option Nat)} {e : Lc} {h : IH} (e7 : e[7]? = some (some (.fls ((sP (prs c)).map pN)))) :
    eIf (tB (eOp fGt (eB bLen (aCons (eV 7) aNil)) (eC (.int 0)))) (eOp fIy (eOp fIy (eV 7) (eNeg (eC (.int 1)))) (eC (.int 0))) (eC .non) e h = .ok (latD c) h := by
  by_cases q : tms c = []
  · have q2 : sP (prs c) = [] := by
      have := (sP_perm (prs c)).length_eq
      rw [tms_prs] at q
      have q3 : prs c = [] := List.map_eq_nil_iff.mp q
      rw [q3] at this
      rw [q3]
      exact List.length_eq_zero_iff.mp (by simpa using (sP_perm []).length_eq)
    simp [e7, q2, latD, q]
  · obtain ⟨p, p1, p2⟩ := last_prs q
    have ne : sP (prs c) ≠ [] := fun z => by rw [z] at p1; cases p1
    have pos := List.length_pos_iff.mpr ne
    have al : atI ((sP (prs c)).map pN) (-1) = some (pN p) := by
      rw [atI_last (by simpa using ne), List.length_map, List.getElem?_map, p1]
      rfl
    simp [e7, pos, al, pN, latD, q, p2]
theorem run_s {p q : Nat} {h : IH} (J : Jar p q h) {m m2 : Nat} {gs os : List G} (ok : Ok m gs) (ok2 : Ok m2 os) (h1 : 1 ≤ gs.length) : ∃ h', JS p q h h' ∧ F_law_run [.ref p, netD m gs, netD m2 os] h = .ok (.bl true) h' := by
  have hm := ok.hm
  have hn := ok.hn
  have hn2 := ok2.hn
  have wg := wt_gs ok
  have sm := small (show gs.length ≤ 4000 by omega)
  obtain ⟨ts, h2, hts, s1, e1⟩ := times_s J hm
  have lc := law_comes_s ok hts (fin_run hts) (h := h2)
  have hc : ∀ h : IH, Fcomes [netD m gs, .tup (ts.map oD)] h = .ok (.tup ((cm m gs ts).map oD)) h := fun h => comes_s ok hts (fin_run hts)
  have cl := cm_len (gs := gs) hts
  change F_law_comes [netD m gs, .tup (ts.map oD)] h2 = .ok (.tup ((cm m gs ts).map oD)) h2 at lc
  have cmg := coming_s hc (by omega) (h := h2)
  have ltt := latest_time_s hc (by omega) (h := h2)
  have qui := quiet_s hc (by omega) (by omega) (h := h2)
  rw [quiet_eq] at qui
  change Flatest_time [netD m gs, .tup (ts.map oD)] h2 = .ok (latD (cm m gs ts)) h2 at ltt
  have hc2 := hc h2
  generalize hcm : cm m gs ts = c at lc hc2 cl cmg ltt qui
  have ep : (List.range gs.length).filterMap (fun k => ((cv c k).map fun t => (t, k)).map pN) = (prs c).map pN := by
    unfold prs
    rw [List.map_filterMap, cl]
  have sl := sP_len c
  have tl := tms_len (c ++ ts)
  have tl2 : (c ++ ts).length ≤ 46 := by rw [List.length_append]; omega
  have eb : (c ++ ts).filterMap (fun o => o.map fun t : Nat => D.int ((t : Int) + 1)) = nDs ((tms (c ++ ts)).map (· + 1)) := by
    unfold tms nDs
    rw [List.map_filterMap, List.map_filterMap]
    refine fm_congr fun o _ => ?_
    cases o <;> simp
  have gm := gMax_s (l := 0 :: (tms (c ++ ts)).map (· + 1)) (by simp) (h := h2)
  generalize hbh : lmax (0 :: (tms (c ++ ts)).map (· + 1)) = bh at qui gm
  have wp := wts_pN (sP (prs c))
  have sa := same_s (d := .tup [.tup (c.map oD), .tup ((sP (prs c)).map pN), latD c, .int bh]) (by simp [plain_oDs, plain_pN, plain_lat]) (by simp [wts_oDs, wt_lat]; omega) (h := h2)
  obtain ⟨r1, h3, _, b1, s2, e2⟩ := sip_s s1.jar 26 gs.length
  have b1 := b1 h1
  push_cast at e2
  have js := s1.trans s2
  refine ⟨h3, js, ?_⟩
  have hS : ∀ k ∈ [r1], k < gs.length := fun k hk => by simp at hk; omega
  have ln := law_needed_s ok hS (by simp) (d := .fls (nDs [r1])) (h := h3) (by simp)
  have kl : ∀ k ∈ need m gs [r1], k < gs.length := fun k hk => reach_lt ok hS ((need_mem ok hS).mp hk)
  have cls := need_closed ok hS
  have asc : (need m gs [r1]).Pairwise (· < ·) := need_asc
  have nl := need_len (m := m) (gs := gs) (S := [r1])
  have tr := trimmed_s ok hS (by simp) (h := h3)
  have okt := trim_ok ok kl cls asc
  have ct := comes_s okt hts (fin_run hts) (h := h3)
  change Fcomes [netD m (trim m gs (need m gs [r1])), .tup (ts.map oD)] h3 = .ok (.tup ((cm m (trim m gs (need m gs [r1])) ts).map oD)) h3 at ct
  rw [cm_trim ok kl cls asc hts, hcm] at ct
  generalize need m gs [r1] = kept at ln kl cls asc nl tr okt ct
  have sk := same_s (d := .tup ((kept.map (cv c)).map oD)) (by simp only [plain_tup]; exact plain_oDs) (by rw [wt_tup, wts_oDs]; simp; omega) (h := h3)
  have ek : kept.map (fun k => oD (cv c k)) = (kept.map (cv c)).map oD := by rw [List.map_map]; rfl
  simp only [F_law_run, S_law_run, fnG_ap]
  simp [-bStr_s, -gAdd_str, e1, lc, sm, rgD_map]
  rw [fz_filt (List.range gs.length) (fun k : Nat => D.int k) (fun k => ((cv c k).map fun t => (t, k)).map pN) rfl rfl (fun _ => trivial) (by simp; omega), ep]
  · have clp : clDs h2.length ((sP (prs c)).map pN) = true := cl_pN
    have le := latest_eval (c := c) (e := [some (D.ref p), some (netD m gs), some (netD m2 os), some (D.int m), some (gsD gs), some (D.tup (ts.map oD)), some (D.tup (c.map oD)), some (D.fls ((sP (prs c)).map pN)), none, none, none, none, none, none, none, none, none, none, none, none, none]) (h := h2) rfl
    simp [gSorted_p, fz_lst, clp]
    simp at le
    rw [le]
    have q1 : c.length + ts.length ≤ 16777216 := by omega
    have q2 : 1 + (tms (c ++ ts)).length ≤ 16777216 := by omega
    have ea : c.map oD ++ ts.map oD = (c ++ ts).map oD := by simp
    simp [fz_lst, q1]
    rw [ea, fz_filt (c ++ ts) oD (fun o => o.map fun t : Nat => D.int ((t : Int) + 1)) rfl rfl (fun _ => trivial) (by omega), eb]
    · have e0 : D.int 0 :: nDs ((tms (c ++ ts)).map (· + 1)) = nDs (0 :: (tms (c ++ ts)).map (· + 1)) := rfl
      have clb : clDs h2.length (nDs (0 :: (tms (c ++ ts)).map (· + 1))) = true := cl_nDs
      simp [q2]
      simp at clb gm sa
      simp [q2, fz_lst, clb, gm, hc2, cmg, ltt, qui, sa, tru, e2]
      have cl1 : clDs h3.length [D.int (r1 : Int)] = true := by simp
      simp at ln
      simp [fz_lst, cl1, ln]
      have tr' : Ftrimmed_network [netD m gs, D.tup [D.int (r1 : Int)]] h3 = R.ok (netD m (trim m gs kept)) h3 := tr
      simp [tr', ct]
      rw [fz_map kept (fun k : Nat => D.int k) (fun k => oD (cv c k)) rfl rfl (fun _ => trivial) (by omega), ek]
      · simp at sk
        simp [sk, tru]
        have bφe : ∀ g ∈ os, ∀ o ∈ g.o, ∀ (H : IH) (e : Lc), e[15]? = some (some (.int o)) → e[3]? = some (some (.int m)) → e[4]? = some (some (gsD gs)) →
            eIf (tB (eOp fLt (eV 15) (eV 3))) (eV 15) (eOp gAdd (eV 15) (eB bLen (aCons (eV 4) aNil))) e H = .ok (.int (bφ m gs.length o : Nat)) H := by
          intro g hg o ho H e h15 h3 h4
          by_cases z : o < m
          · have z2 : (o : Int) < m := by omega
            simp [h15, h3, z2, bφ, z]
          · have z2 : ¬ (o : Int) < m := by omega
            simp [h15, h3, h4, z2, bφ, z]
        rw [fz_map os G.e (fun g => (ren (bφ m gs.length) g).e) rfl rfl (fun _ => trivial) (by omega)]
        · have q3 : gs.length + os.length ≤ 16777216 := by omega
          have eBo : gs.map G.e ++ os.map (fun g => (ren (bφ m gs.length) g).e) = (both m gs os).map G.e := by simp [both]
          have bl : (both m gs os).length = gs.length + os.length := by simp [both]
          have gj : ∀ d, gc h (.ok d h3) = .ok d h3 := fun d => gc_js js
          simp [q3]
          rw [eBo]
          by_cases z : m2 = m
          · subst z
            by_cases z2 : 40 < gs.length + os.length
            · have lb := law_beside_wide (m := m2) (gs := gs) (os := os) (h := h3) z2
              have ss := same_s (d := .tup [.str "step", .str "wide"]) (by simp) (by simp) (h := h3)
              have z3 : (40 : Int) < (gs.length : Int) + os.length := by omega
              simp [lb, bl, z3, ss, gj]
            · have z3 : ¬ (40 : Int) < (gs.length : Int) + os.length := by omega
              have lb := law_beside_s ok ok2 (by omega) (h := h3)
              have okb := both_ok ok ok2 (by omega)
              have ll1 := law_loops_s ok (h := h3)
              have ll2 := law_loops_s ok2 (h := h3)
              have gb := gates_in_loops_s okb (h := h3)
              rw [loops_both ok ok2 (by omega)] at gb
              have l1 := loops_len (m := m2) (gs := gs)
              have l2 := loops_len (m := m2) (gs := os)
              have cb := comes_s okb hts (fin_run hts) (h := h3)
              change Fcomes [netD m2 (both m2 gs os), .tup (ts.map oD)] h3 = .ok (.tup ((cm m2 (both m2 gs os) ts).map oD)) h3 at cb
              rw [cm_both ok ok2 hts, hcm] at cb
              have lo := law_comes_s ok2 hts (fin_run hts) (h := h3)
              change F_law_comes [netD m2 os, .tup (ts.map oD)] h3 = .ok (.tup ((cm m2 os ts).map oD)) h3 at lo
              have clo := cm_len (gs := os) hts
              generalize cm m2 os ts = c2 at cb lo clo
              have wb := wt_gs okb
              have sf : ∀ X : List Nat, X.length ≤ 40 → F_law_same [.tup [.tup [.str "told", netD m2 (both m2 gs os)], .tup ((c ++ c2).map oD), .tup (nDs X)], .tup [.tup [.str "told", netD m2 (both m2 gs os)], .tup ((c ++ c2).map oD), .tup (nDs X)]] h3 = .ok (.bl true) h3 := fun X hX =>
                same_s (by simp only [plain_tup, plains_cons, plain_str, plain_int, plain_gs, plain_oDs, plains_nDs, plains_nil]; rfl) (by
                  simp only [wt_tup, wts_cons, wt_str, wt_int, wts_oDs, wts_nDs, wts_nil, List.length_cons, List.length_nil, List.length_map, List.length_append]
                  omega)
              have sg := sf (loops m2 gs ++ (loops m2 os).map fun k => gs.length + k) (by rw [List.length_append, List.length_map]; omega)
              have q5 : c.length + c2.length ≤ 16777216 := by omega
              have q6 : (loops m2 gs).length + (loops m2 os).length ≤ 16777216 := by omega
              simp [lb, bl, z3, ll1, ll2]
              rw [fz_map (loops m2 os) (fun k : Nat => D.int k) (fun k => .int ((gs.length + k : Nat) : Int)) rfl rfl (fun _ => trivial) (by omega)]
              · simp at sg gb cb
                have eN : (loops m2 os).map (fun k : Nat => D.int ((gs.length : Int) + k)) = (loops m2 os).map ((fun t : Nat => D.int (t : Int)) ∘ fun k => gs.length + k) := List.map_congr_left fun k _ => by simp
                simp [q6, cb, lo, q5, gb]
                rw [eN, sg]
                simp [gj]
              · intro k hk
                exact ⟨_, rfl, fun acc H hH => by simp⟩
              · exact clDs_map fun _ _ => by simp
          · have lb := law_beside_num (m := m) (n := m2) (gs := gs) (os := os) (h := h3) (fun y => z y.symm)
            have ss := same_s (d := .tup [.str "step", .str "number"]) (by simp) (by simp) (h := h3)
            have z3 : ¬ (m2 : Int) = m := by omega
            simp [lb, z, z3, ss, gj]
        · intro g hg
          refine ⟨_, rfl, fun acc H hH => ?_⟩
          have om := ok2.many g hg
          simp [setAll, G.e]
          rw [fz_map g.o (fun k : Nat => D.int k) (fun o => .int (bφ m gs.length o : Nat)) rfl rfl (fun _ => trivial) (by omega)]
          · simp [ren, G.w]
            rfl
          · intro o ho
            refine ⟨_, rfl, fun acc2 H2 hH2 => ?_⟩
            exact bφe g hg o ho H2 _ rfl rfl rfl
          · exact clDs_map fun _ _ => by simp
        · exact clDs_map fun _ _ => cl_G
      · intro k hk
        have := kl k hk
        have e := oD_at (c := c) (k := k) (by omega)
        rw [List.getElem?_map] at e
        refine ⟨_, rfl, fun acc H hH => ?_⟩
        simp [e]
      · rw [ek]; exact cl_oDs
    · intro o ho
      refine ⟨_, rfl, fun acc H hH => ?_⟩
      cases o <;> simp [isN]
    · rw [eb]; exact cl_nDs
  · intro k hk
    have hk := List.mem_range.mp hk
    have e := oD_at (c := c) (k := k) (by omega)
    rw [List.getElem?_map] at e
    refine ⟨_, rfl, fun acc H hH => ?_⟩
    cases hcv : cv c k with
    | none => rw [hcv] at e; simp [e, isN]
    | some t => rw [hcv] at e; simp [e, isN, pN]
  · rw [ep]; exact cl_pN
end K89
namespace K89
open PySem L2 Fl
theorem pre_at {r : Nat} (h : r < 2) : ∃ pre : Str, PreOk pre ∧ ([D.str "", D.str " "] : List D)[r]? = some (.str pre) := by
  have : r = 0 ∨ r = 1 := by omega
  rcases this with rfl | rfl
  · exact ⟨"", .inl rfl, rfl⟩
  · exact ⟨" ", .inr rfl, rfl⟩
theorem fMul_nl {k : Nat} (hk : k < 3) {h : IH} : fMul (.str "\n") (.int k) h = .ok (.str (repS "\n" k)) h := by
  have l1 : ("\n" : Str).length ≤ 1000 := by rw [len1.2.1]; omega
  have l2 : (repS "\n" (k : Int)).length ≤ 10 := by
    have : k = 0 ∨ k = 1 ∨ k = 2 := by omega
    rcases this with rfl | rfl | rfl
    · rw [rep_0]; decide +kernel
    · rw [rep_1]; decide +kernel
    · rw [rep_2]; decide +kernel
  dsimp only [fMul]
  rw [if_pos ⟨l1, by omega, by omega, by rw [sizeLine_eq]; omega⟩]
theorem rep_len3 {k : Nat} (hk : k < 3) : (repS "\n" (k : Int)).length ≤ 10 := by
  have : k = 0 ∨ k = 1 ∨ k = 2 := by omega
  rcases this with rfl | rfl | rfl
  · rw [rep_0]; decide +kernel
  · rw [rep_1]; decide +kernel
  · rw [rep_2]; decide +kernel
theorem netT_len {m : Nat} {gs : List G} (ok : Ok m gs) : (netT m gs).length ≤ 100000 := by
  have h0 := StrLaws.join_length_le "\n" (headS m :: gs.map lineS)
  have h1 := head_len ok.hm
  have h2 : ((gs.map lineS).map (·.length)).sum ≤ 400 * (gs.map lineS).length := sum_le fun x hx => by
    obtain ⟨g, hg, rfl⟩ := List.mem_map.mp hx
    exact lineS_len (ok.gt hg)
  have h3 := ok.hn
  rw [List.length_map] at h2
  rw [List.map_cons, List.sum_cons, len1.2.1, List.length_cons, List.length_map] at h0
  unfold netT
  rw [tjoin]
  omega
theorem fMul_tup {d : D} {m : Nat} (hm : m ≤ 1000) {h : IH} : fMul (.tup [d]) (.int m) h = .ok (.tup (List.replicate m d)) h := by
  dsimp only [fMul]
  rw [if_pos ⟨by simp, by omega, by omega⟩]
  simp
theorem cv_none {n k : Nat} : cv (List.replicate n none) k = none := by
  unfold cv
  rw [List.getElem?_replicate]
  split <;> rfl
theorem tb_none {g : G} {n : Nat} : tb g (List.replicate n none) = none := by
  unfold tb
  have e : g.o.filterMap (cv (List.replicate n none)) = [] := by
    refine List.eq_nil_iff_forall_not_mem.mpr fun x hx => ?_
    obtain ⟨k, _, z⟩ := List.mem_filterMap.mp hx
    rw [cv_none] at z
    cases z
  rw [e]
  simp
theorem cm_none {m : Nat} {gs : List G} : cm m gs (List.replicate m none) = List.replicate gs.length none := by
  have e : List.replicate m (none : Option Nat) ++ List.replicate gs.length none = List.replicate (m + gs.length) none := by simp
  have r : Run m gs (List.replicate m none ++ List.replicate gs.length none) (List.replicate m none ++ List.replicate gs.length none) := by
    refine .stop (List.eq_nil_iff_forall_not_mem.mpr fun ⟨t, k⟩ z => ?_)
    obtain ⟨_, _, g, _, h4⟩ := cand_is z
    rw [e, tb_none] at h4
    cases h4
  rw [cm_is (by simp) r]
  simp
theorem tms_none {n : Nat} : tms (List.replicate n none) = [] := by
  refine List.eq_nil_iff_forall_not_mem.mpr fun x hx => ?_
  obtain ⟨k, h1, z⟩ := List.mem_filterMap.mp hx
  rw [List.eq_of_mem_replicate h1] at z
  cases z
theorem prs_none {n : Nat} : prs (List.replicate n none) = [] := by
  have := tms_prs (List.replicate n none)
  rw [tms_none] at this
  exact (List.map_eq_nil_iff.mp this.symm)
theorem asked_s {p q : Nat} {h : IH} (J : Jar p q h) {m m2 : Nat} {gs os : List G} (ok : Ok m gs) (ok2 : Ok m2 os) (h1 : 1 ≤ gs.length) : ∃ h', JS p q h h' ∧ F_law_asked [.ref p, netD m gs, netD m2 os] h = .ok (.bl true) h' := by
  have hm := ok.hm
  have hn := ok.hn
  have wg := wt_gs ok
  have nl := netT_len ok
  have bs := bStr_n (n := m) (by omega) (h := h)
  have hl := head_len hm
  have g1 := gAdd_s (i := "signals ") (j := strN m) (h := h) (by rw [len1.2.2]; omega) (by have := (num_t (n := m) (by omega)).len; omega)
  have hs : gAdd (.str "signals ") (.str (strN m)) h = .ok (.str (headS m)) h := g1
  have cl : clDs h.length ((headS m :: gs.map lineS).map D.str) = true := clDs_map fun _ _ => by simp
  have cl1 : clDs h.length [D.str (headS m)] = true := by simp
  have tj : gJoin (.str "\n") [.fls ((headS m :: gs.map lineS).map D.str)] h = .ok (.str (netT m gs)) h := gJoin_f (net_sum ok)
  obtain ⟨r1, h2, _, b1, s1, e1⟩ := sip_s J 27 2
  obtain ⟨r2, h3, _, b2, s2, e2⟩ := sip_s s1.jar 28 3
  have b1 := b1 (by omega)
  have b2 := b2 (by omega)
  push_cast at e1 e2
  obtain ⟨pre, p1, p2⟩ := pre_at b1
  have pl : pre.length ≤ 1 := by
    rcases p1 with rfl | rfl
    · decide +kernel
    · rw [len1.1]; omega
  have fm := fMul_nl b2 (h := h3)
  have rl := rep_len3 b2
  have q1 : pre.length + (netT m gs).length ≤ 16777216 := by omega
  have q2 : (pre ++ netT m gs : Str).length + (repS "\n" (r2 : Int)).length ≤ 16777216 := by rw [Str.length_append]; omega
  have rd := read_network_s ok p1 b2 (h := h3)
  have nt := fun H => network_text_s ok (h := H)
  have sa := same_s (d := .tup [.str (netT m gs), netD m gs]) (by simp [plain_gs]) (by simp; omega) (h := h3)
  have s12 := s1.trans s2
  obtain ⟨h4, s3, e3⟩ := looks_s s12.jar ok h1
  obtain ⟨h5, s4, e4⟩ := run_s (s12.trans s3).jar ok ok2 h1
  have js := (s12.trans s3).trans s4
  refine ⟨h5, js, ?_⟩
  have gj : ∀ d, gc h (.ok d h5) = .ok d h5 := fun d => gc_js js
  have z0 : List.replicate m (D.int 0) = (List.replicate m (some 0)).map oD := by simp
  have zn : List.replicate m D.non = (List.replicate m (none : Option Nat)).map oD := by simp
  have m0 := fMul_tup (d := .int 0) (m := m) (by omega) (h := h5)
  have mn := fMul_tup (d := .non) (m := m) (by omega) (h := h5)
  have l0 : (List.replicate m (some 0)).length = m := by simp
  have ln : (List.replicate m (none : Option Nat)).length = m := by simp
  have lc0 := law_comes_s ok l0 (fin_run l0) (h := h5)
  change F_law_comes [netD m gs, .tup ((List.replicate m (some 0)).map oD)] h5 = .ok (.tup ((cm m gs (List.replicate m (some 0))).map oD)) h5 at lc0
  have hc0 : ∀ h : IH, Fcomes [netD m gs, .tup ((List.replicate m (some 0)).map oD)] h = .ok (.tup ((cm m gs (List.replicate m (some 0))).map oD)) h := fun h => comes_s ok l0 (fin_run l0)
  have hcn : ∀ h : IH, Fcomes [netD m gs, .tup ((List.replicate m (none : Option Nat)).map oD)] h = .ok (.tup ((List.replicate gs.length none).map oD)) h := fun h => by
    have z := comes_s ok ln (fin_run ln) (h := h)
    change Fcomes [netD m gs, .tup ((List.replicate m (none : Option Nat)).map oD)] h = .ok (.tup ((cm m gs (List.replicate m none)).map oD)) h at z
    rw [cm_none] at z
    exact z
  have clen := cm_len (gs := gs) l0
  have lt0 := latest_time_s hc0 (by omega) (h := h5)
  change Flatest_time [netD m gs, .tup ((List.replicate m (some 0)).map oD)] h5 = .ok (latD (cm m gs (List.replicate m (some 0)))) h5 at lt0
  generalize cm m gs (List.replicate m (some 0)) = c at lc0 hc0 lt0 clen
  have ltn := latest_time_s hcn (by simp; omega) (h := h5)
  rw [tms_none] at ltn
  have qn := quiet_s hcn (by simp; omega) (by simp; omega) (h := h5)
  have en : List.replicate m (none : Option Nat) ++ List.replicate gs.length none = List.replicate (m + gs.length) none := by simp
  rw [en, tms_none] at qn
  have cn := coming_s hcn (by simp; omega) (h := h5)
  rw [prs_none] at cn
  have sp0 : sP [] = [] := List.length_eq_zero_iff.mp (by simpa using (sP_perm []).length_eq)
  rw [sp0] at cn
  have sb := same_s (d := .tup [latD c, .non, .int 0, .tup []]) (by simp [plain_lat]) (by simp [wt_lat]) (h := h5)
  have et : c.filterMap (fun o => o.map fun t : Nat => D.int t) = nDs (tms c) := by
    unfold tms nDs
    rw [List.map_filterMap]
    rfl
  have lst : (if 0 < (tms c).length then gMax [.fls (nDs (tms c))] h5 else R.ok D.non h5) = .ok (latD c) h5 := by
    by_cases q : tms c = []
    · simp [q, latD]
    · have := List.length_pos_iff.mpr q
      simp [this, gMax_s q, latD, q]
  rw [← z0] at lc0 lt0
  rw [← zn] at ltn qn cn
  simp only [F_law_asked, S_law_asked, fnG_ap]
  simp [-bStr_s, -gAdd_str, bs, hs, fz_lst, cl1]
  rw [fz_map gs G.e (fun g => .str (lineS g)) rfl rfl (fun _ => trivial) (by omega)]
  · have q3 : 1 + gs.length ≤ 16777216 := by omega
    have e0 : (headS m :: gs.map lineS).map D.str = .str (headS m) :: gs.map (fun g => .str (lineS g)) := by simp
    rw [e0] at cl tj
    simp [q3, fz_lst, cl, tj, nt, e1, p2]
    simp [q1, e2, fm, q2, rd, sa, tru, e3, e4, m0, mn, lc0]
    rw [fz_filt c oD (fun o => o.map fun t : Nat => D.int t) rfl rfl (fun _ => trivial) (by omega), et]
    · simp [m0, lt0, ltn, qn, cn]
      rw [lst]
      simp [sb, gj]
    · intro o ho
      refine ⟨_, rfl, fun acc H hH => ?_⟩
      cases o <;> simp [isN]
    · rw [et]; exact cl_nDs
  · intro g hg
    refine ⟨_, rfl, fun acc H hH => ?_⟩
    have t := ok.gt hg
    have lo := line_ok t (h := H)
    have bd := bStr_n t.d (h := H)
    have e1 : [D.str g.w, D.str (strN g.d)] ++ g.o.map (fun k => D.str (strN k)) = (lineW g).map D.str := by simp [lineW]
    have cl2 : clDs H.length ((lineW g).map D.str) = true := clDs_map fun _ _ => by simp
    have q3 : g.o.length + 1 + 1 ≤ 16777216 := by have := t.n; omega
    simp [-bStr_s, setAll, G.e, bd, fz_lst]
    rw [fz_map g.o (fun k : Nat => D.int k) (fun k => .str (strN k)) rfl rfl (fun _ => trivial) (by have := t.n; omega)]
    · simp
      simp at e1
      rw [if_pos (by omega), e1, fz_lst cl2]
      simp
      rw [lo]
    · intro k hk
      refine ⟨_, rfl, fun acc H2 hH2 => ?_⟩
      simp [bStr_n (t.o k hk), -bStr_s]
    · exact clDs_map fun _ _ => by simp
  · exact clDs_map fun _ _ => by simp
end K89
namespace K89
open PySem L2 Fl
/-! ### the ring -/
def ringG : List G := [⟨false, [2], 1⟩, ⟨false, [1], 1⟩, ⟨true, [0, 1], 4⟩, ⟨true, [0, 4], 3⟩, ⟨false, [0, 3, 3], 0⟩]
theorem ring_ok : Ok 1 ringG := ⟨by decide, by decide, by decide, by decide, by decide, by decide, by decide⟩
theorem need_is {m : Nat} {gs : List G} (ok : Ok m gs) {S L : List Nat} (hS : ∀ k ∈ S, k < gs.length) (asc : L.Pairwise (· < ·)) (h1 : ∀ k ∈ S, k ∈ L) (h2 : ∀ j ∈ L, ∀ k ∈ blw m gs j, k ∈ L) (h3 : ∀ k ∈ L, Reach m gs S k) : need m gs S = L := by
  refine asc_uniq need_asc asc fun k => ?_
  rw [need_mem ok hS]
  refine ⟨fun r => ?_, h3 k⟩
  induction r with
  | base h => exact h1 _ h
  | step _ hk ih => exact h2 _ ih _ hk
theorem b0 : blw 1 ringG 0 = [1] := by decide
theorem b1 : blw 1 ringG 1 = [0] := by decide
theorem b2 : blw 1 ringG 2 = [0] := by decide
theorem b3 : blw 1 ringG 3 = [3] := by decide
theorem b4 : blw 1 ringG 4 = [2, 2] := by decide
theorem need_4 : need 1 ringG [4] = [0, 1, 2, 4] := by
  have r4 : Reach 1 ringG [4] 4 := .base (by decide)
  have r2 : Reach 1 ringG [4] 2 := .step r4 (by decide)
  have r0 : Reach 1 ringG [4] 0 := .step r2 (by decide)
  have r1 : Reach 1 ringG [4] 1 := .step r0 (by decide)
  refine need_is ring_ok (by decide) (by decide) (by decide) (by decide) fun k hk => ?_
  simp at hk
  rcases hk with rfl | rfl | rfl | rfl
  · exact r0
  · exact r1
  · exact r2
  · exact r4
theorem need_33 : need 1 ringG [3, 3] = [3] := need_is ring_ok (by decide) (by decide) (by decide) (by decide) fun k hk => by
  simp at hk
  subst hk
  exact .base (by decide)
theorem ring_loops : loops 1 ringG = [0, 1, 3] := by
  have n0 : need 1 ringG [1] = [0, 1] := need_is ring_ok (by decide) (by decide) (by decide) (by decide) fun k hk => by
    have r1 : Reach 1 ringG [1] 1 := .base (by decide)
    simp at hk
    rcases hk with rfl | rfl
    · exact .step r1 (by decide)
    · exact r1
  have n1 : need 1 ringG [0] = [0, 1] := need_is ring_ok (by decide) (by decide) (by decide) (by decide) fun k hk => by
    have r1 : Reach 1 ringG [0] 0 := .base (by decide)
    simp at hk
    rcases hk with rfl | rfl
    · exact r1
    · exact .step r1 (by decide)
  have n3 : need 1 ringG [3] = [3] := need_is ring_ok (by decide) (by decide) (by decide) (by decide) fun k hk => by
    simp at hk
    subst hk
    exact .base (by decide)
  have n4 : need 1 ringG [2, 2] = [0, 1, 2] := by
    have r2 : Reach 1 ringG [2, 2] 2 := .base (by decide)
    have r0 : Reach 1 ringG [2, 2] 0 := .step r2 (by decide)
    have r1 : Reach 1 ringG [2, 2] 1 := .step r0 (by decide)
    refine need_is ring_ok (by decide) (by decide) (by decide) (by decide) fun k hk => ?_
    simp at hk
    rcases hk with rfl | rfl | rfl
    · exact r0
    · exact r1
    · exact r2
  unfold loops
  have e : List.range ringG.length = [0, 1, 2, 3, 4] := by decide
  rw [e]
  simp only [List.filter_cons, List.filter_nil, b0, b1, b2, b3, b4, n0, n1, n3, n4]
  decide
theorem ring_cm : cm 1 ringG [some 5] = [none, none, some 9, some 8, some 9] := by
  have r : Run 1 ringG ([some 5] ++ List.replicate ringG.length none) [some 5, none, none, some 9, some 8, some 9] := by
    refine .step (t := 8) (k := 3) ?_ (.step (t := 9) (k := 2) ?_ (.step (t := 9) (k := 4) ?_ (.stop ?_)))
    · unfold LeastP; decide
    · unfold LeastP; decide
    · unfold LeastP; decide
    · decide
  rw [cm_is (ts := [some 5]) (by rfl) r]
  rfl
theorem sP_uniq : ∀ {a b : List (Nat × Nat)}, a.Perm b → a.Pairwise (fun p q => ple p q = true) → b.Pairwise (fun p q => ple p q = true) → a = b
  | [], b, p, _, _ => (p.symm.eq_nil).symm
  | x :: a, [], p, _, _ => absurd p.length_eq (by simp)
  | x :: a, y :: b, p, ha, hb => by
    obtain ⟨a1, a2⟩ := List.pairwise_cons.mp ha
    obtain ⟨b1, b2⟩ := List.pairwise_cons.mp hb
    have e : x = y := by
      have m1 : x ∈ y :: b := p.mem_iff.mp (List.mem_cons_self ..)
      have m2 : y ∈ x :: a := p.mem_iff.mpr (List.mem_cons_self ..)
      rcases List.mem_cons.mp m1 with e | m1
      · exact e
      · rcases List.mem_cons.mp m2 with e | m2
        · exact e.symm
        · have z1 := of_decide_eq_true (b1 x m1)
          have z2 := of_decide_eq_true (a1 y m2)
          exact Prod.ext (by omega) (by omega)
    subst e
    rw [sP_uniq (List.Perm.cons_inv p) a2 b2]
theorem ring_prs : sP (prs [none, none, some 9, some 8, some 9]) = [(8, 3), (9, 2), (9, 4)] := by
  have e : prs [none, none, some 9, some 8, some 9] = [(9, 2), (8, 3), (9, 4)] := by decide
  rw [e]
  refine sP_uniq ((sP_perm _).trans (List.Perm.swap ..)) (sP_srt _) (by decide)
theorem ring_rep : repT 1 5 3 = "signals 1 gates 5 loops 3" := by decide +kernel
theorem gc_ex {d : D} {H : IH} : ∃ h, gc [] (.ok d H) = .ok d h := by
  dsimp only [gc]
  split
  · exact ⟨_, rfl⟩
  · exact ⟨_, rfl⟩
def encN (p : Nat × List G) : D := netD p.1 p.2
theorem wide_ok {m : Nat} {gs : List G} (ok : Ok m gs) (h1 : 1 ≤ gs.length) : Ok m (gs ++ List.replicate (40 - gs.length) ⟨false, [m], 0⟩) := by
  have hn := ok.hn
  have len : (gs ++ List.replicate (40 - gs.length) (⟨false, [m], 0⟩ : G)).length = 40 := by simp; omega
  refine ⟨ok.hm, by omega, fun g hg k hk => ?_, fun g hg => ?_, ok.m1, fun g hg => ?_, fun g hg => ?_⟩
  · rw [len]
    rcases List.mem_append.mp hg with z | z
    · have := ok.op g z k hk; omega
    · rw [List.eq_of_mem_replicate z] at hk
      simp at hk
      omega
  · rcases List.mem_append.mp hg with z | z
    · exact ok.many g z
    · rw [List.eq_of_mem_replicate z]; simp
  · rcases List.mem_append.mp hg with z | z
    · exact ok.ne g z
    · rw [List.eq_of_mem_replicate z]; simp
  · rcases List.mem_append.mp hg with z | z
    · exact ok.dl g z
    · rw [List.eq_of_mem_replicate z]; simp
theorem rep_ok : Ok 1 (List.replicate 36 ⟨true, [0], 0⟩) := ⟨by decide, by decide, by decide, by decide, by decide, by decide, by decide⟩
theorem yes : ∀ ns : List Int, ns.length ≤ 63 → ∃ h, Flaw [.fls (ns.map D.int)] [] = .ok (.bl true) h := by
  intro ns hns
  obtain ⟨h0, _, J, e0⟩ := jar_s hns (h := [])
  simp only [List.length_nil, Nat.zero_add] at J e0
  obtain ⟨N, h1, N1, N2, s1, e1⟩ := draws_e encN (fun a k => by simp [encN, cl_gs]) (n := 1) (m := 0) (f := eB F_law_network (aCons (eV 1) (aCons (eC (.int 12)) aNil))) (e := [some (.fls (ns.map D.int)), some (.ref 1), none, none, none, none, none, none, none]) (x := 3)
    (P := fun p => Ok p.1 p.2 ∧ 1 ≤ p.2.length) (fun H i J2 => by
      obtain ⟨s, gs, h', a1, _, a2, a3, a4⟩ := network_s J2 (most := 12) (by omega) (by omega)
      push_cast at a4
      exact ⟨(s, gs), h', ⟨a1, a2⟩, a3, by simp [a4, encN]⟩) (JS.refl J) J 4 (by omega)
  simp only [Flaw, Slaw, fnG_ap]
  simp [e0]
  rw [e1]
  simp
  have Nl : ∀ i, i < 4 → ∃ m gs, N[i]? = some (m, gs) ∧ Ok m gs ∧ 1 ≤ gs.length := fun i hi => by
    have e := List.getElem?_eq_getElem (l := N) (i := i) (by omega)
    have := N2 _ (List.getElem_mem (l := N) (n := i) (by omega))
    exact ⟨_, _, e, this.1, this.2⟩
  refine for_rg (fun i e H => ∃ a4, e = [some (.fls (ns.map D.int)), some (.ref 1), some (.fls (N.map encN)), none, a4, none, none, none, none] ∧ Jar 1 0 H) (fun r => ∃ h, gc [] (endS (r.sq _)) = .ok (.bl true) h) ?_ ?_ ?_
  · rintro i e H hi ⟨a4, rfl, JH⟩
    refine ⟨trivial, _, rfl, .inl ?_⟩
    obtain ⟨m, gs, n1, ok, o1⟩ := Nl i hi
    have prev : ∃ m2 os, Ok m2 os ∧ fIy (.fls (N.map encN)) (.int ((i : Int) - 1)) H = .ok (netD m2 os) H := by
      by_cases q : i = 0
      · subst q
        obtain ⟨m2, os, n2, ok2, _⟩ := Nl 3 (by omega)
        refine ⟨m2, os, ok2, ?_⟩
        have al : atI (N.map encN) (-1) = some (netD m2 os) := by
          rw [atI_last (fun z => by rw [List.map_eq_nil_iff.mp z] at N1; cases N1), List.length_map, N1, List.getElem?_map, n2]
          rfl
        simp [al]
      · obtain ⟨m2, os, n2, ok2, _⟩ := Nl (i - 1) (by omega)
        refine ⟨m2, os, ok2, ?_⟩
        have ei : (i : Int) - 1 = ((i - 1 : Nat) : Int) := by omega
        rw [ei]
        simp [n2, encN]
    obtain ⟨m2, os, ok2, pv⟩ := prev
    obtain ⟨H', js, as⟩ := asked_s JH ok ok2 o1
    generalize hb : sIf _ _ _ _ _ = r
    simp at pv
    simp [n1, encN, pv, as, tru] at hb
    subst hb
    exact ⟨_, _, .inl rfl, _, rfl, js.jar⟩
  · rintro e H ⟨a4, rfl, JH⟩
    refine ⟨trivial, ?_⟩
    rw [sq_nx, sSeq_ap]
    generalize hr : sIf _ _ _ _ _ = r
    have hif : ∃ a5 a6 H', r = .nx [some (.fls (ns.map D.int)), some (.ref 1), some (.fls (N.map encN)), none, a4, a5, a6, none, none] H' ∧ Jar 1 0 H' := by
      obtain ⟨r1, h2, _, _, s2, e2⟩ := sip_s JH 29 7
      push_cast at e2
      by_cases q : r1 = 5
      · subst q
        obtain ⟨m, gs, h3, ok, _, o1, s3, e3⟩ := network_s s2.jar (most := 40) (by omega) (by omega)
        obtain ⟨m2, os, h4, ok2, _, o2, s4, e4⟩ := network_s s3.jar (most := 40) (by omega) (by omega)
        push_cast at e3 e4
        obtain ⟨h5, s5, e5⟩ := asked_s s4.jar ok ok2 o1
        have okw := wide_ok ok o1
        obtain ⟨h6, s6, e6⟩ := asked_s s5.jar okw ok (by simp; omega)
        have hn := ok.hn
        have ei : (40 : Int) - gs.length = ((40 - gs.length : Nat) : Int) := by omega
        have fm := fMul_tup (d := .tup [.str "last", .tup [.int m], .int 0]) (m := 40 - gs.length) (by omega) (h := h5)
        have ew : gs.map G.e ++ List.replicate (40 - gs.length) (D.tup [.str "last", .tup [.int m], .int 0]) = (gs ++ List.replicate (40 - gs.length) (⟨false, [m], 0⟩ : G)).map G.e := by
          simp [G.e, G.w]
        have q1 : gs.length + (40 - gs.length) ≤ 16777216 := by omega
        simp at e2
        simp [e2, e3, e4, e5, tru, ei, fm, q1] at hr
        rw [ew, e6] at hr
        simp [tru] at hr
        subst hr
        exact ⟨_, _, _, rfl, s6.jar⟩
      · have q2 : ¬ (r1 : Int) = 5 := by omega
        simp [e2, q, q2] at hr
        subst hr
        exact ⟨_, _, _, rfl, s2.jar⟩
    obtain ⟨a5, a6, H', rfl, J2⟩ := hif
    clear hr
    have er : netD 1 ringG = .tup [.int 1, .tup [.tup [.str "last", .tup [.int 2], .int 1], .tup [.str "last", .tup [.int 1], .int 1], .tup [.str "first", .tup [.int 0, .int 1], .int 4], .tup [.str "first", .tup [.int 0, .int 4], .int 3], .tup [.str "last", .tup [.int 0, .int 3, .int 3], .int 0]]] := rfl
    have t1 : ([some 5] : List (Option Nat)).length = 1 := rfl
    have gl := gates_in_loops_s ring_ok (h := H')
    rw [ring_loops] at gl
    have n4 := needed_for_s ring_ok (S := [4]) (by decide) (by decide) (.inr rfl) (h := H')
    rw [need_4] at n4
    have n33 := needed_for_s ring_ok (S := [3, 3]) (by decide) (by decide) (.inr rfl) (h := H')
    rw [need_33] at n33
    have u3 := users_of_s ring_ok (k := 3) (by decide) (h := H')
    have u4 := users_of_s ring_ok (k := 4) (by decide) (h := H')
    have f3 : (List.range ringG.length).filter (fun j => decide (3 ∈ ((ringG[j]?).map G.o).getD [])) = [4] := by decide
    have f4 : (List.range ringG.length).filter (fun j => decide (4 ∈ ((ringG[j]?).map G.o).getD [])) = [3] := by decide
    rw [f3] at u3
    rw [f4] at u4
    have hc : ∀ h : IH, Fcomes [netD 1 ringG, .tup (([some 5] : List (Option Nat)).map oD)] h = .ok (.tup (([none, none, some 9, some 8, some 9] : List (Option Nat)).map oD)) h := fun h => by
      have z := comes_s ring_ok t1 (fin_run t1) (h := h)
      change Fcomes [netD 1 ringG, .tup (([some 5] : List (Option Nat)).map oD)] h = .ok (.tup ((cm 1 ringG [some 5]).map oD)) h at z
      rw [ring_cm] at z
      exact z
    have lt := latest_time_s hc (by decide) (h := H')
    have qu := quiet_s hc (by decide) (by decide) (h := H')
    have co := coming_s hc (by decide) (h := H')
    rw [ring_prs] at co
    have rp := report_s ring_ok (h := H')
    rw [ring_loops] at rp
    have rp2 : Fnetwork_report [netD 1 ringG] H' = .ok (.str "signals 1 gates 5 loops 3") H' := by
      rw [rp]
      show R.ok (D.str (repT 1 5 3)) H' = _
      rw [ring_rep]
    have lt2 : Flatest_time [netD 1 ringG, .tup [.int 5]] H' = .ok (.int 9) H' := lt
    have qu2 : Fquiet_behind [netD 1 ringG, .tup [.int 5]] H' = .ok (.int 10) H' := qu
    have co2 : Fcoming [netD 1 ringG, .tup [.int 5]] H' = .ok (.tup [.tup [.int 8, .int 3], .tup [.int 9, .int 2], .tup [.int 9, .int 4]]) H' := co
    have hc2 : Fcomes [netD 1 ringG, .tup [.int 5]] H' = .ok (.tup [.non, .non, .int 9, .int 8, .int 9]) H' := hc H'
    have gl2 : Fgates_in_loops [netD 1 ringG] H' = .ok (.tup [.int 0, .int 1, .int 3]) H' := gl
    have n42 : Fneeded_for [netD 1 ringG, .tup [.int 4]] H' = .ok (.tup [.int 0, .int 1, .int 2, .int 4]) H' := n4
    have n332 : Fneeded_for [netD 1 ringG, .tup [.int 3, .int 3]] H' = .ok (.tup [.int 3]) H' := n33
    have u32 : Fusers_of [netD 1 ringG, .int 3] H' = .ok (.tup [.int 4]) H' := u3
    have u42 : Fusers_of [netD 1 ringG, .int 4] H' = .ok (.tup [.int 3]) H' := u4
    have s1 := same_s (d := .tup [.tup [.int 0, .int 1, .int 3], .tup [.int 0, .int 1, .int 2, .int 4], .tup [.int 4], .tup [.non, .non, .int 9, .int 8, .int 9]]) (by simp) (by simp) (h := H')
    have s2 := same_s (d := .tup [.int 9, .int 10, .str "signals 1 gates 5 loops 3", .tup [.int 3], .tup [.int 3], .tup [.tup [.int 8, .int 3], .tup [.int 9, .int 2], .tup [.int 9, .int 4]]]) (by simp) (by simp) (h := H')
    obtain ⟨h7, s7, e7⟩ := asked_s J2 ring_ok rep_ok (by decide)
    have fm : fMul (.tup [.tup [.str "first", .tup [.int 0], .int 0]]) (.int 36) H' = .ok (.tup (List.replicate 36 (.tup [.str "first", .tup [.int 0], .int 0]))) H' := fMul_tup (d := .tup [.str "first", .tup [.int 0], .int 0]) (m := 36) (by omega) (h := H')
    have e72 : F_law_asked [.ref 1, netD 1 ringG, .tup [.int 1, .tup (List.replicate 36 (.tup [.str "first", .tup [.int 0], .int 0]))]] H' = .ok (.bl true) h7 := by
      have e8 : netD 1 (List.replicate 36 (⟨true, [0], 0⟩ : G)) = .tup [.int 1, .tup (List.replicate 36 (.tup [.str "first", .tup [.int 0], .int 0]))] := by
        simp [netD, gsD, G.e, G.w]
      rw [← e8]
      exact e7
    generalize List.replicate 36 (D.tup [.str "first", .tup [.int 0], .int 0]) = RL at fm e72
    simp only [er] at lt2 qu2 co2 hc2 gl2 n42 n332 u32 u42 rp2 e72
    simp [gl2, n42, n332, u32, u42, hc2, lt2, qu2, co2, rp2, s1, s2, tru, fm, e72]
    exact gc_ex
  · exact ⟨none, rfl, s1.jar⟩
end K89
namespace K89
open PySem L2 Fl
theorem all_mk {l : PySem.W.OpenLaw} {w : World} {K : PySem.W.Frag} {h : Heap} {mg : Str → Option Value} {fa C0 C1 C2 C3 C4 C5 C6 I4 I5 I6 f0 f1 f2 f3 f4 f5 f6 f7 f8 f9 f10 f11 f12 f13 f14 f15 f16 f17 f18 f19 f20 f21 f22 f23 f24 f25 f26 f27 f28 f29 f30 f31 f32 f33 f34 f35 f36 f37 f38 f39 f40 f41 f42 f43 f44 : Addr} (X : K.In h) (G : h.Ns mainGlobals mg) (hfa : mg "law" = some (.ref fa))
    {nm4 q4 : Str} {N4 : Addr} {bs4 : List Value} {sn4 : List Str} {su4 : List Value} {ab4 : Bool} {co4 : Option Bool} {dd4 : Option Addr} {m04 m14 m24 m34 m54 : Option Value}
    {odI4 anI4 : Option Addr} {slI4 : Array (Option Value)} {ocI4 kVI4 dcI4 pmI4 cdI4 ctI4 : Value}
    {nm5 q5 : Str} {N5 : Addr} {bs5 : List Value} {sn5 : List Str} {su5 : List Value} {ab5 : Bool} {co5 : Option Bool} {dd5 : Option Addr} {m05 m15 m25 m35 m55 : Option Value}
    {odI5 anI5 : Option Addr} {slI5 : Array (Option Value)} {ocI5 kVI5 dcI5 pmI5 cdI5 ctI5 : Value}
    {nm6 q6 : Str} {N6 : Addr} {bs6 : List Value} {sn6 : List Str} {su6 : List Value} {ab6 : Bool} {co6 : Option Bool} {dd6 : Option Addr} {m06 m16 m26 m36 m56 : Option Value}
    {odI6 anI6 : Option Addr} {slI6 : Array (Option Value)} {ocI6 kVI6 dcI6 pmI6 cdI6 ctI6 : Value}
    {odF0 anF0 : Option Addr} {slF0 : Array (Option Value)} {ocF0 kVF0 dcF0 pmF0 cdF0 ctF0 : Value}
    {odF1 anF1 : Option Addr} {slF1 : Array (Option Value)} {ocF1 kVF1 dcF1 pmF1 cdF1 ctF1 : Value}
    {odF2 anF2 : Option Addr} {slF2 : Array (Option Value)} {ocF2 kVF2 dcF2 pmF2 cdF2 ctF2 : Value}
    {odF3 anF3 : Option Addr} {slF3 : Array (Option Value)} {ocF3 kVF3 dcF3 pmF3 cdF3 ctF3 : Value}
    {odF4 anF4 : Option Addr} {slF4 : Array (Option Value)} {ocF4 kVF4 dcF4 pmF4 cdF4 ctF4 : Value}
    {odF5 anF5 : Option Addr} {slF5 : Array (Option Value)} {ocF5 kVF5 dcF5 pmF5 cdF5 ctF5 : Value}
    {odF6 anF6 : Option Addr} {slF6 : Array (Option Value)} {ocF6 kVF6 dcF6 pmF6 cdF6 ctF6 : Value}
    {odF7 anF7 : Option Addr} {slF7 : Array (Option Value)} {ocF7 kVF7 dcF7 pmF7 cdF7 ctF7 : Value}
    {odF8 anF8 : Option Addr} {slF8 : Array (Option Value)} {ocF8 kVF8 dcF8 pmF8 cdF8 ctF8 : Value}
    {odF9 anF9 : Option Addr} {slF9 : Array (Option Value)} {ocF9 kVF9 dcF9 pmF9 cdF9 ctF9 : Value}
    {odF10 anF10 : Option Addr} {slF10 : Array (Option Value)} {ocF10 kVF10 dcF10 pmF10 cdF10 ctF10 : Value}
    {odF11 anF11 : Option Addr} {slF11 : Array (Option Value)} {ocF11 kVF11 dcF11 pmF11 cdF11 ctF11 : Value}
    {odF12 anF12 : Option Addr} {slF12 : Array (Option Value)} {ocF12 kVF12 dcF12 pmF12 cdF12 ctF12 : Value}
    {odF13 anF13 : Option Addr} {slF13 : Array (Option Value)} {ocF13 kVF13 dcF13 pmF13 cdF13 ctF13 : Value}
    {odF14 anF14 : Option Addr} {slF14 : Array (Option Value)} {ocF14 kVF14 dcF14 pmF14 cdF14 ctF14 : Value}
    {odF15 anF15 : Option Addr} {slF15 : Array (Option Value)} {ocF15 kVF15 dcF15 pmF15 cdF15 ctF15 : Value}
    {odF16 anF16 : Option Addr} {slF16 : Array (Option Value)} {ocF16 kVF16 dcF16 pmF16 cdF16 ctF16 : Value}
    {odF17 anF17 : Option Addr} {slF17 : Array (Option Value)} {ocF17 kVF17 dcF17 pmF17 cdF17 ctF17 : Value}
    {odF18 anF18 : Option Addr} {slF18 : Array (Option Value)} {ocF18 kVF18 dcF18 pmF18 cdF18 ctF18 : Value}
    {odF19 anF19 : Option Addr} {slF19 : Array (Option Value)} {ocF19 kVF19 dcF19 pmF19 cdF19 ctF19 : Value}
    {odF20 anF20 : Option Addr} {slF20 : Array (Option Value)} {ocF20 kVF20 dcF20 pmF20 cdF20 ctF20 : Value}
    {odF21 anF21 : Option Addr} {slF21 : Array (Option Value)} {ocF21 kVF21 dcF21 pmF21 cdF21 ctF21 : Value}
    {odF22 anF22 : Option Addr} {slF22 : Array (Option Value)} {ocF22 kVF22 dcF22 pmF22 cdF22 ctF22 : Value}
    {odF23 anF23 : Option Addr} {slF23 : Array (Option Value)} {ocF23 kVF23 dcF23 pmF23 cdF23 ctF23 : Value}
    {odF24 anF24 : Option Addr} {slF24 : Array (Option Value)} {ocF24 kVF24 dcF24 pmF24 cdF24 ctF24 : Value}
    {odF25 anF25 : Option Addr} {slF25 : Array (Option Value)} {ocF25 kVF25 dcF25 pmF25 cdF25 ctF25 : Value}
    {odF26 anF26 : Option Addr} {slF26 : Array (Option Value)} {ocF26 kVF26 dcF26 pmF26 cdF26 ctF26 : Value}
    {odF27 anF27 : Option Addr} {slF27 : Array (Option Value)} {ocF27 kVF27 dcF27 pmF27 cdF27 ctF27 : Value}
    {odF28 anF28 : Option Addr} {slF28 : Array (Option Value)} {ocF28 kVF28 dcF28 pmF28 cdF28 ctF28 : Value}
    {odF29 anF29 : Option Addr} {slF29 : Array (Option Value)} {ocF29 kVF29 dcF29 pmF29 cdF29 ctF29 : Value}
    {odF30 anF30 : Option Addr} {slF30 : Array (Option Value)} {ocF30 kVF30 dcF30 pmF30 cdF30 ctF30 : Value}
    {odF31 anF31 : Option Addr} {slF31 : Array (Option Value)} {ocF31 kVF31 dcF31 pmF31 cdF31 ctF31 : Value}
    {odF32 anF32 : Option Addr} {slF32 : Array (Option Value)} {ocF32 kVF32 dcF32 pmF32 cdF32 ctF32 : Value}
    {odF33 anF33 : Option Addr} {slF33 : Array (Option Value)} {ocF33 kVF33 dcF33 pmF33 cdF33 ctF33 : Value}
    {odF34 anF34 : Option Addr} {slF34 : Array (Option Value)} {ocF34 kVF34 dcF34 pmF34 cdF34 ctF34 : Value}
    {odF35 anF35 : Option Addr} {slF35 : Array (Option Value)} {ocF35 kVF35 dcF35 pmF35 cdF35 ctF35 : Value}
    {odF36 anF36 : Option Addr} {slF36 : Array (Option Value)} {ocF36 kVF36 dcF36 pmF36 cdF36 ctF36 : Value}
    {odF37 anF37 : Option Addr} {slF37 : Array (Option Value)} {ocF37 kVF37 dcF37 pmF37 cdF37 ctF37 : Value}
    {odF38 anF38 : Option Addr} {slF38 : Array (Option Value)} {ocF38 kVF38 dcF38 pmF38 cdF38 ctF38 : Value}
    {odF39 anF39 : Option Addr} {slF39 : Array (Option Value)} {ocF39 kVF39 dcF39 pmF39 cdF39 ctF39 : Value}
    {odF40 anF40 : Option Addr} {slF40 : Array (Option Value)} {ocF40 kVF40 dcF40 pmF40 cdF40 ctF40 : Value}
    {odF41 anF41 : Option Addr} {slF41 : Array (Option Value)} {ocF41 kVF41 dcF41 pmF41 cdF41 ctF41 : Value}
    {odF42 anF42 : Option Addr} {slF42 : Array (Option Value)} {ocF42 kVF42 dcF42 pmF42 cdF42 ctF42 : Value}
    {odF43 anF43 : Option Addr} {slF43 : Array (Option Value)} {ocF43 kVF43 dcF43 pmF43 cdF43 ctF43 : Value}
    {odF44 anF44 : Option Addr} {slF44 : Array (Option Value)} {ocF44 kVF44 dcF44 pmF44 cdF44 ctF44 : Value}
    {tk_FIGURES : Tok}
    {tk_MOST_DELAY : Tok}
    {tk_MOST_SIGNALS : Tok}
    {tk_MOST_GATES : Tok}
    {tk_MOST_OPERANDS : Tok}
    (b0 : PySem.W.nsIn K mainGlobals "LastError" = some (some (.ref C0)))
    (b1 : PySem.W.nsIn K mainGlobals "DataError" = some (some (.ref C1)))
    (b2 : PySem.W.nsIn K mainGlobals "CallError" = some (some (.ref C2)))
    (b3 : PySem.W.nsIn K mainGlobals "TextError" = some (some (.ref C3)))
    (b4 : PySem.W.nsIn K mainGlobals "BadNetwork" = some (some (.ref C4)))
    (x4 : K.lookup C4 = some (excClassObj nm4 q4 C4 N4 bs4 [.ref C1, .ref C0, .type "ValueError", .type "Exception", .type "BaseException", .type "object"] true sn4 su4 ab4 co4 dd4 m04 m14 m24 m34 m54 "ValueError.__new__"))
    (i4 : PySem.W.findIn K (.ref C4) "__init__" = some (some (.ref I4))) (t4 : PySem.W.typeIn K (.ref I4) = some (.type "function"))
    (lI4 : K.lookup I4 = some ⟨ocI4, odI4, .func (PySem.W.fnOf "__init__" "BadNetwork.__init__" (defArgs (inClass (top 5) 0)) (defBody (inClass (top 5) 0)) (defScope (inClass (top 5) 0)) .none kVI4 dcI4 pmI4 anI4 cdI4 ctI4), slI4⟩) (cI4 : PySem.W.codeIn K cdI4 "BadNetwork.__init__" = true) (kI4 : PySem.W.keepIn K (.ref I4) = true)
    (b5 : PySem.W.nsIn K mainGlobals "BadStep" = some (some (.ref C5)))
    (x5 : K.lookup C5 = some (excClassObj nm5 q5 C5 N5 bs5 [.ref C2, .ref C0, .type "ValueError", .type "Exception", .type "BaseException", .type "object"] true sn5 su5 ab5 co5 dd5 m05 m15 m25 m35 m55 "ValueError.__new__"))
    (i5 : PySem.W.findIn K (.ref C5) "__init__" = some (some (.ref I5))) (t5 : PySem.W.typeIn K (.ref I5) = some (.type "function"))
    (lI5 : K.lookup I5 = some ⟨ocI5, odI5, .func (PySem.W.fnOf "__init__" "BadStep.__init__" (defArgs (inClass (top 6) 0)) (defBody (inClass (top 6) 0)) (defScope (inClass (top 6) 0)) .none kVI5 dcI5 pmI5 anI5 cdI5 ctI5), slI5⟩) (cI5 : PySem.W.codeIn K cdI5 "BadStep.__init__" = true) (kI5 : PySem.W.keepIn K (.ref I5) = true)
    (b6 : PySem.W.nsIn K mainGlobals "BadText" = some (some (.ref C6)))
    (x6 : K.lookup C6 = some (excClassObj nm6 q6 C6 N6 bs6 [.ref C3, .ref C0, .type "ValueError", .type "Exception", .type "BaseException", .type "object"] true sn6 su6 ab6 co6 dd6 m06 m16 m26 m36 m56 "ValueError.__new__"))
    (i6 : PySem.W.findIn K (.ref C6) "__init__" = some (some (.ref I6))) (t6 : PySem.W.typeIn K (.ref I6) = some (.type "function"))
    (lI6 : K.lookup I6 = some ⟨ocI6, odI6, .func (PySem.W.fnOf "__init__" "BadText.__init__" (defArgs (inClass (top 7) 0)) (defBody (inClass (top 7) 0)) (defScope (inClass (top 7) 0)) .none kVI6 dcI6 pmI6 anI6 cdI6 ctI6), slI6⟩) (cI6 : PySem.W.codeIn K cdI6 "BadText.__init__" = true) (kI6 : PySem.W.keepIn K (.ref I6) = true)
    (a0 : PySem.W.nsIn K mainGlobals "is_whole" = some (some (.ref f0)))
    (lF0 : K.lookup f0 = some ⟨ocF0, odF0, .func (PySem.W.fnOf "is_whole" "is_whole" (defArgs (top 10)) (defBody (top 10)) (defScope (top 10)) .none kVF0 dcF0 pmF0 anF0 cdF0 ctF0), slF0⟩) (cF0 : PySem.W.codeIn K cdF0 "is_whole" = true) (kF0 : PySem.W.keepIn K (.ref f0) = true)
    (a1 : PySem.W.nsIn K mainGlobals "is_number" = some (some (.ref f1)))
    (lF1 : K.lookup f1 = some ⟨ocF1, odF1, .func (PySem.W.fnOf "is_number" "is_number" (defArgs (top 11)) (defBody (top 11)) (defScope (top 11)) .none kVF1 dcF1 pmF1 anF1 cdF1 ctF1), slF1⟩) (cF1 : PySem.W.codeIn K cdF1 "is_number" = true) (kF1 : PySem.W.keepIn K (.ref f1) = true)
    (a2 : PySem.W.nsIn K mainGlobals "is_below" = some (some (.ref f2)))
    (lF2 : K.lookup f2 = some ⟨ocF2, odF2, .func (PySem.W.fnOf "is_below" "is_below" (defArgs (top 12)) (defBody (top 12)) (defScope (top 12)) .none kVF2 dcF2 pmF2 anF2 cdF2 ctF2), slF2⟩) (cF2 : PySem.W.codeIn K cdF2 "is_below" = true) (kF2 : PySem.W.keepIn K (.ref f2) = true)
    (a3 : PySem.W.nsIn K mainGlobals "is_row" = some (some (.ref f3)))
    (lF3 : K.lookup f3 = some ⟨ocF3, odF3, .func (PySem.W.fnOf "is_row" "is_row" (defArgs (top 13)) (defBody (top 13)) (defScope (top 13)) .none kVF3 dcF3 pmF3 anF3 cdF3 ctF3), slF3⟩) (cF3 : PySem.W.codeIn K cdF3 "is_row" = true) (kF3 : PySem.W.keepIn K (.ref f3) = true)
    (a4 : PySem.W.nsIn K mainGlobals "only_signs" = some (some (.ref f4)))
    (lF4 : K.lookup f4 = some ⟨ocF4, odF4, .func (PySem.W.fnOf "only_signs" "only_signs" (defArgs (top 14)) (defBody (top 14)) (defScope (top 14)) .none kVF4 dcF4 pmF4 anF4 cdF4 ctF4), slF4⟩) (cF4 : PySem.W.codeIn K cdF4 "only_signs" = true) (kF4 : PySem.W.keepIn K (.ref f4) = true)
    (a5 : PySem.W.nsIn K mainGlobals "written_number" = some (some (.ref f5)))
    (lF5 : K.lookup f5 = some ⟨ocF5, odF5, .func (PySem.W.fnOf "written_number" "written_number" (defArgs (top 15)) (defBody (top 15)) (defScope (top 15)) .none kVF5 dcF5 pmF5 anF5 cdF5 ctF5), slF5⟩) (cF5 : PySem.W.codeIn K cdF5 "written_number" = true) (kF5 : PySem.W.keepIn K (.ref f5) = true)
    (a6 : PySem.W.nsIn K mainGlobals "lines_of" = some (some (.ref f6)))
    (lF6 : K.lookup f6 = some ⟨ocF6, odF6, .func (PySem.W.fnOf "lines_of" "lines_of" (defArgs (top 16)) (defBody (top 16)) (defScope (top 16)) .none kVF6 dcF6 pmF6 anF6 cdF6 ctF6), slF6⟩) (cF6 : PySem.W.codeIn K cdF6 "lines_of" = true) (kF6 : PySem.W.keepIn K (.ref f6) = true)
    (a7 : PySem.W.nsIn K mainGlobals "line_behind" = some (some (.ref f7)))
    (lF7 : K.lookup f7 = some ⟨ocF7, odF7, .func (PySem.W.fnOf "line_behind" "line_behind" (defArgs (top 17)) (defBody (top 17)) (defScope (top 17)) .none kVF7 dcF7 pmF7 anF7 cdF7 ctF7), slF7⟩) (cF7 : PySem.W.codeIn K cdF7 "line_behind" = true) (kF7 : PySem.W.keepIn K (.ref f7) = true)
    (a8 : PySem.W.nsIn K mainGlobals "spaced_words" = some (some (.ref f8)))
    (lF8 : K.lookup f8 = some ⟨ocF8, odF8, .func (PySem.W.fnOf "spaced_words" "spaced_words" (defArgs (top 18)) (defBody (top 18)) (defScope (top 18)) .none kVF8 dcF8 pmF8 anF8 cdF8 ctF8), slF8⟩) (cF8 : PySem.W.codeIn K cdF8 "spaced_words" = true) (kF8 : PySem.W.keepIn K (.ref f8) = true)
    (a9 : PySem.W.nsIn K mainGlobals "numbered_words" = some (some (.ref f9)))
    (lF9 : K.lookup f9 = some ⟨ocF9, odF9, .func (PySem.W.fnOf "numbered_words" "numbered_words" (defArgs (top 19)) (defBody (top 19)) (defScope (top 19)) .none kVF9 dcF9 pmF9 anF9 cdF9 ctF9), slF9⟩) (cF9 : PySem.W.codeIn K cdF9 "numbered_words" = true) (kF9 : PySem.W.keepIn K (.ref f9) = true)
    (a10 : PySem.W.nsIn K mainGlobals "time_by" = some (some (.ref f10)))
    (lF10 : K.lookup f10 = some ⟨ocF10, odF10, .func (PySem.W.fnOf "time_by" "time_by" (defArgs (top 21)) (defBody (top 21)) (defScope (top 21)) .none kVF10 dcF10 pmF10 anF10 cdF10 ctF10), slF10⟩) (cF10 : PySem.W.codeIn K cdF10 "time_by" = true) (kF10 : PySem.W.keepIn K (.ref f10) = true)
    (a11 : PySem.W.nsIn K mainGlobals "comes" = some (some (.ref f11)))
    (lF11 : K.lookup f11 = some ⟨ocF11, odF11, .func (PySem.W.fnOf "comes" "comes" (defArgs (top 22)) (defBody (top 22)) (defScope (top 22)) .none kVF11 dcF11 pmF11 anF11 cdF11 ctF11), slF11⟩) (cF11 : PySem.W.codeIn K cdF11 "comes" = true) (kF11 : PySem.W.keepIn K (.ref f11) = true)
    (a12 : PySem.W.nsIn K mainGlobals "coming" = some (some (.ref f12)))
    (lF12 : K.lookup f12 = some ⟨ocF12, odF12, .func (PySem.W.fnOf "coming" "coming" (defArgs (top 23)) (defBody (top 23)) (defScope (top 23)) .none kVF12 dcF12 pmF12 anF12 cdF12 ctF12), slF12⟩) (cF12 : PySem.W.codeIn K cdF12 "coming" = true) (kF12 : PySem.W.keepIn K (.ref f12) = true)
    (a13 : PySem.W.nsIn K mainGlobals "users_of" = some (some (.ref f13)))
    (lF13 : K.lookup f13 = some ⟨ocF13, odF13, .func (PySem.W.fnOf "users_of" "users_of" (defArgs (top 25)) (defBody (top 25)) (defScope (top 25)) .none kVF13 dcF13 pmF13 anF13 cdF13 ctF13), slF13⟩) (cF13 : PySem.W.codeIn K cdF13 "users_of" = true) (kF13 : PySem.W.keepIn K (.ref f13) = true)
    (a14 : PySem.W.nsIn K mainGlobals "gates_below" = some (some (.ref f14)))
    (lF14 : K.lookup f14 = some ⟨ocF14, odF14, .func (PySem.W.fnOf "gates_below" "gates_below" (defArgs (top 26)) (defBody (top 26)) (defScope (top 26)) .none kVF14 dcF14 pmF14 anF14 cdF14 ctF14), slF14⟩) (cF14 : PySem.W.codeIn K cdF14 "gates_below" = true) (kF14 : PySem.W.keepIn K (.ref f14) = true)
    (a15 : PySem.W.nsIn K mainGlobals "needed_for" = some (some (.ref f15)))
    (lF15 : K.lookup f15 = some ⟨ocF15, odF15, .func (PySem.W.fnOf "needed_for" "needed_for" (defArgs (top 27)) (defBody (top 27)) (defScope (top 27)) .none kVF15 dcF15 pmF15 anF15 cdF15 ctF15), slF15⟩) (cF15 : PySem.W.codeIn K cdF15 "needed_for" = true) (kF15 : PySem.W.keepIn K (.ref f15) = true)
    (a16 : PySem.W.nsIn K mainGlobals "gates_in_loops" = some (some (.ref f16)))
    (lF16 : K.lookup f16 = some ⟨ocF16, odF16, .func (PySem.W.fnOf "gates_in_loops" "gates_in_loops" (defArgs (top 28)) (defBody (top 28)) (defScope (top 28)) .none kVF16 dcF16 pmF16 anF16 cdF16 ctF16), slF16⟩) (cF16 : PySem.W.codeIn K cdF16 "gates_in_loops" = true) (kF16 : PySem.W.keepIn K (.ref f16) = true)
    (a17 : PySem.W.nsIn K mainGlobals "latest_time" = some (some (.ref f17)))
    (lF17 : K.lookup f17 = some ⟨ocF17, odF17, .func (PySem.W.fnOf "latest_time" "latest_time" (defArgs (top 29)) (defBody (top 29)) (defScope (top 29)) .none kVF17 dcF17 pmF17 anF17 cdF17 ctF17), slF17⟩) (cF17 : PySem.W.codeIn K cdF17 "latest_time" = true) (kF17 : PySem.W.keepIn K (.ref f17) = true)
    (a18 : PySem.W.nsIn K mainGlobals "is_gate" = some (some (.ref f18)))
    (lF18 : K.lookup f18 = some ⟨ocF18, odF18, .func (PySem.W.fnOf "is_gate" "is_gate" (defArgs (top 35)) (defBody (top 35)) (defScope (top 35)) .none kVF18 dcF18 pmF18 anF18 cdF18 ctF18), slF18⟩) (cF18 : PySem.W.codeIn K cdF18 "is_gate" = true) (kF18 : PySem.W.keepIn K (.ref f18) = true)
    (a19 : PySem.W.nsIn K mainGlobals "check_network" = some (some (.ref f19)))
    (lF19 : K.lookup f19 = some ⟨ocF19, odF19, .func (PySem.W.fnOf "check_network" "check_network" (defArgs (top 36)) (defBody (top 36)) (defScope (top 36)) .none kVF19 dcF19 pmF19 anF19 cdF19 ctF19), slF19⟩) (cF19 : PySem.W.codeIn K cdF19 "check_network" = true) (kF19 : PySem.W.keepIn K (.ref f19) = true)
    (a20 : PySem.W.nsIn K mainGlobals "is_network" = some (some (.ref f20)))
    (lF20 : K.lookup f20 = some ⟨ocF20, odF20, .func (PySem.W.fnOf "is_network" "is_network" (defArgs (top 37)) (defBody (top 37)) (defScope (top 37)) .none kVF20 dcF20 pmF20 anF20 cdF20 ctF20), slF20⟩) (cF20 : PySem.W.codeIn K cdF20 "is_network" = true) (kF20 : PySem.W.keepIn K (.ref f20) = true)
    (a21 : PySem.W.nsIn K mainGlobals "renumbered" = some (some (.ref f21)))
    (lF21 : K.lookup f21 = some ⟨ocF21, odF21, .func (PySem.W.fnOf "renumbered" "renumbered" (defArgs (top 39)) (defBody (top 39)) (defScope (top 39)) .none kVF21 dcF21 pmF21 anF21 cdF21 ctF21), slF21⟩) (cF21 : PySem.W.codeIn K cdF21 "renumbered" = true) (kF21 : PySem.W.keepIn K (.ref f21) = true)
    (a22 : PySem.W.nsIn K mainGlobals "beside_networks" = some (some (.ref f22)))
    (lF22 : K.lookup f22 = some ⟨ocF22, odF22, .func (PySem.W.fnOf "beside_networks" "beside_networks" (defArgs (top 40)) (defBody (top 40)) (defScope (top 40)) .none kVF22 dcF22 pmF22 anF22 cdF22 ctF22), slF22⟩) (cF22 : PySem.W.codeIn K cdF22 "beside_networks" = true) (kF22 : PySem.W.keepIn K (.ref f22) = true)
    (a23 : PySem.W.nsIn K mainGlobals "trimmed_network" = some (some (.ref f23)))
    (lF23 : K.lookup f23 = some ⟨ocF23, odF23, .func (PySem.W.fnOf "trimmed_network" "trimmed_network" (defArgs (top 41)) (defBody (top 41)) (defScope (top 41)) .none kVF23 dcF23 pmF23 anF23 cdF23 ctF23), slF23⟩) (cF23 : PySem.W.codeIn K cdF23 "trimmed_network" = true) (kF23 : PySem.W.keepIn K (.ref f23) = true)
    (a24 : PySem.W.nsIn K mainGlobals "network_text" = some (some (.ref f24)))
    (lF24 : K.lookup f24 = some ⟨ocF24, odF24, .func (PySem.W.fnOf "network_text" "network_text" (defArgs (top 43)) (defBody (top 43)) (defScope (top 43)) .none kVF24 dcF24 pmF24 anF24 cdF24 ctF24), slF24⟩) (cF24 : PySem.W.codeIn K cdF24 "network_text" = true) (kF24 : PySem.W.keepIn K (.ref f24) = true)
    (a25 : PySem.W.nsIn K mainGlobals "numbers_of" = some (some (.ref f25)))
    (lF25 : K.lookup f25 = some ⟨ocF25, odF25, .func (PySem.W.fnOf "numbers_of" "numbers_of" (defArgs (top 44)) (defBody (top 44)) (defScope (top 44)) .none kVF25 dcF25 pmF25 anF25 cdF25 ctF25), slF25⟩) (cF25 : PySem.W.codeIn K cdF25 "numbers_of" = true) (kF25 : PySem.W.keepIn K (.ref f25) = true)
    (a26 : PySem.W.nsIn K mainGlobals "read_network" = some (some (.ref f26)))
    (lF26 : K.lookup f26 = some ⟨ocF26, odF26, .func (PySem.W.fnOf "read_network" "read_network" (defArgs (top 45)) (defBody (top 45)) (defScope (top 45)) .none kVF26 dcF26 pmF26 anF26 cdF26 ctF26), slF26⟩) (cF26 : PySem.W.codeIn K cdF26 "read_network" = true) (kF26 : PySem.W.keepIn K (.ref f26) = true)
    (a27 : PySem.W.nsIn K mainGlobals "network_report" = some (some (.ref f27)))
    (lF27 : K.lookup f27 = some ⟨ocF27, odF27, .func (PySem.W.fnOf "network_report" "network_report" (defArgs (top 47)) (defBody (top 47)) (defScope (top 47)) .none kVF27 dcF27 pmF27 anF27 cdF27 ctF27), slF27⟩) (cF27 : PySem.W.codeIn K cdF27 "network_report" = true) (kF27 : PySem.W.keepIn K (.ref f27) = true)
    (a28 : PySem.W.nsIn K mainGlobals "quiet_behind" = some (some (.ref f28)))
    (lF28 : K.lookup f28 = some ⟨ocF28, odF28, .func (PySem.W.fnOf "quiet_behind" "quiet_behind" (defArgs (top 49)) (defBody (top 49)) (defScope (top 49)) .none kVF28 dcF28 pmF28 anF28 cdF28 ctF28), slF28⟩) (cF28 : PySem.W.codeIn K cdF28 "quiet_behind" = true) (kF28 : PySem.W.keepIn K (.ref f28) = true)
    (a29 : PySem.W.nsIn K mainGlobals "_law_jar" = some (some (.ref f29)))
    (lF29 : K.lookup f29 = some ⟨ocF29, odF29, .func (PySem.W.fnOf "_law_jar" "_law_jar" (defArgs (top 51)) (defBody (top 51)) (defScope (top 51)) .none kVF29 dcF29 pmF29 anF29 cdF29 ctF29), slF29⟩) (cF29 : PySem.W.codeIn K cdF29 "_law_jar" = true) (kF29 : PySem.W.keepIn K (.ref f29) = true)
    (a30 : PySem.W.nsIn K mainGlobals "_law_sip" = some (some (.ref f30)))
    (lF30 : K.lookup f30 = some ⟨ocF30, odF30, .func (PySem.W.fnOf "_law_sip" "_law_sip" (defArgs (top 52)) (defBody (top 52)) (defScope (top 52)) .none kVF30 dcF30 pmF30 anF30 cdF30 ctF30), slF30⟩) (cF30 : PySem.W.codeIn K cdF30 "_law_sip" = true) (kF30 : PySem.W.keepIn K (.ref f30) = true)
    (a31 : PySem.W.nsIn K mainGlobals "_law_same" = some (some (.ref f31)))
    (lF31 : K.lookup f31 = some ⟨ocF31, odF31, .func (PySem.W.fnOf "_law_same" "_law_same" (defArgs (top 53)) (defBody (top 53)) (defScope (top 53)) .none kVF31 dcF31 pmF31 anF31 cdF31 ctF31), slF31⟩) (cF31 : PySem.W.codeIn K cdF31 "_law_same" = true) (kF31 : PySem.W.keepIn K (.ref f31) = true)
    (a32 : PySem.W.nsIn K mainGlobals "_law_comes" = some (some (.ref f32)))
    (lF32 : K.lookup f32 = some ⟨ocF32, odF32, .func (PySem.W.fnOf "_law_comes" "_law_comes" (defArgs (top 54)) (defBody (top 54)) (defScope (top 54)) .none kVF32 dcF32 pmF32 anF32 cdF32 ctF32), slF32⟩) (cF32 : PySem.W.codeIn K cdF32 "_law_comes" = true) (kF32 : PySem.W.keepIn K (.ref f32) = true)
    (a33 : PySem.W.nsIn K mainGlobals "_law_gate" = some (some (.ref f33)))
    (lF33 : K.lookup f33 = some ⟨ocF33, odF33, .func (PySem.W.fnOf "_law_gate" "_law_gate" (defArgs (top 55)) (defBody (top 55)) (defScope (top 55)) .none kVF33 dcF33 pmF33 anF33 cdF33 ctF33), slF33⟩) (cF33 : PySem.W.codeIn K cdF33 "_law_gate" = true) (kF33 : PySem.W.keepIn K (.ref f33) = true)
    (a34 : PySem.W.nsIn K mainGlobals "_law_network" = some (some (.ref f34)))
    (lF34 : K.lookup f34 = some ⟨ocF34, odF34, .func (PySem.W.fnOf "_law_network" "_law_network" (defArgs (top 56)) (defBody (top 56)) (defScope (top 56)) .none kVF34 dcF34 pmF34 anF34 cdF34 ctF34), slF34⟩) (cF34 : PySem.W.codeIn K cdF34 "_law_network" = true) (kF34 : PySem.W.keepIn K (.ref f34) = true)
    (a35 : PySem.W.nsIn K mainGlobals "_law_needed" = some (some (.ref f35)))
    (lF35 : K.lookup f35 = some ⟨ocF35, odF35, .func (PySem.W.fnOf "_law_needed" "_law_needed" (defArgs (top 57)) (defBody (top 57)) (defScope (top 57)) .none kVF35 dcF35 pmF35 anF35 cdF35 ctF35), slF35⟩) (cF35 : PySem.W.codeIn K cdF35 "_law_needed" = true) (kF35 : PySem.W.keepIn K (.ref f35) = true)
    (a36 : PySem.W.nsIn K mainGlobals "_law_loops" = some (some (.ref f36)))
    (lF36 : K.lookup f36 = some ⟨ocF36, odF36, .func (PySem.W.fnOf "_law_loops" "_law_loops" (defArgs (top 58)) (defBody (top 58)) (defScope (top 58)) .none kVF36 dcF36 pmF36 anF36 cdF36 ctF36), slF36⟩) (cF36 : PySem.W.codeIn K cdF36 "_law_loops" = true) (kF36 : PySem.W.keepIn K (.ref f36) = true)
    (a37 : PySem.W.nsIn K mainGlobals "_law_trimmed" = some (some (.ref f37)))
    (lF37 : K.lookup f37 = some ⟨ocF37, odF37, .func (PySem.W.fnOf "_law_trimmed" "_law_trimmed" (defArgs (top 59)) (defBody (top 59)) (defScope (top 59)) .none kVF37 dcF37 pmF37 anF37 cdF37 ctF37), slF37⟩) (cF37 : PySem.W.codeIn K cdF37 "_law_trimmed" = true) (kF37 : PySem.W.keepIn K (.ref f37) = true)
    (a38 : PySem.W.nsIn K mainGlobals "_law_users" = some (some (.ref f38)))
    (lF38 : K.lookup f38 = some ⟨ocF38, odF38, .func (PySem.W.fnOf "_law_users" "_law_users" (defArgs (top 60)) (defBody (top 60)) (defScope (top 60)) .none kVF38 dcF38 pmF38 anF38 cdF38 ctF38), slF38⟩) (cF38 : PySem.W.codeIn K cdF38 "_law_users" = true) (kF38 : PySem.W.keepIn K (.ref f38) = true)
    (a39 : PySem.W.nsIn K mainGlobals "_law_beside" = some (some (.ref f39)))
    (lF39 : K.lookup f39 = some ⟨ocF39, odF39, .func (PySem.W.fnOf "_law_beside" "_law_beside" (defArgs (top 61)) (defBody (top 61)) (defScope (top 61)) .none kVF39 dcF39 pmF39 anF39 cdF39 ctF39), slF39⟩) (cF39 : PySem.W.codeIn K cdF39 "_law_beside" = true) (kF39 : PySem.W.keepIn K (.ref f39) = true)
    (a40 : PySem.W.nsIn K mainGlobals "_law_times" = some (some (.ref f40)))
    (lF40 : K.lookup f40 = some ⟨ocF40, odF40, .func (PySem.W.fnOf "_law_times" "_law_times" (defArgs (top 62)) (defBody (top 62)) (defScope (top 62)) .none kVF40 dcF40 pmF40 anF40 cdF40 ctF40), slF40⟩) (cF40 : PySem.W.codeIn K cdF40 "_law_times" = true) (kF40 : PySem.W.keepIn K (.ref f40) = true)
    (a41 : PySem.W.nsIn K mainGlobals "_law_looks" = some (some (.ref f41)))
    (lF41 : K.lookup f41 = some ⟨ocF41, odF41, .func (PySem.W.fnOf "_law_looks" "_law_looks" (defArgs (top 63)) (defBody (top 63)) (defScope (top 63)) .none kVF41 dcF41 pmF41 anF41 cdF41 ctF41), slF41⟩) (cF41 : PySem.W.codeIn K cdF41 "_law_looks" = true) (kF41 : PySem.W.keepIn K (.ref f41) = true)
    (a42 : PySem.W.nsIn K mainGlobals "_law_run" = some (some (.ref f42)))
    (lF42 : K.lookup f42 = some ⟨ocF42, odF42, .func (PySem.W.fnOf "_law_run" "_law_run" (defArgs (top 64)) (defBody (top 64)) (defScope (top 64)) .none kVF42 dcF42 pmF42 anF42 cdF42 ctF42), slF42⟩) (cF42 : PySem.W.codeIn K cdF42 "_law_run" = true) (kF42 : PySem.W.keepIn K (.ref f42) = true)
    (a43 : PySem.W.nsIn K mainGlobals "_law_asked" = some (some (.ref f43)))
    (lF43 : K.lookup f43 = some ⟨ocF43, odF43, .func (PySem.W.fnOf "_law_asked" "_law_asked" (defArgs (top 65)) (defBody (top 65)) (defScope (top 65)) .none kVF43 dcF43 pmF43 anF43 cdF43 ctF43), slF43⟩) (cF43 : PySem.W.codeIn K cdF43 "_law_asked" = true) (kF43 : PySem.W.keepIn K (.ref f43) = true)
    (a44 : PySem.W.nsIn K mainGlobals "law" = some (some (.ref f44)))
    (lF44 : K.lookup f44 = some ⟨ocF44, odF44, .func (PySem.W.fnOf "law" "law" (defArgs (top 66)) (defBody (top 66)) (defScope (top 66)) .none kVF44 dcF44 pmF44 anF44 cdF44 ctF44), slF44⟩) (cF44 : PySem.W.codeIn K cdF44 "law" = true) (kF44 : PySem.W.keepIn K (.ref f44) = true)
    (n_abs : PySem.W.nsIn K mainGlobals "abs" = some none)
    (n_bool : PySem.W.nsIn K mainGlobals "bool" = some none)
    (n_dict : PySem.W.nsIn K mainGlobals "dict" = some none)
    (n_int : PySem.W.nsIn K mainGlobals "int" = some none)
    (n_isinstance : PySem.W.nsIn K mainGlobals "isinstance" = some none)
    (n_len : PySem.W.nsIn K mainGlobals "len" = some none)
    (n_list : PySem.W.nsIn K mainGlobals "list" = some none)
    (n_max : PySem.W.nsIn K mainGlobals "max" = some none)
    (n_min : PySem.W.nsIn K mainGlobals "min" = some none)
    (n_range : PySem.W.nsIn K mainGlobals "range" = some none)
    (n_set : PySem.W.nsIn K mainGlobals "set" = some none)
    (n_sorted : PySem.W.nsIn K mainGlobals "sorted" = some none)
    (n_str : PySem.W.nsIn K mainGlobals "str" = some none)
    (n_tuple : PySem.W.nsIn K mainGlobals "tuple" = some none)
    (g_FIGURES : PySem.W.nsIn K mainGlobals "FIGURES" = some (some (.str "0123456789" tk_FIGURES)))
    (g_MOST_DELAY : PySem.W.nsIn K mainGlobals "MOST_DELAY" = some (some (.int 2000 tk_MOST_DELAY)))
    (g_MOST_SIGNALS : PySem.W.nsIn K mainGlobals "MOST_SIGNALS" = some (some (.int 6 tk_MOST_SIGNALS)))
    (g_MOST_GATES : PySem.W.nsIn K mainGlobals "MOST_GATES" = some (some (.int 40 tk_MOST_GATES)))
    (g_MOST_OPERANDS : PySem.W.nsIn K mainGlobals "MOST_OPERANDS" = some (some (.int 60 tk_MOST_OPERANDS)))
    (fam : famB K (fun n => [C0, C1, C2, C3, C4, C5, C6].getD n 0) NC upC = true)
    (no_at : (List.range NC).all (fun c => decide (PySem.W.findIn K (.ref ((fun n => [C0, C1, C2, C3, C4, C5, C6].getD n 0) c)) "at" = some none)) = true)
    (no_line : (List.range NC).all (fun c => decide (PySem.W.findIn K (.ref ((fun n => [C0, C1, C2, C3, C4, C5, C6].getD n 0) c)) "line" = some none)) = true)
    (no_word : (List.range NC).all (fun c => decide (PySem.W.findIn K (.ref ((fun n => [C0, C1, C2, C3, C4, C5, C6].getD n 0) c)) "word" = some none)) = true)
    : ∃ fd : FuncData, (∀ (s : Shared) (v : Value), BindsTo s fd ⟨[v], []⟩ [("script", v)]) ∧ ∀ base : Heap, K.In base → base.Ns mainGlobals mg → FnOk l.prog w K mg base (L2.CX l.prog w) 9 fa fd ["script"] (spLaw K) := by
  have e : f44 = fa := (Value.ref.inj (Option.some.inj (hfa.symm.trans (PySem.W.mg_of X G a44)))).symm
  subst e
  let fd0 : FuncData := (PySem.W.fnOf "law" "law" (defArgs (top 66)) (defBody (top 66)) (defScope (top 66)) .none kVF44 dcF44 pmF44 anF44 cdF44 ctF44)
  have fam2 : FamT K (fun n => [C0, C1, C2, C3, C4, C5, C6].getD n 0) NC upC := famB_ok fam
  have D0 : DefT K mg "is_whole" (top 10) ["thing"] f0 _ := ⟨fun_mk (st := top 10) lF0 cF0 kF0, PySem.W.mg_of X G a0, kF0, (fun_mk (st := top 10) lF0 cF0 kF0).binds (ps := ["thing"]) fun _ _ _ _ _ _ us hl => match us, hl with | [_], _ => rfl⟩
  have D1 : DefT K mg "is_number" (top 11) ["thing"] f1 _ := ⟨fun_mk (st := top 11) lF1 cF1 kF1, PySem.W.mg_of X G a1, kF1, (fun_mk (st := top 11) lF1 cF1 kF1).binds (ps := ["thing"]) fun _ _ _ _ _ _ us hl => match us, hl with | [_], _ => rfl⟩
  have D2 : DefT K mg "is_below" (top 12) ["thing", "most"] f2 _ := ⟨fun_mk (st := top 12) lF2 cF2 kF2, PySem.W.mg_of X G a2, kF2, (fun_mk (st := top 12) lF2 cF2 kF2).binds (ps := ["thing", "most"]) fun _ _ _ _ _ _ us hl => match us, hl with | [_, _], _ => rfl⟩
  have D3 : DefT K mg "is_row" (top 13) ["thing", "many"] f3 _ := ⟨fun_mk (st := top 13) lF3 cF3 kF3, PySem.W.mg_of X G a3, kF3, (fun_mk (st := top 13) lF3 cF3 kF3).binds (ps := ["thing", "many"]) fun _ _ _ _ _ _ us hl => match us, hl with | [_, _], _ => rfl⟩
  have D4 : DefT K mg "only_signs" (top 14) ["word", "signs"] f4 _ := ⟨fun_mk (st := top 14) lF4 cF4 kF4, PySem.W.mg_of X G a4, kF4, (fun_mk (st := top 14) lF4 cF4 kF4).binds (ps := ["word", "signs"]) fun _ _ _ _ _ _ us hl => match us, hl with | [_, _], _ => rfl⟩
  have D5 : DefT K mg "written_number" (top 15) ["word"] f5 _ := ⟨fun_mk (st := top 15) lF5 cF5 kF5, PySem.W.mg_of X G a5, kF5, (fun_mk (st := top 15) lF5 cF5 kF5).binds (ps := ["word"]) fun _ _ _ _ _ _ us hl => match us, hl with | [_], _ => rfl⟩
  have D6 : DefT K mg "lines_of" (top 16) ["text"] f6 _ := ⟨fun_mk (st := top 16) lF6 cF6 kF6, PySem.W.mg_of X G a6, kF6, (fun_mk (st := top 16) lF6 cF6 kF6).binds (ps := ["text"]) fun _ _ _ _ _ _ us hl => match us, hl with | [_], _ => rfl⟩
  have D7 : DefT K mg "line_behind" (top 17) ["text"] f7 _ := ⟨fun_mk (st := top 17) lF7 cF7 kF7, PySem.W.mg_of X G a7, kF7, (fun_mk (st := top 17) lF7 cF7 kF7).binds (ps := ["text"]) fun _ _ _ _ _ _ us hl => match us, hl with | [_], _ => rfl⟩
  have D8 : DefT K mg "spaced_words" (top 18) ["line"] f8 _ := ⟨fun_mk (st := top 18) lF8 cF8 kF8, PySem.W.mg_of X G a8, kF8, (fun_mk (st := top 18) lF8 cF8 kF8).binds (ps := ["line"]) fun _ _ _ _ _ _ us hl => match us, hl with | [_], _ => rfl⟩
  have D9 : DefT K mg "numbered_words" (top 19) ["text"] f9 _ := ⟨fun_mk (st := top 19) lF9 cF9 kF9, PySem.W.mg_of X G a9, kF9, (fun_mk (st := top 19) lF9 cF9 kF9).binds (ps := ["text"]) fun _ _ _ _ _ _ us hl => match us, hl with | [_], _ => rfl⟩
  have D10 : DefT K mg "time_by" (top 21) ["gate", "came"] f10 _ := ⟨fun_mk (st := top 21) lF10 cF10 kF10, PySem.W.mg_of X G a10, kF10, (fun_mk (st := top 21) lF10 cF10 kF10).binds (ps := ["gate", "came"]) fun _ _ _ _ _ _ us hl => match us, hl with | [_, _], _ => rfl⟩
  have D11 : DefT K mg "comes" (top 22) ["network", "times"] f11 _ := ⟨fun_mk (st := top 22) lF11 cF11 kF11, PySem.W.mg_of X G a11, kF11, (fun_mk (st := top 22) lF11 cF11 kF11).binds (ps := ["network", "times"]) fun _ _ _ _ _ _ us hl => match us, hl with | [_, _], _ => rfl⟩
  have D12 : DefT K mg "coming" (top 23) ["network", "times"] f12 _ := ⟨fun_mk (st := top 23) lF12 cF12 kF12, PySem.W.mg_of X G a12, kF12, (fun_mk (st := top 23) lF12 cF12 kF12).binds (ps := ["network", "times"]) fun _ _ _ _ _ _ us hl => match us, hl with | [_, _], _ => rfl⟩
  have D13 : DefT K mg "users_of" (top 25) ["network", "number"] f13 _ := ⟨fun_mk (st := top 25) lF13 cF13 kF13, PySem.W.mg_of X G a13, kF13, (fun_mk (st := top 25) lF13 cF13 kF13).binds (ps := ["network", "number"]) fun _ _ _ _ _ _ us hl => match us, hl with | [_, _], _ => rfl⟩
  have D14 : DefT K mg "gates_below" (top 26) ["network", "gate"] f14 _ := ⟨fun_mk (st := top 26) lF14 cF14 kF14, PySem.W.mg_of X G a14, kF14, (fun_mk (st := top 26) lF14 cF14 kF14).binds (ps := ["network", "gate"]) fun _ _ _ _ _ _ us hl => match us, hl with | [_, _], _ => rfl⟩
  have D15 : DefT K mg "needed_for" (top 27) ["network", "gates"] f15 _ := ⟨fun_mk (st := top 27) lF15 cF15 kF15, PySem.W.mg_of X G a15, kF15, (fun_mk (st := top 27) lF15 cF15 kF15).binds (ps := ["network", "gates"]) fun _ _ _ _ _ _ us hl => match us, hl with | [_, _], _ => rfl⟩
  have D16 : DefT K mg "gates_in_loops" (top 28) ["network"] f16 _ := ⟨fun_mk (st := top 28) lF16 cF16 kF16, PySem.W.mg_of X G a16, kF16, (fun_mk (st := top 28) lF16 cF16 kF16).binds (ps := ["network"]) fun _ _ _ _ _ _ us hl => match us, hl with | [_], _ => rfl⟩
  have D17 : DefT K mg "latest_time" (top 29) ["network", "times"] f17 _ := ⟨fun_mk (st := top 29) lF17 cF17 kF17, PySem.W.mg_of X G a17, kF17, (fun_mk (st := top 29) lF17 cF17 kF17).binds (ps := ["network", "times"]) fun _ _ _ _ _ _ us hl => match us, hl with | [_, _], _ => rfl⟩
  have D18 : DefT K mg "is_gate" (top 35) ["thing"] f18 _ := ⟨fun_mk (st := top 35) lF18 cF18 kF18, PySem.W.mg_of X G a18, kF18, (fun_mk (st := top 35) lF18 cF18 kF18).binds (ps := ["thing"]) fun _ _ _ _ _ _ us hl => match us, hl with | [_], _ => rfl⟩
  have D19 : DefT K mg "check_network" (top 36) ["thing"] f19 _ := ⟨fun_mk (st := top 36) lF19 cF19 kF19, PySem.W.mg_of X G a19, kF19, (fun_mk (st := top 36) lF19 cF19 kF19).binds (ps := ["thing"]) fun _ _ _ _ _ _ us hl => match us, hl with | [_], _ => rfl⟩
  have D20 : DefT K mg "is_network" (top 37) ["thing"] f20 _ := ⟨fun_mk (st := top 37) lF20 cF20 kF20, PySem.W.mg_of X G a20, kF20, (fun_mk (st := top 37) lF20 cF20 kF20).binds (ps := ["thing"]) fun _ _ _ _ _ _ us hl => match us, hl with | [_], _ => rfl⟩
  have D21 : DefT K mg "renumbered" (top 39) ["gates", "numbers"] f21 _ := ⟨fun_mk (st := top 39) lF21 cF21 kF21, PySem.W.mg_of X G a21, kF21, (fun_mk (st := top 39) lF21 cF21 kF21).binds (ps := ["gates", "numbers"]) fun _ _ _ _ _ _ us hl => match us, hl with | [_, _], _ => rfl⟩
  have D22 : DefT K mg "beside_networks" (top 40) ["one", "other"] f22 _ := ⟨fun_mk (st := top 40) lF22 cF22 kF22, PySem.W.mg_of X G a22, kF22, (fun_mk (st := top 40) lF22 cF22 kF22).binds (ps := ["one", "other"]) fun _ _ _ _ _ _ us hl => match us, hl with | [_, _], _ => rfl⟩
  have D23 : DefT K mg "trimmed_network" (top 41) ["network", "gates"] f23 _ := ⟨fun_mk (st := top 41) lF23 cF23 kF23, PySem.W.mg_of X G a23, kF23, (fun_mk (st := top 41) lF23 cF23 kF23).binds (ps := ["network", "gates"]) fun _ _ _ _ _ _ us hl => match us, hl with | [_, _], _ => rfl⟩
  have D24 : DefT K mg "network_text" (top 43) ["network"] f24 _ := ⟨fun_mk (st := top 43) lF24 cF24 kF24, PySem.W.mg_of X G a24, kF24, (fun_mk (st := top 43) lF24 cF24 kF24).binds (ps := ["network"]) fun _ _ _ _ _ _ us hl => match us, hl with | [_], _ => rfl⟩
  have D25 : DefT K mg "numbers_of" (top 44) ["line", "words"] f25 _ := ⟨fun_mk (st := top 44) lF25 cF25 kF25, PySem.W.mg_of X G a25, kF25, (fun_mk (st := top 44) lF25 cF25 kF25).binds (ps := ["line", "words"]) fun _ _ _ _ _ _ us hl => match us, hl with | [_, _], _ => rfl⟩
  have D26 : DefT K mg "read_network" (top 45) ["text"] f26 _ := ⟨fun_mk (st := top 45) lF26 cF26 kF26, PySem.W.mg_of X G a26, kF26, (fun_mk (st := top 45) lF26 cF26 kF26).binds (ps := ["text"]) fun _ _ _ _ _ _ us hl => match us, hl with | [_], _ => rfl⟩
  have D27 : DefT K mg "network_report" (top 47) ["network"] f27 _ := ⟨fun_mk (st := top 47) lF27 cF27 kF27, PySem.W.mg_of X G a27, kF27, (fun_mk (st := top 47) lF27 cF27 kF27).binds (ps := ["network"]) fun _ _ _ _ _ _ us hl => match us, hl with | [_], _ => rfl⟩
  have D28 : DefT K mg "quiet_behind" (top 49) ["network", "times"] f28 _ := ⟨fun_mk (st := top 49) lF28 cF28 kF28, PySem.W.mg_of X G a28, kF28, (fun_mk (st := top 49) lF28 cF28 kF28).binds (ps := ["network", "times"]) fun _ _ _ _ _ _ us hl => match us, hl with | [_, _], _ => rfl⟩
  have D29 : DefT K mg "_law_jar" (top 51) ["script"] f29 _ := ⟨fun_mk (st := top 51) lF29 cF29 kF29, PySem.W.mg_of X G a29, kF29, (fun_mk (st := top 51) lF29 cF29 kF29).binds (ps := ["script"]) fun _ _ _ _ _ _ us hl => match us, hl with | [_], _ => rfl⟩
  have D30 : DefT K mg "_law_sip" (top 52) ["jar", "place", "many"] f30 _ := ⟨fun_mk (st := top 52) lF30 cF30 kF30, PySem.W.mg_of X G a30, kF30, (fun_mk (st := top 52) lF30 cF30 kF30).binds (ps := ["jar", "place", "many"]) fun _ _ _ _ _ _ us hl => match us, hl with | [_, _, _], _ => rfl⟩
  have D31 : DefT K mg "_law_same" (top 53) ["told", "due"] f31 _ := ⟨fun_mk (st := top 53) lF31 cF31 kF31, PySem.W.mg_of X G a31, kF31, (fun_mk (st := top 53) lF31 cF31 kF31).binds (ps := ["told", "due"]) fun _ _ _ _ _ _ us hl => match us, hl with | [_, _], _ => rfl⟩
  have D32 : DefT K mg "_law_comes" (top 54) ["network", "times"] f32 _ := ⟨fun_mk (st := top 54) lF32 cF32 kF32, PySem.W.mg_of X G a32, kF32, (fun_mk (st := top 54) lF32 cF32 kF32).binds (ps := ["network", "times"]) fun _ _ _ _ _ _ us hl => match us, hl with | [_, _], _ => rfl⟩
  have D33 : DefT K mg "_law_gate" (top 55) ["jar", "many", "gates", "at", "form"] f33 _ := ⟨fun_mk (st := top 55) lF33 cF33 kF33, PySem.W.mg_of X G a33, kF33, (fun_mk (st := top 55) lF33 cF33 kF33).binds (ps := ["jar", "many", "gates", "at", "form"]) fun _ _ _ _ _ _ us hl => match us, hl with | [_, _, _, _, _], _ => rfl⟩
  have D34 : DefT K mg "_law_network" (top 56) ["jar", "most"] f34 _ := ⟨fun_mk (st := top 56) lF34 cF34 kF34, PySem.W.mg_of X G a34, kF34, (fun_mk (st := top 56) lF34 cF34 kF34).binds (ps := ["jar", "most"]) fun _ _ _ _ _ _ us hl => match us, hl with | [_, _], _ => rfl⟩
  have D35 : DefT K mg "_law_needed" (top 57) ["network", "starts"] f35 _ := ⟨fun_mk (st := top 57) lF35 cF35 kF35, PySem.W.mg_of X G a35, kF35, (fun_mk (st := top 57) lF35 cF35 kF35).binds (ps := ["network", "starts"]) fun _ _ _ _ _ _ us hl => match us, hl with | [_, _], _ => rfl⟩
  have D36 : DefT K mg "_law_loops" (top 58) ["network"] f36 _ := ⟨fun_mk (st := top 58) lF36 cF36 kF36, PySem.W.mg_of X G a36, kF36, (fun_mk (st := top 58) lF36 cF36 kF36).binds (ps := ["network"]) fun _ _ _ _ _ _ us hl => match us, hl with | [_], _ => rfl⟩
  have D37 : DefT K mg "_law_trimmed" (top 59) ["network", "needed"] f37 _ := ⟨fun_mk (st := top 59) lF37 cF37 kF37, PySem.W.mg_of X G a37, kF37, (fun_mk (st := top 59) lF37 cF37 kF37).binds (ps := ["network", "needed"]) fun _ _ _ _ _ _ us hl => match us, hl with | [_, _], _ => rfl⟩
  have D38 : DefT K mg "_law_users" (top 60) ["network", "number"] f38 _ := ⟨fun_mk (st := top 60) lF38 cF38 kF38, PySem.W.mg_of X G a38, kF38, (fun_mk (st := top 60) lF38 cF38 kF38).binds (ps := ["network", "number"]) fun _ _ _ _ _ _ us hl => match us, hl with | [_, _], _ => rfl⟩
  have D39 : DefT K mg "_law_beside" (top 61) ["one", "other"] f39 _ := ⟨fun_mk (st := top 61) lF39 cF39 kF39, PySem.W.mg_of X G a39, kF39, (fun_mk (st := top 61) lF39 cF39 kF39).binds (ps := ["one", "other"]) fun _ _ _ _ _ _ us hl => match us, hl with | [_, _], _ => rfl⟩
  have D40 : DefT K mg "_law_times" (top 62) ["jar", "many"] f40 _ := ⟨fun_mk (st := top 62) lF40 cF40 kF40, PySem.W.mg_of X G a40, kF40, (fun_mk (st := top 62) lF40 cF40 kF40).binds (ps := ["jar", "many"]) fun _ _ _ _ _ _ us hl => match us, hl with | [_, _], _ => rfl⟩
  have D41 : DefT K mg "_law_looks" (top 63) ["jar", "network"] f41 _ := ⟨fun_mk (st := top 63) lF41 cF41 kF41, PySem.W.mg_of X G a41, kF41, (fun_mk (st := top 63) lF41 cF41 kF41).binds (ps := ["jar", "network"]) fun _ _ _ _ _ _ us hl => match us, hl with | [_, _], _ => rfl⟩
  have D42 : DefT K mg "_law_run" (top 64) ["jar", "network", "other"] f42 _ := ⟨fun_mk (st := top 64) lF42 cF42 kF42, PySem.W.mg_of X G a42, kF42, (fun_mk (st := top 64) lF42 cF42 kF42).binds (ps := ["jar", "network", "other"]) fun _ _ _ _ _ _ us hl => match us, hl with | [_, _, _], _ => rfl⟩
  have D43 : DefT K mg "_law_asked" (top 65) ["jar", "network", "other"] f43 _ := ⟨fun_mk (st := top 65) lF43 cF43 kF43, PySem.W.mg_of X G a43, kF43, (fun_mk (st := top 65) lF43 cF43 kF43).binds (ps := ["jar", "network", "other"]) fun _ _ _ _ _ _ us hl => match us, hl with | [_, _, _], _ => rfl⟩
  have D44 : DefT K mg "law" (top 66) ["script"] f44 _ := ⟨fun_mk (st := top 66) lF44 cF44 kF44, PySem.W.mg_of X G a44, kF44, (fun_mk (st := top 66) lF44 cF44 kF44).binds (ps := ["script"]) fun _ _ _ _ _ _ us hl => match us, hl with | [_], _ => rfl⟩
  have E4 : Fun K "__init__" "BadNetwork.__init__" (inClass (top 5) 0) I4 _ := fun_mk (st := inClass (top 5) 0) lI4 cI4 kI4
  have B4 := E4.binds (ps := ["self", "at", "word"]) fun _ _ _ _ _ _ us hl => match us, hl with | [_, _, _], _ => rfl
  have Y4 := fam2.x 4 (by decide)
  have X4 : XCls K C4 I4 := ⟨⟨⟨nm4, q4, N4, bs4, _, sn4, su4, ab4, co4, dd4, m04, m14, m24, m34, m54, x4, rfl⟩, Y4.sa, Y4.x.exC, Y4.ty, Y4.k⟩, i4, t4⟩
  have E5 : Fun K "__init__" "BadStep.__init__" (inClass (top 6) 0) I5 _ := fun_mk (st := inClass (top 6) 0) lI5 cI5 kI5
  have B5 := E5.binds (ps := ["self", "word"]) fun _ _ _ _ _ _ us hl => match us, hl with | [_, _], _ => rfl
  have Y5 := fam2.x 5 (by decide)
  have X5 : XCls K C5 I5 := ⟨⟨⟨nm5, q5, N5, bs5, _, sn5, su5, ab5, co5, dd5, m05, m15, m25, m35, m55, x5, rfl⟩, Y5.sa, Y5.x.exC, Y5.ty, Y5.k⟩, i5, t5⟩
  have E6 : Fun K "__init__" "BadText.__init__" (inClass (top 7) 0) I6 _ := fun_mk (st := inClass (top 7) 0) lI6 cI6 kI6
  have B6 := E6.binds (ps := ["self", "line", "word"]) fun _ _ _ _ _ _ us hl => match us, hl with | [_, _, _], _ => rfl
  have Y6 := fam2.x 6 (by decide)
  have X6 : XCls K C6 I6 := ⟨⟨⟨nm6, q6, N6, bs6, _, sn6, su6, ab6, co6, dd6, m06, m16, m26, m36, m56, x6, rfl⟩, Y6.sa, Y6.x.exC, Y6.ty, Y6.k⟩, i6, t6⟩
  have T : Txt K mg (fun n => [C0, C1, C2, C3, C4, C5, C6].getD n 0) (fun n => [0, 0, 0, 0, I4, I5, I6].getD n 0) (fun n => [fd0, fd0, fd0, fd0, (PySem.W.fnOf "__init__" "BadNetwork.__init__" (defArgs (inClass (top 5) 0)) (defBody (inClass (top 5) 0)) (defScope (inClass (top 5) 0)) .none kVI4 dcI4 pmI4 anI4 cdI4 ctI4), (PySem.W.fnOf "__init__" "BadStep.__init__" (defArgs (inClass (top 6) 0)) (defBody (inClass (top 6) 0)) (defScope (inClass (top 6) 0)) .none kVI5 dcI5 pmI5 anI5 cdI5 ctI5), (PySem.W.fnOf "__init__" "BadText.__init__" (defArgs (inClass (top 7) 0)) (defBody (inClass (top 7) 0)) (defScope (inClass (top 7) 0)) .none kVI6 dcI6 pmI6 anI6 cdI6 ctI6)].getD n fd0) (fun n => [f0, f1, f2, f3, f4, f5, f6, f7, f8, f9, f10, f11, f12, f13, f14, f15, f16, f17, f18, f19, f20, f21, f22, f23, f24, f25, f26, f27, f28, f29, f30, f31, f32, f33, f34, f35, f36, f37, f38, f39, f40, f41, f42, f43, f44].getD n 0) (fun n => [(PySem.W.fnOf "is_whole" "is_whole" (defArgs (top 10)) (defBody (top 10)) (defScope (top 10)) .none kVF0 dcF0 pmF0 anF0 cdF0 ctF0), (PySem.W.fnOf "is_number" "is_number" (defArgs (top 11)) (defBody (top 11)) (defScope (top 11)) .none kVF1 dcF1 pmF1 anF1 cdF1 ctF1), (PySem.W.fnOf "is_below" "is_below" (defArgs (top 12)) (defBody (top 12)) (defScope (top 12)) .none kVF2 dcF2 pmF2 anF2 cdF2 ctF2), (PySem.W.fnOf "is_row" "is_row" (defArgs (top 13)) (defBody (top 13)) (defScope (top 13)) .none kVF3 dcF3 pmF3 anF3 cdF3 ctF3), (PySem.W.fnOf "only_signs" "only_signs" (defArgs (top 14)) (defBody (top 14)) (defScope (top 14)) .none kVF4 dcF4 pmF4 anF4 cdF4 ctF4), (PySem.W.fnOf "written_number" "written_number" (defArgs (top 15)) (defBody (top 15)) (defScope (top 15)) .none kVF5 dcF5 pmF5 anF5 cdF5 ctF5), (PySem.W.fnOf "lines_of" "lines_of" (defArgs (top 16)) (defBody (top 16)) (defScope (top 16)) .none kVF6 dcF6 pmF6 anF6 cdF6 ctF6), (PySem.W.fnOf "line_behind" "line_behind" (defArgs (top 17)) (defBody (top 17)) (defScope (top 17)) .none kVF7 dcF7 pmF7 anF7 cdF7 ctF7), (PySem.W.fnOf "spaced_words" "spaced_words" (defArgs (top 18)) (defBody (top 18)) (defScope (top 18)) .none kVF8 dcF8 pmF8 anF8 cdF8 ctF8), (PySem.W.fnOf "numbered_words" "numbered_words" (defArgs (top 19)) (defBody (top 19)) (defScope (top 19)) .none kVF9 dcF9 pmF9 anF9 cdF9 ctF9), (PySem.W.fnOf "time_by" "time_by" (defArgs (top 21)) (defBody (top 21)) (defScope (top 21)) .none kVF10 dcF10 pmF10 anF10 cdF10 ctF10), (PySem.W.fnOf "comes" "comes" (defArgs (top 22)) (defBody (top 22)) (defScope (top 22)) .none kVF11 dcF11 pmF11 anF11 cdF11 ctF11), (PySem.W.fnOf "coming" "coming" (defArgs (top 23)) (defBody (top 23)) (defScope (top 23)) .none kVF12 dcF12 pmF12 anF12 cdF12 ctF12), (PySem.W.fnOf "users_of" "users_of" (defArgs (top 25)) (defBody (top 25)) (defScope (top 25)) .none kVF13 dcF13 pmF13 anF13 cdF13 ctF13), (PySem.W.fnOf "gates_below" "gates_below" (defArgs (top 26)) (defBody (top 26)) (defScope (top 26)) .none kVF14 dcF14 pmF14 anF14 cdF14 ctF14), (PySem.W.fnOf "needed_for" "needed_for" (defArgs (top 27)) (defBody (top 27)) (defScope (top 27)) .none kVF15 dcF15 pmF15 anF15 cdF15 ctF15), (PySem.W.fnOf "gates_in_loops" "gates_in_loops" (defArgs (top 28)) (defBody (top 28)) (defScope (top 28)) .none kVF16 dcF16 pmF16 anF16 cdF16 ctF16), (PySem.W.fnOf "latest_time" "latest_time" (defArgs (top 29)) (defBody (top 29)) (defScope (top 29)) .none kVF17 dcF17 pmF17 anF17 cdF17 ctF17), (PySem.W.fnOf "is_gate" "is_gate" (defArgs (top 35)) (defBody (top 35)) (defScope (top 35)) .none kVF18 dcF18 pmF18 anF18 cdF18 ctF18), (PySem.W.fnOf "check_network" "check_network" (defArgs (top 36)) (defBody (top 36)) (defScope (top 36)) .none kVF19 dcF19 pmF19 anF19 cdF19 ctF19), (PySem.W.fnOf "is_network" "is_network" (defArgs (top 37)) (defBody (top 37)) (defScope (top 37)) .none kVF20 dcF20 pmF20 anF20 cdF20 ctF20), (PySem.W.fnOf "renumbered" "renumbered" (defArgs (top 39)) (defBody (top 39)) (defScope (top 39)) .none kVF21 dcF21 pmF21 anF21 cdF21 ctF21), (PySem.W.fnOf "beside_networks" "beside_networks" (defArgs (top 40)) (defBody (top 40)) (defScope (top 40)) .none kVF22 dcF22 pmF22 anF22 cdF22 ctF22), (PySem.W.fnOf "trimmed_network" "trimmed_network" (defArgs (top 41)) (defBody (top 41)) (defScope (top 41)) .none kVF23 dcF23 pmF23 anF23 cdF23 ctF23), (PySem.W.fnOf "network_text" "network_text" (defArgs (top 43)) (defBody (top 43)) (defScope (top 43)) .none kVF24 dcF24 pmF24 anF24 cdF24 ctF24), (PySem.W.fnOf "numbers_of" "numbers_of" (defArgs (top 44)) (defBody (top 44)) (defScope (top 44)) .none kVF25 dcF25 pmF25 anF25 cdF25 ctF25), (PySem.W.fnOf "read_network" "read_network" (defArgs (top 45)) (defBody (top 45)) (defScope (top 45)) .none kVF26 dcF26 pmF26 anF26 cdF26 ctF26), (PySem.W.fnOf "network_report" "network_report" (defArgs (top 47)) (defBody (top 47)) (defScope (top 47)) .none kVF27 dcF27 pmF27 anF27 cdF27 ctF27), (PySem.W.fnOf "quiet_behind" "quiet_behind" (defArgs (top 49)) (defBody (top 49)) (defScope (top 49)) .none kVF28 dcF28 pmF28 anF28 cdF28 ctF28), (PySem.W.fnOf "_law_jar" "_law_jar" (defArgs (top 51)) (defBody (top 51)) (defScope (top 51)) .none kVF29 dcF29 pmF29 anF29 cdF29 ctF29), (PySem.W.fnOf "_law_sip" "_law_sip" (defArgs (top 52)) (defBody (top 52)) (defScope (top 52)) .none kVF30 dcF30 pmF30 anF30 cdF30 ctF30), (PySem.W.fnOf "_law_same" "_law_same" (defArgs (top 53)) (defBody (top 53)) (defScope (top 53)) .none kVF31 dcF31 pmF31 anF31 cdF31 ctF31), (PySem.W.fnOf "_law_comes" "_law_comes" (defArgs (top 54)) (defBody (top 54)) (defScope (top 54)) .none kVF32 dcF32 pmF32 anF32 cdF32 ctF32), (PySem.W.fnOf "_law_gate" "_law_gate" (defArgs (top 55)) (defBody (top 55)) (defScope (top 55)) .none kVF33 dcF33 pmF33 anF33 cdF33 ctF33), (PySem.W.fnOf "_law_network" "_law_network" (defArgs (top 56)) (defBody (top 56)) (defScope (top 56)) .none kVF34 dcF34 pmF34 anF34 cdF34 ctF34), (PySem.W.fnOf "_law_needed" "_law_needed" (defArgs (top 57)) (defBody (top 57)) (defScope (top 57)) .none kVF35 dcF35 pmF35 anF35 cdF35 ctF35), (PySem.W.fnOf "_law_loops" "_law_loops" (defArgs (top 58)) (defBody (top 58)) (defScope (top 58)) .none kVF36 dcF36 pmF36 anF36 cdF36 ctF36), (PySem.W.fnOf "_law_trimmed" "_law_trimmed" (defArgs (top 59)) (defBody (top 59)) (defScope (top 59)) .none kVF37 dcF37 pmF37 anF37 cdF37 ctF37), (PySem.W.fnOf "_law_users" "_law_users" (defArgs (top 60)) (defBody (top 60)) (defScope (top 60)) .none kVF38 dcF38 pmF38 anF38 cdF38 ctF38), (PySem.W.fnOf "_law_beside" "_law_beside" (defArgs (top 61)) (defBody (top 61)) (defScope (top 61)) .none kVF39 dcF39 pmF39 anF39 cdF39 ctF39), (PySem.W.fnOf "_law_times" "_law_times" (defArgs (top 62)) (defBody (top 62)) (defScope (top 62)) .none kVF40 dcF40 pmF40 anF40 cdF40 ctF40), (PySem.W.fnOf "_law_looks" "_law_looks" (defArgs (top 63)) (defBody (top 63)) (defScope (top 63)) .none kVF41 dcF41 pmF41 anF41 cdF41 ctF41), (PySem.W.fnOf "_law_run" "_law_run" (defArgs (top 64)) (defBody (top 64)) (defScope (top 64)) .none kVF42 dcF42 pmF42 anF42 cdF42 ctF42), (PySem.W.fnOf "_law_asked" "_law_asked" (defArgs (top 65)) (defBody (top 65)) (defScope (top 65)) .none kVF43 dcF43 pmF43 anF43 cdF43 ctF43), (PySem.W.fnOf "law" "law" (defArgs (top 66)) (defBody (top 66)) (defScope (top 66)) .none kVF44 dcF44 pmF44 anF44 cdF44 ctF44)].getD n fd0) := {
    f0 := D0
    f1 := D1
    f2 := D2
    f3 := D3
    f4 := D4
    f5 := D5
    f6 := D6
    f7 := D7
    f8 := D8
    f9 := D9
    f10 := D10
    f11 := D11
    f12 := D12
    f13 := D13
    f14 := D14
    f15 := D15
    f16 := D16
    f17 := D17
    f18 := D18
    f19 := D19
    f20 := D20
    f21 := D21
    f22 := D22
    f23 := D23
    f24 := D24
    f25 := D25
    f26 := D26
    f27 := D27
    f28 := D28
    f29 := D29
    f30 := D30
    f31 := D31
    f32 := D32
    f33 := D33
    f34 := D34
    f35 := D35
    f36 := D36
    f37 := D37
    f38 := D38
    f39 := D39
    f40 := D40
    f41 := D41
    f42 := D42
    f43 := D43
    f44 := D44
    m_LastError := PySem.W.mg_of X G b0
    m_DataError := PySem.W.mg_of X G b1
    m_CallError := PySem.W.mg_of X G b2
    m_TextError := PySem.W.mg_of X G b3
    m_BadNetwork := PySem.W.mg_of X G b4
    c_BadNetwork := ⟨PySem.W.mg_of X G b4, X4⟩
    x_BadNetwork := E4
    xb_BadNetwork := B4
    m_BadStep := PySem.W.mg_of X G b5
    c_BadStep := ⟨PySem.W.mg_of X G b5, X5⟩
    x_BadStep := E5
    xb_BadStep := B5
    m_BadText := PySem.W.mg_of X G b6
    c_BadText := ⟨PySem.W.mg_of X G b6, X6⟩
    x_BadText := E6
    xb_BadText := B6
    fam := fam2
    no_at := fun c hc => of_decide_eq_true (List.all_eq_true.mp no_at c (List.mem_range.mpr hc))
    no_line := fun c hc => of_decide_eq_true (List.all_eq_true.mp no_line c (List.mem_range.mpr hc))
    no_word := fun c hc => of_decide_eq_true (List.all_eq_true.mp no_word c (List.mem_range.mpr hc))
    n_abs := PySem.W.mg_none_of X G n_abs
    n_bool := PySem.W.mg_none_of X G n_bool
    n_dict := PySem.W.mg_none_of X G n_dict
    n_int := PySem.W.mg_none_of X G n_int
    n_isinstance := PySem.W.mg_none_of X G n_isinstance
    n_len := PySem.W.mg_none_of X G n_len
    n_list := PySem.W.mg_none_of X G n_list
    n_max := PySem.W.mg_none_of X G n_max
    n_min := PySem.W.mg_none_of X G n_min
    n_range := PySem.W.mg_none_of X G n_range
    n_set := PySem.W.mg_none_of X G n_set
    n_sorted := PySem.W.mg_none_of X G n_sorted
    n_str := PySem.W.mg_none_of X G n_str
    n_tuple := PySem.W.mg_none_of X G n_tuple
    g_FIGURES := ⟨_, PySem.W.mg_of X G g_FIGURES⟩
    g_MOST_DELAY := ⟨_, PySem.W.mg_of X G g_MOST_DELAY⟩
    g_MOST_SIGNALS := ⟨_, PySem.W.mg_of X G g_MOST_SIGNALS⟩
    g_MOST_GATES := ⟨_, PySem.W.mg_of X G g_MOST_GATES⟩
    g_MOST_OPERANDS := ⟨_, PySem.W.mg_of X G g_MOST_OPERANDS⟩ }
  exact ⟨(PySem.W.fnOf "law" "law" (defArgs (top 66)) (defBody (top 66)) (defScope (top 66)) .none kVF44 dcF44 pmF44 anF44 cdF44 ctF44), fun s v => .of_eq rfl, fun base _ _ => law_ok (oklaw T) yes⟩
end K89
open PySem PySem.W PyProof.Rows
set_option maxRecDepth 100000 in
set_option maxHeartbeats 0 in
theorem PySem.Challenge.cw_firstandlast_k89_whole_looks_loops_holds : PySem.Challenge.rw_firstandlast_k89_whole_looks_loops.Holds := by
  w_on; o_law; k_head; (case hw => w_witness2)
  k_fill
  refine Fl.walkI (l := PySem.Challenge.rw_firstandlast_k89_whole_looks_loops) (k := 9) rfl rfl ⟨rfl, by decide, by decide⟩ (fun w h Y => PySem.W.kIn_of Y) ?F
  case F =>
    intro w mg fa h KX G hmg
    refine' K89.all_mk KX G hmg ?b0 ?b1 ?b2 ?b3 ?b4 ?x4 ?i4 ?t4 ?lI4 ?cI4 ?kI4 ?b5 ?x5 ?i5 ?t5 ?lI5 ?cI5 ?kI5 ?b6 ?x6 ?i6 ?t6 ?lI6 ?cI6 ?kI6 ?a0 ?lF0 ?cF0 ?kF0 ?a1 ?lF1 ?cF1 ?kF1 ?a2 ?lF2 ?cF2 ?kF2 ?a3 ?lF3 ?cF3 ?kF3 ?a4 ?lF4 ?cF4 ?kF4 ?a5 ?lF5 ?cF5 ?kF5 ?a6 ?lF6 ?cF6 ?kF6 ?a7 ?lF7 ?cF7 ?kF7 ?a8 ?lF8 ?cF8 ?kF8 ?a9 ?lF9 ?cF9 ?kF9 ?a10 ?lF10 ?cF10 ?kF10 ?a11 ?lF11 ?cF11 ?kF11 ?a12 ?lF12 ?cF12 ?kF12 ?a13 ?lF13 ?cF13 ?kF13 ?a14 ?lF14 ?cF14 ?kF14 ?a15 ?lF15 ?cF15 ?kF15 ?a16 ?lF16 ?cF16 ?kF16 ?a17 ?lF17 ?cF17 ?kF17 ?a18 ?lF18 ?cF18 ?kF18 ?a19 ?lF19 ?cF19 ?kF19 ?a20 ?lF20 ?cF20 ?kF20 ?a21 ?lF21 ?cF21 ?kF21 ?a22 ?lF22 ?cF22 ?kF22 ?a23 ?lF23 ?cF23 ?kF23 ?a24 ?lF24 ?cF24 ?kF24 ?a25 ?lF25 ?cF25 ?kF25 ?a26 ?lF26 ?cF26 ?kF26 ?a27 ?lF27 ?cF27 ?kF27 ?a28 ?lF28 ?cF28 ?kF28 ?a29 ?lF29 ?cF29 ?kF29 ?a30 ?lF30 ?cF30 ?kF30 ?a31 ?lF31 ?cF31 ?kF31 ?a32 ?lF32 ?cF32 ?kF32 ?a33 ?lF33 ?cF33 ?kF33 ?a34 ?lF34 ?cF34 ?kF34 ?a35 ?lF35 ?cF35 ?kF35 ?a36 ?lF36 ?cF36 ?kF36 ?a37 ?lF37 ?cF37 ?kF37 ?a38 ?lF38 ?cF38 ?kF38 ?a39 ?lF39 ?cF39 ?kF39 ?a40 ?lF40 ?cF40 ?kF40 ?a41 ?lF41 ?cF41 ?kF41 ?a42 ?lF42 ?cF42 ?kF42 ?a43 ?lF43 ?cF43 ?kF43 ?a44 ?lF44 ?cF44 ?kF44 ?n_abs ?n_bool ?n_dict ?n_int ?n_isinstance ?n_len ?n_list ?n_max ?n_min ?n_range ?n_set ?n_sorted ?n_str ?n_tuple ?g_FIGURES ?g_MOST_DELAY ?g_MOST_SIGNALS ?g_MOST_GATES ?g_MOST_OPERANDS ?fam ?no_at ?no_line ?no_word
    (case b0 => k_is)
    (case b1 => k_is)
    (case b2 => k_is)
    (case b3 => k_is)
    (case b4 => k_is)
    (case x4 => k_is)
    (case i4 => k_is)
    (case t4 => k_is)
    (case lI4 => k_is)
    (case cI4 => k_is)
    (case kI4 => k_is)
    (case b5 => k_is)
    (case x5 => k_is)
    (case i5 => k_is)
    (case t5 => k_is)
    (case lI5 => k_is)
    (case cI5 => k_is)
    (case kI5 => k_is)
    (case b6 => k_is)
    (case x6 => k_is)
    (case i6 => k_is)
    (case t6 => k_is)
    (case lI6 => k_is)
    (case cI6 => k_is)
    (case kI6 => k_is)
    (case a0 => k_is)
    (case lF0 => k_is)
    (case cF0 => k_is)
    (case kF0 => k_is)
    (case a1 => k_is)
    (case lF1 => k_is)
    (case cF1 => k_is)
    (case kF1 => k_is)
    (case a2 => k_is)
    (case lF2 => k_is)
    (case cF2 => k_is)
    (case kF2 => k_is)
    (case a3 => k_is)
    (case lF3 => k_is)
    (case cF3 => k_is)
    (case kF3 => k_is)
    (case a4 => k_is)
    (case lF4 => k_is)
    (case cF4 => k_is)
    (case kF4 => k_is)
    (case a5 => k_is)
    (case lF5 => k_is)
    (case cF5 => k_is)
    (case kF5 => k_is)
    (case a6 => k_is)
    (case lF6 => k_is)
    (case cF6 => k_is)
    (case kF6 => k_is)
    (case a7 => k_is)
    (case lF7 => k_is)
    (case cF7 => k_is)
    (case kF7 => k_is)
    (case a8 => k_is)
    (case lF8 => k_is)
    (case cF8 => k_is)
    (case kF8 => k_is)
    (case a9 => k_is)
    (case lF9 => k_is)
    (case cF9 => k_is)
    (case kF9 => k_is)
    (case a10 => k_is)
    (case lF10 => k_is)
    (case cF10 => k_is)
    (case kF10 => k_is)
    (case a11 => k_is)
    (case lF11 => k_is)
    (case cF11 => k_is)
    (case kF11 => k_is)
    (case a12 => k_is)
    (case lF12 => k_is)
    (case cF12 => k_is)
    (case kF12 => k_is)
    (case a13 => k_is)
    (case lF13 => k_is)
    (case cF13 => k_is)
    (case kF13 => k_is)
    (case a14 => k_is)
    (case lF14 => k_is)
    (case cF14 => k_is)
    (case kF14 => k_is)
    (case a15 => k_is)
    (case lF15 => k_is)
    (case cF15 => k_is)
    (case kF15 => k_is)
    (case a16 => k_is)
    (case lF16 => k_is)
    (case cF16 => k_is)
    (case kF16 => k_is)
    (case a17 => k_is)
    (case lF17 => k_is)
    (case cF17 => k_is)
    (case kF17 => k_is)
    (case a18 => k_is)
    (case lF18 => k_is)
    (case cF18 => k_is)
    (case kF18 => k_is)
    (case a19 => k_is)
    (case lF19 => k_is)
    (case cF19 => k_is)
    (case kF19 => k_is)
    (case a20 => k_is)
    (case lF20 => k_is)
    (case cF20 => k_is)
    (case kF20 => k_is)
    (case a21 => k_is)
    (case lF21 => k_is)
    (case cF21 => k_is)
    (case kF21 => k_is)
    (case a22 => k_is)
    (case lF22 => k_is)
    (case cF22 => k_is)
    (case kF22 => k_is)
    (case a23 => k_is)
    (case lF23 => k_is)
    (case cF23 => k_is)
    (case kF23 => k_is)
    (case a24 => k_is)
    (case lF24 => k_is)
    (case cF24 => k_is)
    (case kF24 => k_is)
    (case a25 => k_is)
    (case lF25 => k_is)
    (case cF25 => k_is)
    (case kF25 => k_is)
    (case a26 => k_is)
    (case lF26 => k_is)
    (case cF26 => k_is)
    (case kF26 => k_is)
    (case a27 => k_is)
    (case lF27 => k_is)
    (case cF27 => k_is)
    (case kF27 => k_is)
    (case a28 => k_is)
    (case lF28 => k_is)
    (case cF28 => k_is)
    (case kF28 => k_is)
    (case a29 => k_is)
    (case lF29 => k_is)
    (case cF29 => k_is)
    (case kF29 => k_is)
    (case a30 => k_is)
    (case lF30 => k_is)
    (case cF30 => k_is)
    (case kF30 => k_is)
    (case a31 => k_is)
    (case lF31 => k_is)
    (case cF31 => k_is)
    (case kF31 => k_is)
    (case a32 => k_is)
    (case lF32 => k_is)
    (case cF32 => k_is)
    (case kF32 => k_is)
    (case a33 => k_is)
    (case lF33 => k_is)
    (case cF33 => k_is)
    (case kF33 => k_is)
    (case a34 => k_is)
    (case lF34 => k_is)
    (case cF34 => k_is)
    (case kF34 => k_is)
    (case a35 => k_is)
    (case lF35 => k_is)
    (case cF35 => k_is)
    (case kF35 => k_is)
    (case a36 => k_is)
    (case lF36 => k_is)
    (case cF36 => k_is)
    (case kF36 => k_is)
    (case a37 => k_is)
    (case lF37 => k_is)
    (case cF37 => k_is)
    (case kF37 => k_is)
    (case a38 => k_is)
    (case lF38 => k_is)
    (case cF38 => k_is)
    (case kF38 => k_is)
    (case a39 => k_is)
    (case lF39 => k_is)
    (case cF39 => k_is)
    (case kF39 => k_is)
    (case a40 => k_is)
    (case lF40 => k_is)
    (case cF40 => k_is)
    (case kF40 => k_is)
    (case a41 => k_is)
    (case lF41 => k_is)
    (case cF41 => k_is)
    (case kF41 => k_is)
    (case a42 => k_is)
    (case lF42 => k_is)
    (case cF42 => k_is)
    (case kF42 => k_is)
    (case a43 => k_is)
    (case lF43 => k_is)
    (case cF43 => k_is)
    (case kF43 => k_is)
    (case a44 => k_is)
    (case lF44 => k_is)
    (case cF44 => k_is)
    (case kF44 => k_is)
    (case n_abs => k_is)
    (case n_bool => k_is)
    (case n_dict => k_is)
    (case n_int => k_is)
    (case n_isinstance => k_is)
    (case n_len => k_is)
    (case n_list => k_is)
    (case n_max => k_is)
    (case n_min => k_is)
    (case n_range => k_is)
    (case n_set => k_is)
    (case n_sorted => k_is)
    (case n_str => k_is)
    (case n_tuple => k_is)
    (case g_FIGURES => k_is)
    (case g_MOST_DELAY => k_is)
    (case g_MOST_SIGNALS => k_is)
    (case g_MOST_GATES => k_is)
    (case g_MOST_OPERANDS => k_is)
    (case fam => kernel_rfl)
    (case no_at => kernel_rfl)
    (case no_line => kernel_rfl)
    (case no_word => kernel_rfl)
