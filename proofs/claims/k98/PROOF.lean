import PyProof.Rows.All
import Wide.All
import OpenK.AllK
import Wide.FinOn
import HandS.ForMost
import HandS.ForExc
import HandS.ExcInit
import HandS.CallSlots
import HandS.TryMany
import HandS.TupAny
import HandS.TupMul
import HandS.Wide
import HandS.IsInst
import HandS.Flow
import PyProof.StrOps2
import HandS.ExcField
import HandS.ExcIs
import HandS.ExcValue
import HandS.Defaults
import HandS.Ends
import PySem.Challenge.RW_firstandlast_k98_errors
set_option Elab.async false
set_option linter.all false
set_option maxRecDepth 100000
set_option maxHeartbeats 4000000
/-! Fl, part 1: plain values, the plain heap, how they stand in the abstract heap of the hand layer. -/
namespace Fl
open PySem L2
/-- plain values: tuples (and lists that nobody may change) are data, all other things are places of the plain heap -/
inductive D where
  | non | bl (b : Bool) | int (i : Int) | str (s : Str) | tup (l : List D) | fls (l : List D) | ref (n : Nat)
/-- what stands at a place: a list, a dict, an instance, an exception (classes by numbers) -/
inductive HB where
  | lst (l : List D) | dic (kvs : List (Key × D)) | ins (c : Nat) (fs : List (Str × D)) | exc (c : Nat) (fs : List (Str × D))
abbrev IH := List HB
abbrev Lc := List (Option D)
section
variable (K : PySem.W.Frag)
/-- a list that stays for ever -/
def SqF (H : Hp) (a : Addr) (xs : List V) : Prop := (∃ o, H a = some (.frz o (.lst xs))) ∨
  ∃ (o : Obj) (its : Array Value) (n : Nat), K.lookup a = some o ∧ o.cls = .type "list" ∧ o.dict = none ∧ o.data = .seq its n ∧ its.size ≤ sizeLine ∧ Vals xs its.toList
mutual
def VR (ws : List Addr) (H : Hp) : D → V → Prop
  | .non, v => v = .non
  | .bl b, v => v = .bl b
  | .int i, v => v = .int i
  | .str s, v => v = .str s
  | .tup l, v => ∃ a xs, v = .ref a ∧ SqT K H a xs ∧ VRs ws H l xs
  | .fls l, v => ∃ a xs, v = .ref a ∧ SqF K H a xs ∧ VRs ws H l xs
  | .ref n, v => ∃ a, v = .ref a ∧ ws[n]? = some a
def VRs (ws : List Addr) (H : Hp) : List D → List V → Prop
  | [], xs => xs = []
  | d :: ds, xs => ∃ x r, xs = x :: r ∧ VR ws H d x ∧ VRs ws H ds r
end
/-- what never changes is kept -/
def Le (H H' : Hp) : Prop := (∀ a xs, SqT K H a xs → SqT K H' a xs) ∧ ∀ a xs, SqF K H a xs → SqF K H' a xs
end
section
variable {K : PySem.W.Frag} {ws ws' ws2 : List Addr} {H H' H2 : Hp}
theorem Le.refl : Le K H H := ⟨fun _ _ h => h, fun _ _ h => h⟩
theorem Le.trans (p : Le K H H') (q : Le K H' H2) : Le K H H2 := ⟨fun a xs h => q.1 a xs (p.1 a xs h), fun a xs h => q.2 a xs (p.2 a xs h)⟩
theorem pre_get {a : Addr} {n : Nat} (p : ws <+: ws') (h : ws[n]? = some a) : ws'[n]? = some a := by
  obtain ⟨t, rfl⟩ := p
  rw [List.getElem?_append_left (List.getElem?_eq_some_iff.mp h).1]
  exact h
mutual
theorem VR.mono (p : ws <+: ws') (l : Le K H H') : ∀ {d : D} {v : V}, VR K ws H d v → VR K ws' H' d v
  | .non, _, h => h
  | .bl _, _, h => h
  | .int _, _, h => h
  | .str _, _, h => h
  | .tup _, _, h => by
    obtain ⟨a, xs, e, s, r⟩ := h
    exact ⟨a, xs, e, l.1 _ _ s, VRs.mono p l r⟩
  | .fls _, _, h => by
    obtain ⟨a, xs, e, s, r⟩ := h
    exact ⟨a, xs, e, l.2 _ _ s, VRs.mono p l r⟩
  | .ref _, _, h => by
    obtain ⟨a, e, s⟩ := h
    exact ⟨a, e, pre_get p s⟩
theorem VRs.mono (p : ws <+: ws') (l : Le K H H') : ∀ {ds : List D} {xs : List V}, VRs K ws H ds xs → VRs K ws' H' ds xs
  | [], _, h => h
  | _ :: _, _, h => by
    obtain ⟨x, r, e, h1, h2⟩ := h
    exact ⟨x, r, e, VR.mono p l h1, VRs.mono p l h2⟩
end
theorem VRs.cons {d : D} {ds : List D} {x : V} {xs : List V} (h : VR K ws H d x) (t : VRs K ws H ds xs) : VRs K ws H (d :: ds) (x :: xs) := ⟨x, xs, rfl, h, t⟩
theorem VRs.len : ∀ {ds : List D} {xs : List V}, VRs K ws H ds xs → xs.length = ds.length
  | [], _, h => by cases h; rfl
  | _ :: _, _, h => by
    obtain ⟨x, r, rfl, _, h2⟩ := h
    simp [VRs.len h2]
theorem VRs.get : ∀ {ds : List D} {xs : List V} {i : Nat} {d : D}, VRs K ws H ds xs → ds[i]? = some d → ∃ x, xs[i]? = some x ∧ VR K ws H d x
  | [], _, _, _, _, e => by simp at e
  | _ :: _, _, 0, _, h, e => by
    obtain ⟨x, r, rfl, h1, h2⟩ := h
    simp at e; subst e
    exact ⟨x, rfl, h1⟩
  | _ :: _, _, i + 1, d, h, e => by
    obtain ⟨x, r, rfl, h1, h2⟩ := h
    obtain ⟨y, e1, e2⟩ := VRs.get (i := i) (d := d) h2 (by simpa using e)
    exact ⟨y, by simpa using e1, e2⟩
theorem VRs.get' : ∀ {ds : List D} {xs : List V} {i : Nat} {x : V}, VRs K ws H ds xs → xs[i]? = some x → ∃ d, ds[i]? = some d ∧ VR K ws H d x
  | [], _, _, _, h, e => by cases h; simp at e
  | d :: _, _, 0, _, h, e => by
    obtain ⟨x, r, rfl, h1, h2⟩ := h
    simp at e; subst e
    exact ⟨d, rfl, h1⟩
  | _ :: _, _, i + 1, x, h, e => by
    obtain ⟨y, r, rfl, h1, h2⟩ := h
    obtain ⟨d, e1, e2⟩ := VRs.get' (i := i) (x := x) h2 (by simpa using e)
    exact ⟨d, by simpa using e1, e2⟩
theorem VRs.append : ∀ {ds es : List D} {xs ys : List V}, VRs K ws H ds xs → VRs K ws H es ys → VRs K ws H (ds ++ es) (xs ++ ys)
  | [], _, _, _, h, t => by cases h; exact t
  | _ :: _, _, _, _, h, t => by
    obtain ⟨x, r, rfl, h1, h2⟩ := h
    exact ⟨x, _, rfl, h1, VRs.append h2 t⟩
theorem VRs.take (n : Nat) : ∀ {ds : List D} {xs : List V} , VRs K ws H ds xs → VRs K ws H (ds.take n) (xs.take n) := by
  induction n with
  | zero => intro ds xs _; simp [VRs]
  | succ n ih =>
    intro ds xs h
    cases ds with
    | nil => cases h; simp [VRs]
    | cons d ds =>
      obtain ⟨x, r, rfl, h1, h2⟩ := h
      exact ⟨x, _, rfl, h1, ih h2⟩
theorem VRs.drop (n : Nat) : ∀ {ds : List D} {xs : List V} , VRs K ws H ds xs → VRs K ws H (ds.drop n) (xs.drop n) := by
  induction n with
  | zero => intro ds xs h; simpa using h
  | succ n ih =>
    intro ds xs h
    cases ds with
    | nil => cases h; simp [VRs]
    | cons d ds =>
      obtain ⟨x, r, rfl, h1, h2⟩ := h
      exact ih h2
theorem VRs.set {d : D} {x : V} (h0 : VR K ws H d x) : ∀ (i : Nat) {ds : List D} {xs : List V}, VRs K ws H ds xs → VRs K ws H (ds.set i d) (xs.set i x) := by
  intro i
  induction i with
  | zero =>
    intro ds xs h
    cases ds with
    | nil => cases h; simp [VRs]
    | cons e ds =>
      obtain ⟨y, r, rfl, h1, h2⟩ := h
      exact ⟨x, r, rfl, h0, h2⟩
  | succ i ih =>
    intro ds xs h
    cases ds with
    | nil => cases h; simp [VRs]
    | cons e ds =>
      obtain ⟨y, r, rfl, h1, h2⟩ := h
      exact ⟨y, _, rfl, h1, ih h2⟩
theorem VRs.eraseIdx : ∀ (i : Nat) {ds : List D} {xs : List V}, VRs K ws H ds xs → VRs K ws H (ds.eraseIdx i) (xs.eraseIdx i) := by
  intro i
  induction i with
  | zero =>
    intro ds xs h
    cases ds with
    | nil => cases h; simp [VRs]
    | cons e ds =>
      obtain ⟨y, r, rfl, h1, h2⟩ := h
      exact h2
  | succ i ih =>
    intro ds xs h
    cases ds with
    | nil => cases h; simp [VRs]
    | cons e ds =>
      obtain ⟨y, r, rfl, h1, h2⟩ := h
      exact ⟨y, _, rfl, h1, ih h2⟩
theorem VRs.dropLast {ds : List D} {xs : List V} (h : VRs K ws H ds xs) : VRs K ws H ds.dropLast xs.dropLast := by
  rw [List.dropLast_eq_take, List.dropLast_eq_take, h.len]
  exact VRs.take _ h
theorem VRs.reverse : ∀ {ds : List D} {xs : List V}, VRs K ws H ds xs → VRs K ws H ds.reverse xs.reverse
  | [], _, h => by cases h; simp [VRs]
  | _ :: _, _, h => by
    obtain ⟨x, r, rfl, h1, h2⟩ := h
    rw [List.reverse_cons, List.reverse_cons]
    exact VRs.append (VRs.reverse h2) ⟨x, [], rfl, h1, rfl⟩
theorem VRs.ints (is : List Int) : VRs K ws H (is.map D.int) (is.map V.int) := by
  induction is with
  | nil => rfl
  | cons i is ih => exact ⟨_, _, rfl, rfl, ih⟩
theorem VRs.of_ints : ∀ {is : List Int} {xs : List V}, VRs K ws H (is.map D.int) xs → xs = is.map V.int
  | [], _, h => h
  | _ :: _, _, h => by
    obtain ⟨x, r, rfl, h1, h2⟩ := h
    have h1' : x = V.int _ := h1
    rw [h1', VRs.of_ints h2]; rfl
theorem VRs.strs (is : List Str) : VRs K ws H (is.map D.str) (is.map V.str) := by
  induction is with
  | nil => rfl
  | cons i is ih => exact ⟨_, _, rfl, rfl, ih⟩
theorem VRs.of_strs : ∀ {is : List Str} {xs : List V}, VRs K ws H (is.map D.str) xs → xs = is.map V.str
  | [], _, h => h
  | _ :: _, _, h => by
    obtain ⟨x, r, rfl, h1, h2⟩ := h
    have h1' : x = V.str _ := h1
    rw [h1', VRs.of_strs h2]; rfl
end
/-! ### the heap -/
/-- an exception object of the class at C, with its dict at dd -/
def exT (a C dd : Addr) : HO := .ext fun h => ∃ (oe : Obj) (vs : Array Value), h.get? a = some oe ∧ oe.cls = .ref C ∧ oe.dict = some dd ∧ oe.data = .fields vs
theorem exT_lst {a C dd : Addr} {xs : List V} : exT a C dd ≠ .lst xs := fun z => by
  have z' : HO.ext _ = HO.lst xs := z
  cases z'
theorem exT_tup {a C dd : Addr} {xs : List V} : exT a C dd ≠ .tup xs := fun z => by
  have z' : HO.ext _ = HO.tup xs := z
  cases z'
/-- fields, in their order -/
def FR (K : PySem.W.Frag) (ws : List Addr) (H : Hp) : List (Str × D) → List (Str × V) → Prop
  | [], xs => xs = []
  | p :: ps, xs => ∃ x r, xs = (p.1, x) :: r ∧ VR K ws H p.2 x ∧ FR K ws H ps r
def KR (K : PySem.W.Frag) (ws : List Addr) (H : Hp) : List (Key × D) → List (Key × V) → Prop
  | [], xs => xs = []
  | p :: ps, xs => ∃ x r, xs = (p.1, x) :: r ∧ VR K ws H p.2 x ∧ KR K ws H ps r
section
variable {K : PySem.W.Frag} {ws ws' : List Addr} {H H' : Hp}
theorem FR.mono (p : ws <+: ws') (l : Le K H H') : ∀ {fs : List (Str × D)} {xs : List (Str × V)}, FR K ws H fs xs → FR K ws' H' fs xs
  | [], _, h => h
  | _ :: _, _, h => by
    obtain ⟨x, r, e, h1, h2⟩ := h
    exact ⟨x, r, e, VR.mono p l h1, FR.mono p l h2⟩
theorem KR.mono (p : ws <+: ws') (l : Le K H H') : ∀ {fs : List (Key × D)} {xs : List (Key × V)}, KR K ws H fs xs → KR K ws' H' fs xs
  | [], _, h => h
  | _ :: _, _, h => by
    obtain ⟨x, r, e, h1, h2⟩ := h
    exact ⟨x, r, e, VR.mono p l h1, KR.mono p l h2⟩
theorem FR.len : ∀ {fs : List (Str × D)} {xs : List (Str × V)}, FR K ws H fs xs → xs.length = fs.length
  | [], _, h => by cases h; rfl
  | _ :: _, _, h => by
    obtain ⟨x, r, rfl, _, h2⟩ := h
    simp [FR.len h2]
theorem KR.len : ∀ {fs : List (Key × D)} {xs : List (Key × V)}, KR K ws H fs xs → xs.length = fs.length
  | [], _, h => by cases h; rfl
  | _ :: _, _, h => by
    obtain ⟨x, r, rfl, _, h2⟩ := h
    simp [KR.len h2]
theorem FR.look {f : Str} : ∀ {fs : List (Str × D)} {xs : List (Str × V)} {d : D}, FR K ws H fs xs → fs.lookup f = some d → ∃ v, xs.lookup f = some v ∧ VR K ws H d v
  | [], _, _, _, e => by simp at e
  | (g, y) :: _, _, d, h, e => by
    obtain ⟨x, r, rfl, h1, h2⟩ := h
    cases hb : f == g with
    | true =>
      simp only [List.lookup, hb] at e ⊢
      cases e
      exact ⟨x, rfl, h1⟩
    | false =>
      simp only [List.lookup, hb] at e ⊢
      exact FR.look h2 e
theorem FR.look_none {f : Str} : ∀ {fs : List (Str × D)} {xs : List (Str × V)}, FR K ws H fs xs → fs.lookup f = none → xs.lookup f = none
  | [], _, h, _ => by cases h; rfl
  | (g, y) :: _, _, h, e => by
    obtain ⟨x, r, rfl, h1, h2⟩ := h
    cases hb : f == g with
    | true => simp only [List.lookup, hb] at e; cases e
    | false =>
      simp only [List.lookup, hb] at e ⊢
      exact FR.look_none h2 e
end
section
variable (K : PySem.W.Frag) (cl : Nat → Addr)
/-- the object at a is o -/
def OR (ws : List Addr) (H : Hp) (a : Addr) : HB → Prop
  | .lst l => ∃ xs, H a = some (.lst xs) ∧ VRs K ws H l xs
  | .dic kvs => ∃ xs, H a = some (.dK xs) ∧ KR K ws H kvs xs
  | .ins c fs => ∃ dx xs, H a = some (.ins (cl c) dx xs) ∧ FR K ws H fs xs
  | .exc c fs => ∃ dd xs, H a = some (exT a (cl c) dd) ∧ H dd = some (.xd xs) ∧ FR K ws H fs xs
/-- the plain heap h stands in H, its places at the addresses ws -/
structure HR (ws : List Addr) (h : IH) (H : Hp) : Prop where
  len : ws.length = h.length
  nd : ws.Nodup
  ob : ∀ (n : Nat) (o : HB) (a : Addr), h[n]? = some o → ws[n]? = some a → OR K cl ws H a o
end
/-- what may be written -/
def Wr : HO → Prop
  | .lst _ => True
  | .dK _ => True
  | .dT _ => True
  | .set _ _ => True
  | .ins _ _ _ => True
  | _ => False
/-- kept but at x -/
def Kept (x : Addr) (H H' : Hp) : Prop := (∀ b u, b ≠ x → H b = some u → H' b = some u) ∧ ∀ u, H x = some u → Wr u
section
variable {K : PySem.W.Frag} {cl : Nat → Addr} {ws ws' : List Addr} {h : IH} {H H' : Hp} {a x p : Addr} {o : HO}
theorem Kept.new (hp : H p = none) : Kept p H (upd H p o) := ⟨fun b u hb e => by rw [upd_ne hb]; exact e, fun u e => by rw [hp] at e; cases e⟩
theorem Kept.wr {u : HO} (e : H x = some u) (w : Wr u) : Kept x H (upd H x o) := ⟨fun b u hb e => by rw [upd_ne hb]; exact e, fun v e' => by rw [e] at e'; cases e'; exact w⟩
theorem Kept.at (k : Kept x H H') {b : Addr} {u : HO} (e : H b = some u) (n : ¬ Wr u) : H' b = some u :=
  k.1 b u (fun z => by rw [z] at e; exact n (k.2 u e)) e
theorem Kept.rd (k : Kept x H H') {u : HO} (r : Rd H a u) (n : ¬ Wr u) : Rd H' a u := by
  rcases r with r | ⟨o, r⟩
  · exact .inl (k.at r n)
  · exact .inr ⟨o, k.at r (fun z => z)⟩
theorem Kept.le (k : Kept x H H') : Le K H H' := by
  refine ⟨fun a xs s => ?_, fun a xs s => ?_⟩
  · rcases s with r | r
    · exact .inl (k.rd r (fun z => z))
    · exact .inr r
  · rcases s with ⟨o, r⟩ | r
    · exact .inl ⟨o, k.at r (fun z => z)⟩
    · exact .inr r
theorem SqF.sq {xs : List V} (h : SqF K H a xs) : SqL K H a xs := by
  rcases h with ⟨o, h⟩ | h
  · exact .inl (.inr ⟨o, h⟩)
  · exact .inr h
/-- an object that is not at x stays -/
theorem OR.keep (p : ws <+: ws') (k : Kept x H H') (hx : a ≠ x) : ∀ {o : HB}, OR K cl ws H a o → OR K cl ws' H' a o
  | .lst _, h => by
    obtain ⟨xs, e, r⟩ := h
    exact ⟨xs, k.1 a _ hx e, VRs.mono p k.le r⟩
  | .dic _, h => by
    obtain ⟨xs, e, r⟩ := h
    exact ⟨xs, k.1 a _ hx e, KR.mono p k.le r⟩
  | .ins _ _, h => by
    obtain ⟨dx, xs, e, r⟩ := h
    exact ⟨dx, xs, k.1 a _ hx e, FR.mono p k.le r⟩
  | .exc _ _, h => by
    obtain ⟨dd, xs, e, e2, r⟩ := h
    exact ⟨dd, xs, k.1 a _ hx e, k.at e2 (fun z => z), FR.mono p k.le r⟩
theorem OR.some : ∀ {o : HB}, OR K cl ws H a o → ∃ u, H a = some u
  | .lst _, h => let ⟨_, e, _⟩ := h; ⟨_, e⟩
  | .dic _, h => let ⟨_, e, _⟩ := h; ⟨_, e⟩
  | .ins _ _, h => let ⟨_, _, e, _⟩ := h; ⟨_, e⟩
  | .exc _ _, h => let ⟨_, _, e, _⟩ := h; ⟨_, e⟩
theorem HR.at (r : HR K cl ws h H) {n : Nat} {o : HB} (e : h[n]? = some o) : ∃ a, ws[n]? = some a ∧ OR K cl ws H a o := by
  have hn : n < ws.length := by rw [r.len]; exact (List.getElem?_eq_some_iff.mp e).1
  exact ⟨ws[n], List.getElem?_eq_getElem hn, r.ob n o _ e (List.getElem?_eq_getElem hn)⟩
theorem HR.has (r : HR K cl ws h H) {n : Nat} {a : Addr} (e : ws[n]? = some a) : ∃ o, h[n]? = some o ∧ OR K cl ws H a o := by
  have hn : n < h.length := by rw [← r.len]; exact (List.getElem?_eq_some_iff.mp e).1
  exact ⟨h[n], List.getElem?_eq_getElem hn, r.ob n _ a (List.getElem?_eq_getElem hn) e⟩
theorem HR.free (r : HR K cl ws h H) (hp : H p = none) : p ∉ ws := fun hm => by
  obtain ⟨n, hn, e⟩ := List.getElem_of_mem hm
  obtain ⟨o, _, q⟩ := r.has (n := n) (a := p) (by rw [List.getElem?_eq_getElem hn, e])
  obtain ⟨u, z⟩ := q.some
  rw [hp] at z; cases z
/-- a new thing that no place shows -/
theorem HR.keep (r : HR K cl ws h H) (k : Kept p H H') (hp : p ∉ ws) : HR K cl ws h H' :=
  ⟨r.len, r.nd, fun n o a e1 e2 => (r.ob n o a e1 e2).keep (List.prefix_refl _) k (fun z => hp (z ▸ List.mem_of_getElem? e2))⟩
/-- a new place -/
theorem HR.new {no : HO} {o : HB} (r : HR K cl ws h H) (hp : H p = none) (ob : OR K cl (ws ++ [p]) (upd H p no) p o) : HR K cl (ws ++ [p]) (h ++ [o]) (upd H p no) := by
  have np := r.free hp
  have nd : (ws ++ [p]).Nodup := by
    refine List.nodup_append.mpr ⟨r.nd, by simp, fun a ha b hb => ?_⟩
    have e : b = p := by simpa using hb
    rw [e]
    exact fun z => np (z ▸ ha)
  refine ⟨by simp [r.len], nd, fun n u a e1 e2 => ?_⟩
  by_cases hn : n < h.length
  · rw [List.getElem?_append_left hn] at e1
    rw [List.getElem?_append_left (by rw [r.len]; exact hn)] at e2
    exact (r.ob n u a e1 e2).keep (List.prefix_append _ _) (Kept.new hp) (fun z => np (z ▸ List.mem_of_getElem? e2))
  · have hn' : n = h.length := by
      have := (List.getElem?_eq_some_iff.mp e1).1
      simp at this; omega
    subst hn'
    have e1' : o = u := by simpa using e1
    have e2' : p = a := by
      rw [← r.len] at e2
      simpa using e2
    subst e1' e2'
    exact ob
/-- a place written -/
theorem HR.set {n : Nat} {u ho : HO} {o : HB} (r : HR K cl ws h H) (ea : ws[n]? = some a) (eu : H a = some u) (w : Wr u) (no : OR K cl ws (upd H a ho) a o) : HR K cl ws (h.set n o) (upd H a ho) := by
  refine ⟨by simp [r.len], r.nd, fun m v b e1 e2 => ?_⟩
  by_cases hm : n = m
  · subst hm
    rw [ea] at e2; cases e2
    have hl := (List.getElem?_eq_some_iff.mp e1).1
    rw [List.getElem?_set_self (by simpa using hl)] at e1
    cases e1
    exact no
  · rw [List.getElem?_set_ne hm] at e1
    refine (r.ob m v b e1 e2).keep (List.prefix_refl _) (Kept.wr eu w) fun z => hm ?_
    subst z
    obtain ⟨h1, e1'⟩ := List.getElem?_eq_some_iff.mp ea
    obtain ⟨h2, e2'⟩ := List.getElem?_eq_some_iff.mp e2
    exact (List.getElem_inj r.nd).mp (e1'.trans e2'.symm)
end
end Fl
/-! Fl, part 2: what a plain step gives back, and the judgements: this node of the text does what this plain function does. -/
namespace Fl
open PySem L2
inductive R (α : Type) where
  | ok (a : α) (h : IH) | ex (c : Nat) (fs : List (Str × D)) (h : IH) | bad
def R.bind {α β : Type} (r : R α) (k : α → IH → R β) : R β := match r with
  | .ok a h => k a h
  | .ex c fs h => .ex c fs h
  | .bad => .bad
inductive RS where
  | nx (e : Lc) (h : IH) | rt (d : D) (h : IH) | bk (e : Lc) (h : IH) | ct (e : Lc) (h : IH) | ex (c : Nat) (fs : List (Str × D)) (e : Lc) (h : IH) | bad
abbrev SE := Lc → IH → R D
abbrev ST := Lc → IH → R Bool
abbrev SA := Lc → IH → R (List D)
abbrev SS := Lc → IH → RS
section
variable (K : PySem.W.Frag) (cl : Nat → Addr) (W : WX)
/-- the slots -/
def LR (ws : List Addr) (H : Hp) (e : Lc) (σ : St) : Prop := e.length = σ.length ∧ ∀ (i : Nat) (d : D), e[i]? = some (some d) → ∃ v, σ[i]? = some (some v) ∧ VR K ws H d v
/-- what is wanted behind r -/
def rd {α β : Type} (rel : List Addr → Hp → α → β → Prop) (r : R α) (ws : List Addr) (H : Hp) (σ : St) (Q : β → Hp → Prop) : Prop := match r with
  | .ok a h' => ∀ ws' H' v, ws <+: ws' → Le K H H' → HR K cl ws' h' H' → rel ws' H' a v → Q v H'
  | .ex c fs h' => ∀ ws' H' dd xs, ws <+: ws' → Le K H H' → HR K cl ws' h' H' → H' dd = some (.xd xs) → FR K ws' H' fs xs → W (.ref (cl c)) (some dd) σ H'
  | .bad => False
/-- .. behind a statement -/
def rdS (r : RS) (ws : List Addr) (H : Hp) (E : Ends) : Prop := match r with
  | .nx e h => ∀ ws' H' σ', ws <+: ws' → Le K H H' → HR K cl ws' h H' → LR K ws' H' e σ' → E.nx σ' H'
  | .bk e h => ∀ ws' H' σ', ws <+: ws' → Le K H H' → HR K cl ws' h H' → LR K ws' H' e σ' → E.bk σ' H'
  | .ct e h => ∀ ws' H' σ', ws <+: ws' → Le K H H' → HR K cl ws' h H' → LR K ws' H' e σ' → E.ct σ' H'
  | .rt d h => ∀ ws' H' v, ws <+: ws' → Le K H H' → HR K cl ws' h H' → VR K ws' H' d v → E.rt v H'
  | .ex c fs e h => ∀ ws' H' σ' dd xs, ws <+: ws' → Le K H H' → HR K cl ws' h H' → LR K ws' H' e σ' → H' dd = some (.xd xs) → FR K ws' H' fs xs → W (.ref (cl c)) (some dd) σ' H'
  | .bad => False
abbrev relB : List Addr → Hp → Bool → Bool → Prop := fun _ _ a b => a = b
def tE (f : SE) : TE := fun σ H Q => ∃ ws e h, HR K cl ws h H ∧ LR K ws H e σ ∧ rd K cl W (VR K) (f e h) ws H σ Q
def tT (f : ST) : TT := fun σ H Q => ∃ ws e h, HR K cl ws h H ∧ LR K ws H e σ ∧ rd K cl W relB (f e h) ws H σ Q
def tA (f : SA) : TA := fun σ H Q => ∃ ws e h, HR K cl ws h H ∧ LR K ws H e σ ∧ rd K cl W (VRs K) (f e h) ws H σ Q
def tS (f : SS) : TS := fun E σ H => ∃ ws e h, HR K cl ws h H ∧ LR K ws H e σ ∧ rdS K cl W (f e h) ws H E
end
structure DE (X : Cx) (cl : Nat → Addr) (W : WX) (e : Expr) (f : SE) : Prop where
  p : PE X e (tE X.K cl W f)
structure DT (X : Cx) (cl : Nat → Addr) (W : WX) (e : Expr) (f : ST) : Prop where
  p : PT X e (tT X.K cl W f)
structure DW (X : Cx) (cl : Nat → Addr) (W : WX) (e : Expr) (f : ST) : Prop where
  p : PW X e (tT X.K cl W f)
structure DA (X : Cx) (cl : Nat → Addr) (W : WX) (es : List Expr) (f : SA) : Prop where
  p : PA X es (tA X.K cl W f)
structure DS (X : Cx) (cl : Nat → Addr) (W : WX) (s : Stmt) (f : SS) : Prop where
  p : PS X s (tS X.K cl W f)
structure DSs (X : Cx) (cl : Nat → Addr) (W : WX) (ss : List Stmt) (f : SS) : Prop where
  p : PSs X ss (tS X.K cl W f)
section
variable {X : Cx} {e : Expr} {es : List Expr} {s : Stmt} {ss : List Stmt}
theorem peImp {t u : TE} (h : PE X e t) (i : ∀ σ H Q, u σ H Q → t σ H Q) : PE X e u := ⟨fun pins s σ H Q I q => h.run pins s σ H Q I (i σ H Q q)⟩
theorem ptImp {t u : TT} (h : PT X e t) (i : ∀ σ H Q, u σ H Q → t σ H Q) : PT X e u := ⟨fun pins s σ H Q I q => h.run pins s σ H Q I (i σ H Q q)⟩
theorem pwImp {t u : TT} (h : PW X e t) (i : ∀ σ H Q, u σ H Q → t σ H Q) : PW X e u := ⟨fun wh pins s σ H Q I q => h.run wh pins s σ H Q I (i σ H Q q)⟩
theorem paImp {t u : TA} (h : PA X es t) (i : ∀ σ H Q, u σ H Q → t σ H Q) : PA X es u := ⟨fun pos pins s σ H Q I q => h.run pos pins s σ H Q I (i σ H Q q)⟩
theorem psImp {t u : TS} (h : PS X s t) (i : ∀ D σ H, u D σ H → t D σ H) : PS X s u := ⟨fun pins z σ H D I q => h.run pins z σ H D I (i D σ H q)⟩
theorem pssImp {t u : TS} (h : PSs X ss t) (i : ∀ D σ H, u D σ H → t D σ H) : PSs X ss u := ⟨fun pins z σ H D I q => h.run pins z σ H D I (i D σ H q)⟩
end
section
variable {K : PySem.W.Frag} {cl : Nat → Addr} {W : WX} {ws ws' : List Addr} {h : IH} {H H' : Hp} {e : Lc} {σ : St}
theorem LR.mono (p : ws <+: ws') (l : Le K H H') (r : LR K ws H e σ) : LR K ws' H' e σ := ⟨r.1, fun i d q => by
  obtain ⟨v, a, b⟩ := r.2 i d q
  exact ⟨v, a, b.mono p l⟩⟩
theorem LR.set {d : D} {v : V} (r : LR K ws H e σ) (i : Nat) (q : VR K ws H d v) : LR K ws H (e.set i (some d)) (σ.set i (some v)) := by
  refine ⟨by simp [r.1], fun j d' hj => ?_⟩
  by_cases hi : i = j
  · subst hi
    have hl := (List.getElem?_eq_some_iff.mp hj).1
    rw [List.length_set] at hl
    rw [List.getElem?_set_self hl] at hj
    cases hj
    exact ⟨v, List.getElem?_set_self (by rw [← r.1]; exact hl), q⟩
  · rw [List.getElem?_set_ne hi] at hj
    obtain ⟨w, a, b⟩ := r.2 j d' hj
    exact ⟨w, by rw [List.getElem?_set_ne hi]; exact a, b⟩
theorem LR.none (r : LR K ws H e σ) (i : Nat) (x : Option V) : LR K ws H (e.set i none) (σ.set i x) := by
  refine ⟨by simp [r.1], fun j d' hj => ?_⟩
  by_cases hi : i = j
  · subst hi
    have hl := (List.getElem?_eq_some_iff.mp hj).1
    rw [List.length_set] at hl
    rw [List.getElem?_set_self hl] at hj
    cases hj
  · rw [List.getElem?_set_ne hi] at hj
    obtain ⟨w, a, b⟩ := r.2 j d' hj
    exact ⟨w, by rw [List.getElem?_set_ne hi]; exact a, b⟩
theorem rd.mono {α β : Type} {rel : List Addr → Hp → α → β → Prop} {r : R α} {Q : β → Hp → Prop} (p : ws <+: ws') (l : Le K H H') (q : rd K cl W rel r ws H σ Q) : rd K cl W rel r ws' H' σ Q := by
  cases r with
  | ok a h' => exact fun ws2 H2 v p2 l2 => q ws2 H2 v (p.trans p2) (l.trans l2)
  | ex c fs h' => exact fun ws2 H2 dd xs p2 l2 => q ws2 H2 dd xs (p.trans p2) (l.trans l2)
  | bad => exact q
theorem rdS.mono {r : RS} {E : Ends} (p : ws <+: ws') (l : Le K H H') (q : rdS K cl W r ws H E) : rdS K cl W r ws' H' E := by
  cases r with
  | nx e h' => exact fun ws2 H2 v p2 l2 => q ws2 H2 v (p.trans p2) (l.trans l2)
  | bk e h' => exact fun ws2 H2 v p2 l2 => q ws2 H2 v (p.trans p2) (l.trans l2)
  | ct e h' => exact fun ws2 H2 v p2 l2 => q ws2 H2 v (p.trans p2) (l.trans l2)
  | rt e h' => exact fun ws2 H2 v p2 l2 => q ws2 H2 v (p.trans p2) (l.trans l2)
  | ex c fs e h' => exact fun ws2 H2 s dd xs p2 l2 => q ws2 H2 s dd xs (p.trans p2) (l.trans l2)
  | bad => exact q
/-- one step, then the rest -/
theorem rd.seq {α β γ δ : Type} {rel1 : List Addr → Hp → α → γ → Prop} {rel2 : List Addr → Hp → β → δ → Prop} {r : R α} {k : α → IH → R β} {Q : δ → Hp → Prop} {T : γ → Hp → Prop}
    (q : rd K cl W rel2 (r.bind k) ws H σ Q)
    (hk : ∀ ws1 a h1 H1 v, ws <+: ws1 → Le K H H1 → HR K cl ws1 h1 H1 → rel1 ws1 H1 a v → rd K cl W rel2 (k a h1) ws1 H1 σ Q → T v H1) : rd K cl W rel1 r ws H σ T := by
  cases r with
  | ok a h' => exact fun ws1 H1 v p l hr rel => hk ws1 a h' H1 v p l hr rel (rd.mono p l q)
  | ex c fs h' => exact q
  | bad => exact q
theorem rd.imp {α γ : Type} {rel1 : List Addr → Hp → α → γ → Prop} {r : R α} {Q T : γ → Hp → Prop}
    (q : rd K cl W rel1 r ws H σ Q) (hk : ∀ v H1, Q v H1 → T v H1) : rd K cl W rel1 r ws H σ T := by
  cases r with
  | ok a h' => exact fun ws1 H1 v p l hr rel => hk v H1 (q ws1 H1 v p l hr rel)
  | ex c fs h' => exact q
  | bad => exact q
/-- an answer at once -/
theorem rd.now {α γ : Type} {rel : List Addr → Hp → α → γ → Prop} {a : α} {Q : γ → Hp → Prop} {v : γ} (q : rd K cl W rel (.ok a h) ws H σ Q) (hr : HR K cl ws h H) (r : rel ws H a v) : Q v H :=
  q ws H v (List.prefix_refl _) Le.refl hr r
/-- .. a new thing that no place shows (a tuple) -/
theorem rd.fresh {α γ : Type} {rel : List Addr → Hp → α → γ → Prop} {a : α} {Q : γ → Hp → Prop} {v : γ} {p : Addr} {o : HO} (q : rd K cl W rel (.ok a h) ws H σ Q) (hr : HR K cl ws h H) (hp : H p = none)
    (r : Le K H (upd H p o) → rel ws (upd H p o) a v) : Q v (upd H p o) :=
  have k : Kept p H (upd H p o) := Kept.new hp
  q ws _ v (List.prefix_refl _) k.le (hr.keep k (hr.free hp)) (r k.le)
/-- .. a new list -/
theorem rd.newList {γ : Type} {rel : List Addr → Hp → D → γ → Prop} {l : List D} {xs : List V} {Q : γ → Hp → Prop} {v : γ} {p : Addr} (q : rd K cl W rel (.ok (.ref h.length) (h ++ [.lst l])) ws H σ Q) (hr : HR K cl ws h H) (hp : H p = none)
    (hl : VRs K ws H l xs) (r : (ws ++ [p])[h.length]? = some p → rel (ws ++ [p]) (upd H p (.lst xs)) (.ref h.length) v) : Q v (upd H p (.lst xs)) := by
  have k : Kept p H (upd H p (.lst xs)) := Kept.new hp
  refine q (ws ++ [p]) _ v (List.prefix_append _ _) k.le (hr.new hp ⟨xs, upd_same, hl.mono (List.prefix_append _ _) k.le⟩) (r ?_)
  rw [← hr.len]
  simp
theorem VR.refI {n : Nat} {a : Addr} (h : ws[n]? = some a) : VR K ws H (.ref n) (.ref a) := ⟨a, rfl, h⟩
theorem VR.tupI {l : List D} {a : Addr} {xs : List V} (h : SqT K H a xs) (r : VRs K ws H l xs) : VR K ws H (.tup l) (.ref a) := ⟨a, xs, rfl, h, r⟩
end
/-! ### expressions -/
section
variable {X : Cx} {cl : Nat → Addr} {W : WX}
def eC (d : D) : SE := fun _ h => .ok d h
def eV (i : Nat) : SE := fun e h => match e[i]? with
  | some (some d) => .ok d h
  | _ => .bad
theorem de_int {i : Int} {j pos} : DE X cl W (.Constant (.int i) j pos) (eC (.int i)) := ⟨peImp pe_int fun σ H Q ⟨ws, e, h, hr, lr, q⟩ => q.now hr rfl⟩
theorem de_bl {b j pos} : DE X cl W (.Constant (.bool b) j pos) (eC (.bl b)) := ⟨peImp pe_bl fun σ H Q ⟨ws, e, h, hr, lr, q⟩ => q.now hr rfl⟩
theorem de_non {j pos} : DE X cl W (.Constant .none j pos) (eC .non) := ⟨peImp pe_non fun σ H Q ⟨ws, e, h, hr, lr, q⟩ => q.now hr rfl⟩
theorem de_str {x : Str} {j pos} : DE X cl W (.Constant (.str x) j pos) (eC (.str x)) := ⟨peImp pe_str fun σ H Q ⟨ws, e, h, hr, lr, q⟩ => q.now hr rfl⟩
theorem de_v (i : Nat) {x : Str} {pos : Pos} (hN : X.N[i]? = some x := by rfl) (hv : Vis X.env.scope x := by first | exact Or.inl rfl | exact Or.inr (Or.inl rfl) | exact Or.inr (Or.inr rfl))
    (hd : (x == ("__debug__" : Str)) = false := by decide) (hc : (x == ("__classdict__" : Str)) = false := by decide) : DE X cl W (.Name x pos) (eV i) := by
  refine ⟨peImp (pe_var hN hv hd hc) fun σ H Q ⟨ws, e, h, hr, lr, q⟩ => ?_⟩
  unfold eV at q
  split at q
  · rename_i d he
    obtain ⟨v, h1, h2⟩ := lr.2 i d he
    exact ⟨v, h1, q.now hr h2⟩
  · exact q.elim
/-- a constant of the module: an int, a text -/
theorem de_g {x : Str} {u : Value} {v : V} {d : D} {pos : Pos} (hg : Gl X x) (hm : X.mg x = some u) (r : RelV v u) (hd : ∀ ws H, VR X.K ws H d v) (hdb : (x == ("__debug__" : Str)) = false := by decide) : DE X cl W (.Name x pos) (eC d) :=
  ⟨peImp (pe_glob hg hm r hdb) fun σ H Q ⟨ws, e, h, hr, lr, q⟩ => q.now hr (hd ws H)⟩
/-! arguments, displays -/
def aNil : SA := fun _ h => .ok [] h
def aCons (f : SE) (g : SA) : SA := fun e h => (f e h).bind fun d h1 => (g e h1).bind fun ds h2 => .ok (d :: ds) h2
theorem da_nil : DA X cl W [] aNil := ⟨paImp pa_nil fun σ H Q ⟨ws, e, h, hr, lr, q⟩ => q.now hr rfl⟩
theorem da_cons {e : Expr} {es : List Expr} {f : SE} {g : SA} (h1 : DE X cl W e f) (h2 : DA X cl W es g) (hs : starEach (e :: es) X.env = (false, eval e X.env) :: starEach es X.env := by rfl) : DA X cl W (e :: es) (aCons f g) := by
  refine ⟨paImp (pa_cons h1.p h2.p hs) fun σ H Q ⟨ws, lc, h, hr, lr, q⟩ => ⟨ws, lc, h, hr, lr, ?_⟩⟩
  refine rd.seq q fun ws1 d h1 H1 v p1 l1 hr1 r1 q1 => ⟨ws1, lc, h1, hr1, lr.mono p1 l1, ?_⟩
  refine rd.seq q1 fun ws2 ds h2 H2 vs p2 l2 hr2 r2 q2 => ?_
  exact q2.now hr2 ⟨v, vs, rfl, r1.mono p2 l2, r2⟩
def eTup (g : SA) : SE := fun e h => (g e h).bind fun ds h1 => if ds.length ≤ sizeLine then .ok (.tup ds) h1 else .bad
def eLst (g : SA) : SE := fun e h => (g e h).bind fun ds h1 => if ds.length ≤ sizeLine then .ok (.ref h1.length) (h1 ++ [.lst ds]) else .bad
theorem de_tup {es : List Expr} {x1} {pos : Pos} {g : SA} (h1 : DA X cl W es g) : DE X cl W (.Tuple es x1 pos) (eTup g) := by
  refine ⟨peImp (pe_tup h1.p) fun σ H Q ⟨ws, lc, h, hr, lr, q⟩ => ⟨ws, lc, h, hr, lr, ?_⟩⟩
  refine rd.seq q fun ws1 ds h1 H1 vs p1 l1 hr1 r1 q1 => ?_
  split at q1
  · rename_i hz
    refine ⟨by rw [r1.len]; exact hz, fun p hp => q1.fresh hr1 hp fun le => VR.tupI (SqT.of upd_same) (r1.mono (List.prefix_refl _) le)⟩
  · exact q1.elim
theorem de_lst {es : List Expr} {pos : Pos} {g : SA} (h1 : DA X cl W es g) : DE X cl W (.List es pos) (eLst g) := by
  refine ⟨peImp (pe_lst h1.p) fun σ H Q ⟨ws, lc, h, hr, lr, q⟩ => ⟨ws, lc, h, hr, lr, ?_⟩⟩
  refine rd.seq q fun ws1 ds h1 H1 vs p1 l1 hr1 r1 q1 => ?_
  split at q1
  · rename_i hz
    refine ⟨by rw [r1.len]; exact hz, fun p hp => q1.newList hr1 hp r1 fun e => VR.refI e⟩
  · exact q1.elim
/-! operators -/
/-- the operation f does what F does -/
def Op2 (X : Cx) (cl : Nat → Addr) (W : WX) (f : Value → Value → Sem Value) (F : D → D → IH → R D) : Prop :=
  ∃ r : R2, OpR X f r ∧ ∀ ws h H σ a b x y Q, HR X.K cl ws h H → VR X.K ws H a x → VR X.K ws H b y → rd X.K cl W (VR X.K) (F a b h) ws H σ Q → r x y H Q
def eOp (F : D → D → IH → R D) (f g : SE) : SE := fun e h => (f e h).bind fun a h1 => (g e h1).bind fun b h2 => F a b h2
theorem op_bin {F : D → D → IH → R D} {r : R2} {f g : SE} (hF : ∀ ws h H σ a b x y Q, HR X.K cl ws h H → VR X.K ws H a x → VR X.K ws H b y → rd X.K cl W (VR X.K) (F a b h) ws H σ Q → r x y H Q) :
    ∀ σ H Q, tE X.K cl W (eOp F f g) σ H Q → tOp r (tE X.K cl W f) (tE X.K cl W g) σ H Q := by
  intro σ H Q ⟨ws, lc, h, hr, lr, q⟩
  refine ⟨ws, lc, h, hr, lr, ?_⟩
  refine rd.seq q fun ws1 d h1 H1 v p1 l1 hr1 r1 q1 => ⟨ws1, lc, h1, hr1, lr.mono p1 l1, ?_⟩
  refine rd.seq q1 fun ws2 ds h2 H2 vs p2 l2 hr2 r2 q2 => ?_
  exact hF _ _ _ _ _ _ _ _ _ hr2 (r1.mono p2 l2) r2 q2
theorem de_op {op : Operator} {a b : Expr} {pos : Pos} {F : D → D → IH → R D} {f g : SE} (o : Op2 X cl W (binaryOp op) F) (ha : DE X cl W a f) (hb : DE X cl W b g) : DE X cl W (.BinOp a op b pos) (eOp F f g) := by
  obtain ⟨r, ho, hF⟩ := o
  exact ⟨peImp (pe_op ho ha.p hb.p) (op_bin hF)⟩
theorem de_cmp {op : CmpOp} {a b : Expr} {pos : Pos} {F : D → D → IH → R D} {f g : SE} (o : Op2 X cl W (compareOp op) F) (ha : DE X cl W a f) (hb : DE X cl W b g) (hm : behindInMarks op b = false) : DE X cl W (.Compare a [op] [b] pos) (eOp F f g) := by
  obtain ⟨r, ho, hF⟩ := o
  exact ⟨peImp (pe_cmpR ho ha.p hb.p hm) (op_bin hF)⟩
/-- a test that is a True or False -/
def tB (f : SE) : ST := fun e h => (f e h).bind fun d h1 => match d with
  | .bl b => .ok b h1
  | _ => .bad
theorem tB_of {f : SE} : ∀ σ H Q, tT X.K cl W (tB f) σ H Q → tTest (tE X.K cl W f) σ H Q := by
  intro σ H Q ⟨ws, lc, h, hr, lr, q⟩
  refine ⟨ws, lc, h, hr, lr, ?_⟩
  refine rd.seq q fun ws1 d h1 H1 v p1 l1 hr1 r1 q1 => ?_
  split at q1
  · rename_i b
    exact ⟨b, r1, q1.now hr1 rfl⟩
  · exact q1.elim
theorem dt_cmp {op : CmpOp} {a b : Expr} {pos : Pos} {F : D → D → IH → R D} {f g : SE} (o : Op2 X cl W (compareOp op) F) (ha : DE X cl W a f) (hb : DE X cl W b g) (hm : behindInMarks op b = false) : DT X cl W (.Compare a [op] [b] pos) (tB (eOp F f g)) := by
  obtain ⟨r, ho, hF⟩ := o
  refine ⟨ptImp (pt_cmpR ho ha.p hb.p hm) fun σ H Q q => ?_⟩
  obtain ⟨ws, lc, h, hr, lr, q⟩ := tB_of σ H Q q
  exact op_bin hF σ H _ ⟨ws, lc, h, hr, lr, q⟩
end
end Fl
/-! Fl, part 3: operators, tests, subscripts, calls of built-ins. -/
namespace Fl
open PySem L2
/-! ### arithmetic -/
def fAdd : D → D → IH → R D
  | .int i, .int j, h => .ok (.int (i + j)) h
  | .str a, .str b, h => if a.length + b.length ≤ sizeLine then .ok (.str (a ++ b)) h else .bad
  | .tup a, .tup b, h => if a.length + b.length ≤ sizeLine then .ok (.tup (a ++ b)) h else .bad
  | .ref n, .ref m, h => match h[n]?, h[m]? with
    | some (.lst a), some (.lst b) => if a.length + b.length ≤ sizeLine then .ok (.ref h.length) (h ++ [.lst (a ++ b)]) else .bad
    | _, _ => .bad
  | _, _, _ => .bad
def fSub : D → D → IH → R D
  | .int i, .int j, h => .ok (.int (i - j)) h
  | _, _, _ => .bad
/-- a factor is small, or both are of some thousand bits -/
def MulOk (i j : Int) : Prop := (-(2 ^ 64) < i ∧ i < 2 ^ 64) ∨ (-(2 ^ 64) < j ∧ j < 2 ^ 64)
instance {i j : Int} : Decidable (MulOk i j) := by unfold MulOk; exact inferInstance
def fMul : D → D → IH → R D
  | .int i, .int j, h => if MulOk i j then .ok (.int (i * j)) h else .bad
  | .ref n, .int k, h => match h[n]? with
    | some (.lst a) => if -(2 ^ 63) ≤ k ∧ k < 2 ^ 63 ∧ a.length * k.toNat ≤ sizeLine then .ok (.ref h.length) (h ++ [.lst (List.replicate k.toNat a).flatten]) else .bad
    | _ => .bad
  | .tup a, .int k, h => if a.length ≤ 1000 ∧ a ≠ [] ∧ 2 ≤ k ∧ k ≤ 1000 then .ok (.tup (List.replicate k.toNat a).flatten) h else .bad
  | _, _, _ => .bad
def fMod : D → D → IH → R D
  | .int i, .int j, h => if 0 < j then .ok (.int (i % j)) h else .bad
  | _, _, _ => .bad
def fDiv : D → D → IH → R D
  | .int i, .int j, h => if 0 < j ∧ j < 1073741824 then .ok (.int (i / j)) h else .bad
  | _, _, _ => .bad
def fPow : D → D → IH → R D
  | .int i, .int j, h => if 0 ≤ j ∧ j ≤ 1000000 ∧ i.natAbs < 2 ^ 64 then .ok (.int (i ^ j.toNat)) h else .bad
  | _, _, _ => .bad
def fShl : D → D → IH → R D
  | .int i, .int j, h => if 0 ≤ j ∧ j ≤ 1000000 ∧ i.natAbs < 2 ^ 64 then .ok (.int (i * 2 ^ j.toNat)) h else .bad
  | _, _, _ => .bad
section
variable {X : Cx} {cl : Nat → Addr} {W : WX}
theorem VR.list {K : PySem.W.Frag} {ws : List Addr} {h : IH} {H : Hp} {n : Nat} {v : V} {l : List D} (hr : HR K cl ws h H) (r : VR K ws H (.ref n) v) (e : h[n]? = some (.lst l)) :
    ∃ a xs, v = .ref a ∧ ws[n]? = some a ∧ H a = some (.lst xs) ∧ VRs K ws H l xs := by
  obtain ⟨a, rfl, ea⟩ := r
  obtain ⟨xs, h1, h2⟩ := hr.ob n _ a e ea
  exact ⟨a, xs, rfl, ea, h1, h2⟩
theorem VR.dict {K : PySem.W.Frag} {ws : List Addr} {h : IH} {H : Hp} {n : Nat} {v : V} {l : List (Key × D)} (hr : HR K cl ws h H) (r : VR K ws H (.ref n) v) (e : h[n]? = some (.dic l)) :
    ∃ a xs, v = .ref a ∧ ws[n]? = some a ∧ H a = some (.dK xs) ∧ KR K ws H l xs := by
  obtain ⟨a, rfl, ea⟩ := r
  obtain ⟨xs, h1, h2⟩ := hr.ob n _ a e ea
  exact ⟨a, xs, rfl, ea, h1, h2⟩
theorem VRs.ne {K : PySem.W.Frag} {ws : List Addr} {H : Hp} {l : List D} {xs : List V} (r : VRs K ws H l xs) : xs = [] ↔ l = [] := by
  have e := r.len
  constructor
  · intro z; subst z; exact List.length_eq_zero_iff.mp e.symm
  · intro z; subst z; exact List.length_eq_zero_iff.mp e
theorem op_fAdd : Op2 X cl W (binaryOp .Add) fAdd := by
  refine ⟨_, op_add.or (op_add_str.or (op_catA.or op_cat)), fun ws h H σ a b x y Q hr ra rb q => ?_⟩
  cases a <;> cases b <;> first
    | exact q.elim
    | skip
  · rename_i i j
    exact .inl ⟨i, j, ra, rb, q.now hr rfl⟩
  · rename_i i j
    unfold fAdd at q
    dsimp only at q
    split at q
    · rename_i hz
      exact .inr (.inl ⟨i, j, ra, rb, hz, q.now hr rfl⟩)
    · exact q.elim
  · rename_i la lb
    unfold fAdd at q
    dsimp only at q
    split at q
    · rename_i hz
      obtain ⟨a, xs, ea, sa, r1⟩ := ra
      obtain ⟨b, ys, eb, sb, r2⟩ := rb
      refine .inr (.inr (.inl ⟨a, b, xs, ys, ea, eb, sa, sb, by rw [r1.len, r2.len]; exact hz, fun z => ?_, fun z1 z2 => ?_, fun z1 z2 p hp => ?_⟩))
      · have z' := r1.ne.mp z
        subst z'
        exact q.now hr ⟨b, ys, rfl, sb, r2⟩
      · have z' := r2.ne.mp z2
        subst z'
        rw [List.append_nil] at q
        exact q.now hr ⟨a, xs, rfl, sa, r1⟩
      · exact q.fresh hr hp fun le => VR.tupI (SqT.of upd_same) ((r1.append r2).mono (List.prefix_refl _) le)
    · exact q.elim
  · rename_i n m
    unfold fAdd at q
    dsimp only at q
    split at q
    · rename_i l1 l2 h1 h2
      split at q
      · rename_i hz
        obtain ⟨a, xs, e1, _, e3, e4⟩ := ra.list hr h1
        obtain ⟨b, ys, f1, _, f3, f4⟩ := rb.list hr h2
        exact .inr (.inr (.inr ⟨a, b, xs, ys, e1, f1, e3, f3, by rw [e4.len, f4.len]; exact hz, fun p hp => q.newList hr hp (e4.append f4) fun e => VR.refI e⟩))
      · exact q.elim
    · exact q.elim
theorem op_fSub : Op2 X cl W (binaryOp .Sub) fSub := by
  refine ⟨_, op_sub, fun ws h H σ a b x y Q hr ra rb q => ?_⟩
  cases a <;> cases b <;> first
    | exact q.elim
    | skip
  rename_i i j
  exact ⟨i, j, ra, rb, q.now hr rfl⟩
theorem VRs.rep {K : PySem.W.Frag} {ws : List Addr} {H : Hp} {l : List D} {xs : List V} (r : VRs K ws H l xs) : ∀ k : Nat, VRs K ws H (List.replicate k l).flatten (List.replicate k xs).flatten
  | 0 => by simp [VRs]
  | k + 1 => by
    rw [List.replicate_succ, List.replicate_succ, List.flatten_cons, List.flatten_cons]
    exact r.append (VRs.rep r k)
theorem op_fMul : Op2 X cl W (binaryOp .Mult) fMul := by
  refine ⟨_, op_mul.or (op_rep.or op_repT), fun ws h H σ a b x y Q hr ra rb q => ?_⟩
  cases a <;> cases b <;> first
    | exact q.elim
    | skip
  · rename_i i j
    unfold fMul at q
    dsimp only at q
    split at q
    · rename_i hz
      exact .inl ⟨i, j, ra, rb, hz, q.now hr rfl⟩
    · exact q.elim
  · rename_i l k
    unfold fMul at q
    dsimp only at q
    split at q
    · rename_i hz
      obtain ⟨a, xs, ea, sa, r1⟩ := ra
      refine .inr (.inr ⟨a, k, xs, ea, rb, sa, fun z => hz.2.1 (r1.ne.mp z), hz.2.2.1, hz.2.2.2, by rw [r1.len]; exact hz.1, fun p hp => q.fresh hr hp fun le => VR.tupI (SqT.of upd_same) ((r1.rep _).mono (List.prefix_refl _) le)⟩)
    · exact q.elim
  · rename_i n k
    unfold fMul at q
    dsimp only at q
    split at q
    · rename_i l1 h1
      split at q
      · rename_i hz
        obtain ⟨a, xs, e1, _, e3, e4⟩ := ra.list hr h1
        exact .inr (.inl ⟨a, k, xs, e1, rb, e3, hz.1, hz.2.1, by rw [e4.len]; exact hz.2.2, fun p hp => q.newList hr hp (e4.rep _) fun e => VR.refI e⟩)
      · exact q.elim
    · exact q.elim
theorem op_fMod : Op2 X cl W (binaryOp .Mod) fMod := by
  refine ⟨_, op_mod, fun ws h H σ a b x y Q hr ra rb q => ?_⟩
  cases a <;> cases b <;> first
    | exact q.elim
    | skip
  rename_i i j
  unfold fMod at q
  dsimp only at q
  split at q
  · rename_i hz
    exact ⟨i, j, ra, rb, hz, q.now hr rfl⟩
  · exact q.elim
theorem op_fDiv : Op2 X cl W (binaryOp .FloorDiv) fDiv := by
  refine ⟨_, op_fdiv, fun ws h H σ a b x y Q hr ra rb q => ?_⟩
  cases a <;> cases b <;> first
    | exact q.elim
    | skip
  rename_i i j
  unfold fDiv at q
  dsimp only at q
  split at q
  · rename_i hz
    exact ⟨i, j, ra, rb, hz, q.now hr rfl⟩
  · exact q.elim
theorem op_fPow : Op2 X cl W (binaryOp .Pow) fPow := by
  refine ⟨_, op_pow, fun ws h H σ a b x y Q hr ra rb q => ?_⟩
  cases a <;> cases b <;> first
    | exact q.elim
    | skip
  rename_i i j
  unfold fPow at q
  dsimp only at q
  split at q
  · rename_i hz
    exact ⟨i, j, ra, rb, hz, q.now hr rfl⟩
  · exact q.elim
theorem op_fShl : Op2 X cl W (binaryOp .LShift) fShl := by
  refine ⟨_, op_shl, fun ws h H σ a b x y Q hr ra rb q => ?_⟩
  cases a <;> cases b <;> first
    | exact q.elim
    | skip
  rename_i i j
  unfold fShl at q
  dsimp only at q
  split at q
  · rename_i hz
    exact ⟨i, j, ra, rb, hz, q.now hr rfl⟩
  · exact q.elim
/-- -a -/
def eNeg (f : SE) : SE := fun e h => (f e h).bind fun a h1 => match a with
  | .int i => .ok (.int (-i)) h1
  | _ => .bad
theorem de_neg {a : Expr} {pos : Pos} {f : SE} (ha : DE X cl W a f) : DE X cl W (.UnaryOp .USub a pos) (eNeg f) := by
  refine ⟨peImp (pe_un un_neg ha.p) fun σ H Q ⟨ws, lc, h, hr, lr, q⟩ => ⟨ws, lc, h, hr, lr, ?_⟩⟩
  refine rd.seq q fun ws1 d h1 H1 v p1 l1 hr1 r1 q1 => ?_
  cases d <;> first
    | exact q1.elim
    | skip
  rename_i i
  exact ⟨i, r1, q1.now hr1 rfl⟩
/-! ### comparisons -/
/-- the data of a value -/
def pd : Nat → IH → D → Option PyData
  | 0, _, _ => none
  | _ + 1, _, .non => some .none
  | _ + 1, _, .bl b => some (.bool b)
  | _ + 1, _, .int i => some (.int i)
  | _ + 1, _, .str s => some (.str s)
  | n + 1, h, .tup l => (l.mapM (pd n h)).map .tuple
  | n + 1, h, .fls l => (l.mapM (pd n h)).map .list
  | n + 1, h, .ref r => match h[r]? with
    | some (.lst l) => (l.mapM (pd n h)).map .list
    | _ => none
theorem mapM_some {α β : Type} {f : α → Option β} : ∀ {l : List α} {ys : List β}, l.mapM f = some ys → ∀ {P : List α → List β → Prop}, P [] [] → (∀ a b l ys, f a = some b → P l ys → P (a :: l) (b :: ys)) → P l ys
  | [], ys, e, P, h0, _ => by
    simp at e; subst e; exact h0
  | a :: l, ys, e, P, h0, h1 => by
    rw [List.mapM_cons] at e
    cases ha : f a with
    | none => rw [ha] at e; cases e
    | some b =>
      rw [ha] at e
      cases hl : l.mapM f with
      | none =>
        have e' : (none : Option (List β)) = some ys := by simpa [hl] using e
        cases e'
      | some zs =>
        have e' : b :: zs = ys := by simpa [hl] using e
        subst e'
        exact h1 a b l zs ha (mapM_some hl h0 h1)
theorem pd_dp {K : PySem.W.Frag} {ws : List Addr} {h : IH} {H : Hp} (hr : HR K cl ws h H) : ∀ (n : Nat) (d : D) (v : V) (z : PyData), VR K ws H d v → pd n h d = some z → Dp K H v z := by
  intro n
  induction n with
  | zero => intro d v z _ e; cases e
  | succ n ih =>
    have all : ∀ (l : List D) (xs : List V) (zs : List PyData), VRs K ws H l xs → l.mapM (pd n h) = some zs → DpAll K H xs zs := fun l xs zs r e => by
      refine mapM_some e (P := fun l zs => ∀ xs, VRs K ws H l xs → DpAll K H xs zs) (fun xs r => ?_) (fun a b l ys ha hp xs r => ?_) xs r
      · cases r; exact .nil
      · obtain ⟨x, t, rfl, r1, r2⟩ := r
        exact .cons (ih a x b r1 ha) (hp t r2)
    intro d v z r e
    cases d with
    | non => cases e; cases r; exact .non
    | bl b => cases e; cases r; exact .bl b
    | int i => cases e; cases r; exact .int i
    | str s => cases e; cases r; exact .str s
    | tup l =>
      obtain ⟨a, xs, rfl, s, r⟩ := r
      obtain ⟨zs, e1, rfl⟩ := Option.map_eq_some_iff.mp (show (l.mapM (pd n h)).map PyData.tuple = some z from e)
      exact .tup s (all l xs zs r e1)
    | fls l =>
      obtain ⟨a, xs, rfl, s, r⟩ := r
      obtain ⟨zs, e1, rfl⟩ := Option.map_eq_some_iff.mp (show (l.mapM (pd n h)).map PyData.list = some z from e)
      exact .lst s.sq (all l xs zs r e1)
    | ref m =>
      unfold pd at e
      split at e
      · rename_i l hl
        obtain ⟨a, xs, rfl, _, e3, r⟩ := r.list hr hl
        obtain ⟨zs, e1, rfl⟩ := Option.map_eq_some_iff.mp e
        exact .lst (SqL.of e3) (all l xs zs r e1)
      · cases e
def fEq (neg : Bool) : D → D → IH → R D
  | .int i, .int j, h => .ok (.bl (neg != decide (i = j))) h
  | .str i, .str j, h => .ok (.bl (neg != decide (i = j))) h
  | .bl i, .bl j, h => .ok (.bl (neg != decide (i = j))) h
  | .non, .non, h => .ok (.bl (neg != true)) h
  | .non, .int _, h => .ok (.bl neg) h
  | .int _, .non, h => .ok (.bl neg) h
  | .non, .str _, h => .ok (.bl neg) h
  | .str _, .non, h => .ok (.bl neg) h
  | .int _, .str _, h => .ok (.bl neg) h
  | .str _, .int _, h => .ok (.bl neg) h
  | a, b, h => match pd 65 h a, pd 65 h b with
    | some x, some y => if SeqAt.shaped x = true ∧ SeqAt.shaped y = true then .ok (.bl (neg != PyData.eqv x y)) h else .bad
    | _, _ => .bad
theorem rEqOk {K : PySem.W.Frag} {ws : List Addr} {h : IH} {H : Hp} {σ : St} {a b : D} {x y : V} {Q : VK} (hr : HR K cl ws h H) (ra : VR K ws H a x) (rb : VR K ws H b y) (q : rd K cl W (VR K) (fEq false a b h) ws H σ Q) : rEq x y H Q ∨ rEqD K x y H Q := by
  unfold fEq at q
  split at q <;> first
    | (obtain rfl := (show x = _ from ra); obtain rfl := (show y = _ from rb); exact .inl ⟨rfl, q.now hr (by simp [VR])⟩)
    | skip
  split at q
  · rename_i dx dy h1 h2
    split at q
    · rename_i hs
      exact .inr ⟨dx, dy, pd_dp hr _ _ _ _ ra h1, pd_dp hr _ _ _ _ rb h2, hs.1, hs.2, q.now hr (by simp [VR])⟩
    · exact q.elim
  · exact q.elim
theorem rNeOk {K : PySem.W.Frag} {ws : List Addr} {h : IH} {H : Hp} {σ : St} {a b : D} {x y : V} {Q : VK} (hr : HR K cl ws h H) (ra : VR K ws H a x) (rb : VR K ws H b y) (q : rd K cl W (VR K) (fEq true a b h) ws H σ Q) : rNe x y H Q ∨ rNeD K x y H Q := by
  unfold fEq at q
  split at q <;> first
    | (obtain rfl := (show x = _ from ra); obtain rfl := (show y = _ from rb); exact .inl ⟨rfl, q.now hr (by simp [VR])⟩)
    | skip
  split at q
  · rename_i dx dy h1 h2
    split at q
    · rename_i hs
      exact .inr ⟨dx, dy, pd_dp hr _ _ _ _ ra h1, pd_dp hr _ _ _ _ rb h2, hs.1, hs.2, q.now hr (by simp [VR])⟩
    · exact q.elim
  · exact q.elim
theorem op_fEq (hu : X.A.units + 64 < cLine) : Op2 X cl W (compareOp .Eq) (fEq false) := ⟨_, op_eq.or (op_eqD hu), fun ws h H σ a b x y Q hr ra rb q => rEqOk hr ra rb q⟩
theorem op_fNe (hu : X.A.units + 64 < cLine) : Op2 X cl W (compareOp .NotEq) (fEq true) := ⟨_, op_ne.or (op_neD hu), fun ws h H σ a b x y Q hr ra rb q => rNeOk hr ra rb q⟩
/-- <, <=, >, >= of ints (and of texts) -/
def fLt : D → D → IH → R D
  | .int i, .int j, h => .ok (.bl (decide (i < j))) h
  | .str i, .str j, h => .ok (.bl (decide (i.cps.toList < j.cps.toList))) h
  | _, _, _ => .bad
def fLe : D → D → IH → R D
  | .int i, .int j, h => .ok (.bl (decide (i ≤ j))) h
  | _, _, _ => .bad
def fGt : D → D → IH → R D
  | .int i, .int j, h => .ok (.bl (decide (j < i))) h
  | _, _, _ => .bad
def fGe : D → D → IH → R D
  | .int i, .int j, h => .ok (.bl (decide (j ≤ i))) h
  | _, _, _ => .bad
theorem op_fLt : Op2 X cl W (compareOp .Lt) fLt := by
  refine ⟨_, op_lt.or op_lt_str, fun ws h H σ a b x y Q hr ra rb q => ?_⟩
  cases a <;> cases b <;> first
    | exact q.elim
    | skip
  · rename_i i j
    exact .inl ⟨i, j, ra, rb, q.now hr rfl⟩
  · rename_i i j
    exact .inr ⟨i, j, ra, rb, q.now hr rfl⟩
theorem op_fLe : Op2 X cl W (compareOp .LtE) fLe := by
  refine ⟨_, op_le, fun ws h H σ a b x y Q hr ra rb q => ?_⟩
  cases a <;> cases b <;> first
    | exact q.elim
    | skip
  rename_i i j
  exact ⟨i, j, ra, rb, q.now hr rfl⟩
theorem op_fGt : Op2 X cl W (compareOp .Gt) fGt := by
  refine ⟨_, op_gt, fun ws h H σ a b x y Q hr ra rb q => ?_⟩
  cases a <;> cases b <;> first
    | exact q.elim
    | skip
  rename_i i j
  exact ⟨i, j, ra, rb, q.now hr rfl⟩
theorem op_fGe : Op2 X cl W (compareOp .GtE) fGe := by
  refine ⟨_, op_ge, fun ws h H σ a b x y Q hr ra rb q => ?_⟩
  cases a <;> cases b <;> first
    | exact q.elim
    | skip
  rename_i i j
  exact ⟨i, j, ra, rb, q.now hr rfl⟩
/-! ### in, is -/
def flatD : D → Bool
  | .non => true
  | .bl _ => true
  | .int _ => true
  | .str _ => true
  | _ => false
/-- == of flat values -/
def eqF : D → D → Bool
  | .non, .non => true
  | .bl a, .bl b => decide (a = b)
  | .bl a, .int b => decide ((if a then 1 else 0) = b)
  | .int a, .bl b => decide (a = (if b then 1 else 0))
  | .int a, .int b => decide (a = b)
  | .str a, .str b => decide (a = b)
  | _, _ => false
def inF (x : D) (l : List D) : Bool := l.any fun y => eqF y x
def kvK (kvs : List (Key × D)) (k : Key) : Option D := (kvs.find? fun kv => decide (kv.1 = k)).map (·.2)
/-- x in a sequence of flat things, in a dict, a sign in a text -/
def fIn (neg : Bool) : D → D → IH → R D
  | x, .tup l, h => if flatD x && l.all flatD then .ok (.bl (neg != inF x l)) h else .bad
  | x, .fls l, h => if flatD x && l.all flatD then .ok (.bl (neg != inF x l)) h else .bad
  | .int i, .ref n, h => match h[n]? with
    | some (.lst l) => if l.all flatD then .ok (.bl (neg != inF (.int i) l)) h else .bad
    | some (.dic kvs) => .ok (.bl (neg != (kvK kvs (.inl i)).isSome)) h
    | _ => .bad
  | .str i, .ref n, h => match h[n]? with
    | some (.lst l) => if l.all flatD then .ok (.bl (neg != inF (.str i) l)) h else .bad
    | some (.dic kvs) => .ok (.bl (neg != (kvK kvs (.inr i)).isSome)) h
    | _ => .bad
  | x, .ref n, h => match h[n]? with
    | some (.lst l) => if flatD x && l.all flatD then .ok (.bl (neg != inF x l)) h else .bad
    | _ => .bad
  | .str x, .str z, h => match x.cps.toList with
    | [c] => .ok (.bl (neg != decide (c ∈ z.cps.toList))) h
    | _ => .bad
  | _, _, _ => .bad
theorem flat_of {K : PySem.W.Frag} {ws : List Addr} {H : Hp} {d : D} {v : V} (r : VR K ws H d v) (f : flatD d = true) : flatV v = true := by
  cases d <;> first
    | (obtain rfl := (show v = _ from r); rfl)
    | cases f
theorem eqF_of {K : PySem.W.Frag} {ws : List Addr} {H : Hp} {d e : D} {v w : V} (r : VR K ws H d v) (r' : VR K ws H e w) (f : flatD d = true) (f' : flatD e = true) : eqV v w = eqF d e := by
  cases d <;> first
    | (obtain rfl := (show v = _ from r)
       cases e <;> first
         | (obtain rfl := (show w = _ from r'); first | rfl | (simp [eqV, eqF, Bool.beq_eq_decide_eq]; done))
         | cases f')
    | cases f
theorem inF_of {K : PySem.W.Frag} {ws : List Addr} {H : Hp} {d : D} {v : V} (r : VR K ws H d v) (f : flatD d = true) : ∀ {l : List D} {xs : List V}, VRs K ws H l xs → l.all flatD = true → xs.all flatV = true ∧ inV v xs = inF d l
  | [], _, q, _ => by cases q; exact ⟨rfl, rfl⟩
  | e :: l, _, q, g => by
    obtain ⟨x, t, rfl, r1, r2⟩ := q
    rw [List.all_cons, Bool.and_eq_true] at g
    obtain ⟨h1, h2⟩ := inF_of r f r2 g.2
    refine ⟨by rw [List.all_cons, flat_of r1 g.1, h1]; rfl, ?_⟩
    unfold inV inF at h2 ⊢
    rw [List.any_cons, List.any_cons, h2, eqF_of r1 r g.1 f]
theorem kvK_of {K : PySem.W.Frag} {ws : List Addr} {H : Hp} {k : Key} : ∀ {kvs : List (Key × D)} {xs : List (Key × V)}, KR K ws H kvs xs → (∀ d, kvK kvs k = some d → ∃ v, valV xs k = some v ∧ VR K ws H d v) ∧ (kvK kvs k = none → valV xs k = none)
  | [], _, q => by
    cases q
    refine ⟨fun d e => ?_, fun _ => valV_nil⟩
    cases e
  | (j, e) :: l, _, q => by
    obtain ⟨x, t, rfl, r1, r2⟩ := q
    obtain ⟨h1, h2⟩ := kvK_of (k := k) r2
    by_cases hj : j = k
    · subst hj
      rw [valV_pos (p := (j, x)) rfl]
      have z : kvK ((j, e) :: l) j = some e := by simp [kvK]
      rw [z]
      exact ⟨fun d q => by cases q; exact ⟨x, rfl, r1⟩, fun q => by cases q⟩
    · rw [valV_neg (p := (j, x)) hj]
      have z : kvK ((j, e) :: l) k = kvK l k := by simp [kvK, hj]
      rw [z]
      exact ⟨h1, h2⟩
theorem kvK_some {K : PySem.W.Frag} {ws : List Addr} {H : Hp} {k : Key} {kvs : List (Key × D)} {xs : List (Key × V)} (q : KR K ws H kvs xs) : (valV xs k).isSome = (kvK kvs k).isSome := by
  obtain ⟨h1, h2⟩ := kvK_of (k := k) q
  cases e : kvK kvs k with
  | none => rw [h2 e]; rfl
  | some d => obtain ⟨v, e', _⟩ := h1 d e; rw [e']; rfl
theorem strOne {x : Str} {c : Nat} {P : Str → Prop} (h : x.cps.toList = [c]) (q : Unit → P ⟨#[c]⟩) : P x := by
  obtain ⟨⟨l⟩⟩ := x
  have h' : l = [c] := h
  subst h'
  exact q ()
def rSgnI : R2 := fun x y H Q => ∃ (c : Nat) (z : Str), x = .str ⟨#[c]⟩ ∧ y = .str z ∧ Q (.bl (decide (c ∈ z.cps.toList))) H
def rSgnN : R2 := fun x y H Q => ∃ (c : Nat) (z : Str), x = .str ⟨#[c]⟩ ∧ y = .str z ∧ Q (.bl (!decide (c ∈ z.cps.toList))) H
def rDin : R2 := fun x y H Q => ∃ a o, y = .ref a ∧ DGet H a x o ∧ Q (.bl o.isSome) H
def rDnotin : R2 := fun x y H Q => ∃ a o, y = .ref a ∧ DGet H a x o ∧ Q (.bl (!o.isSome)) H
theorem op_din (hu : X.A.units + 1 < cLine) : OpR X (compareOp .In) rDin := by
  rintro pins s σ H x y v u Q I rx ry ⟨a, o, rfl, g, q⟩
  obtain rfl : u = Value.ref a := ry
  exact d_in hu I g rx fun s' I' => ⟨.bl o.isSome, H, I', rfl, q⟩
theorem op_dnotin (hu : X.A.units + 1 < cLine) : OpR X (compareOp .NotIn) rDnotin := by
  rintro pins s σ H x y v u Q I rx ry ⟨a, o, rfl, g, q⟩
  obtain rfl : u = Value.ref a := ry
  exact d_notIn hu I g rx fun s' I' => ⟨.bl (!o.isSome), H, I', rfl, q⟩
section
variable {K : PySem.W.Frag} {ws : List Addr} {h : IH} {H : Hp} {σ : St} {x : D} {v y : V} {Q : VK} {neg : Bool}
theorem in_seq {l : List D} {a : Addr} {xs : List V} (hr : HR K cl ws h H) (rx : VR K ws H x v) (s : SqL K H a xs ∨ SqT K H a xs) (r : VRs K ws H l xs) (f : (flatD x && l.all flatD) = true)
    (q : rd K cl W (VR K) (.ok (.bl (neg != inF x l)) h) ws H σ Q) : rIn K neg v (.ref a) H Q := by
  rw [Bool.and_eq_true] at f
  obtain ⟨h1, h2⟩ := inF_of rx f.1 r f.2
  refine ⟨a, xs, rfl, s, flat_of rx f.1, h1, q.now hr ?_⟩
  rw [h2]
  cases neg <;> simp [VR]
theorem fIn_of {rD : R2} {rS : R2} (hr : HR K cl ws h H) {b : D} (ra : VR K ws H x v) (rb : VR K ws H b y)
    (hD : ∀ (a : Addr) (o : Option V), DGet H a v o → Q (.bl (neg != o.isSome)) H → rD v (.ref a) H Q)
    (hS : ∀ (c : Nat) (z : Str), Q (.bl (neg != decide (c ∈ z.cps.toList))) H → rS (.str ⟨#[c]⟩) (.str z) H Q)
    (q : rd K cl W (VR K) (fIn neg x b h) ws H σ Q) : rIn K neg v y H Q ∨ rD v y H Q ∨ rS v y H Q := by
  have lst : ∀ {n : Nat} {l : List D}, h[n]? = some (.lst l) → b = .ref n → (flatD x && l.all flatD) = true → rd K cl W (VR K) (.ok (.bl (neg != inF x l)) h) ws H σ Q → rIn K neg v y H Q := fun {n l} e hb f q1 => by
    subst hb
    obtain ⟨a, xs, rfl, _, e3, r⟩ := rb.list hr e
    exact in_seq hr ra (.inl (SqL.of e3)) r f q1
  have dct : ∀ {n : Nat} {l : List (Key × D)} {k : Key}, h[n]? = some (.dic l) → b = .ref n → v = kV k → rd K cl W (VR K) (.ok (.bl (neg != (kvK l k).isSome)) h) ws H σ Q → rD v y H Q := fun {n l k} e hb hv q1 => by
    subst hb hv
    obtain ⟨a, xs, rfl, _, e3, r⟩ := rb.dict hr e
    refine hD a _ (DGet.k e3) (q1.now hr ?_)
    rw [kvK_some r]
    rfl
  unfold fIn at q
  split at q
  · split at q
    · rename_i f
      obtain ⟨a, xs, rfl, s, r⟩ := rb
      exact .inl (in_seq hr ra (.inr s) r f q)
    · exact q.elim
  · split at q
    · rename_i f
      obtain ⟨a, xs, rfl, s, r⟩ := rb
      exact .inl (in_seq hr ra (.inl s.sq) r f q)
    · exact q.elim
  · split at q
    · rename_i e
      split at q
      · rename_i f
        exact .inl (lst e rfl (by simpa [flatD] using f) q)
      · exact q.elim
    · rename_i e
      exact .inr (.inl (dct (k := Sum.inl _) e rfl ra q))
    · exact q.elim
  · split at q
    · rename_i e
      split at q
      · rename_i f
        exact .inl (lst e rfl (by simpa [flatD] using f) q)
      · exact q.elim
    · rename_i e
      exact .inr (.inl (dct (k := Sum.inr _) e rfl ra q))
    · exact q.elim
  · split at q
    · rename_i e
      split at q
      · rename_i f
        exact .inl (lst e rfl f q)
      · exact q.elim
    · exact q.elim
  · split at q
    · rename_i hc
      have e1 := (show y = _ from rb)
      have e2 := (show v = _ from ra)
      rw [e1, e2]
      refine .inr (.inr (strOne (P := fun t => rS (.str t) _ H Q) hc fun _ => ?_))
      exact hS _ _ (q.now hr rfl)
    · exact q.elim
  · exact q.elim
end
theorem op_fIn (hu : X.A.units + 1 < cLine) : Op2 X cl W (compareOp .In) (fIn false) :=
  ⟨_, op_in_seq.or ((op_din hu).or (r' := rSgnI) op_in_sign), fun ws h H σ a b x y Q hr ra rb q => by
    refine fIn_of (rD := rDin) (rS := rSgnI) hr ra rb (fun a o g k => ?_) (fun c z k => ?_) q
    · exact ⟨a, o, rfl, g, by simpa using k⟩
    · exact ⟨c, z, rfl, rfl, by simpa using k⟩⟩
theorem op_fNotIn (hu : X.A.units + 1 < cLine) : Op2 X cl W (compareOp .NotIn) (fIn true) :=
  ⟨_, op_notIn_seq.or ((op_dnotin hu).or (r' := rSgnN) op_notIn_sign), fun ws h H σ a b x y Q hr ra rb q => by
    refine fIn_of (rD := rDnotin) (rS := rSgnN) hr ra rb (fun a o g k => ?_) (fun c z k => ?_) q
    · exact ⟨a, o, rfl, g, by simpa using k⟩
    · exact ⟨c, z, rfl, rfl, by simpa using k⟩⟩
@[simp] def isN : D → Bool
  | .non => true
  | _ => false
theorem isN_of {K : PySem.W.Frag} {ws : List Addr} {H : Hp} {d : D} {v : V} (r : VR K ws H d v) : decide (v = .non) = isN d := by
  cases d with
  | non => cases r; rfl
  | bl _ => cases r; rfl
  | int _ => cases r; rfl
  | str _ => cases r; rfl
  | tup _ => obtain ⟨a, xs, rfl, _⟩ := r; rfl
  | fls _ => obtain ⟨a, xs, rfl, _⟩ := r; rfl
  | ref _ => obtain ⟨a, rfl, _⟩ := r; rfl
/-- is None, is not None -/
def fIs (neg : Bool) : D → D → IH → R D
  | a, .non, h => .ok (.bl (neg != isN a)) h
  | _, _, _ => .bad
theorem op_fIs : Op2 X cl W (compareOp .Is) (fIs false) := by
  refine ⟨_, op_isN, fun ws h H σ a b x y Q hr ra rb q => ?_⟩
  cases b <;> first
    | exact q.elim
    | skip
  obtain rfl := (show y = _ from rb)
  exact ⟨rfl, by rw [isN_of ra]; exact q.now hr (by simp [VR])⟩
theorem op_fIsNot : Op2 X cl W (compareOp .IsNot) (fIs true) := by
  refine ⟨_, op_notN, fun ws h H σ a b x y Q hr ra rb q => ?_⟩
  cases b <;> first
    | exact q.elim
    | skip
  obtain rfl := (show y = _ from rb)
  exact ⟨rfl, by rw [isN_of ra]; exact q.now hr (by simp [VR])⟩
end
end Fl
/-! Fl, part 4: tests, subscripts, slices, calls of built-ins, methods of built-in types. -/
namespace Fl
open PySem L2
section
variable {X : Cx} {cl : Nat → Addr} {W : WX}
/-! ### truth -/
@[simp] def tru : D → IH → Option Bool
  | .non, _ => some false
  | .bl b, _ => some b
  | .int i, _ => some (i != 0)
  | .str s, _ => if s.length ≤ sizeLine then some ((s.length : Int) != 0) else none
  | .tup l, _ => some (!l.isEmpty)
  | .fls l, _ => some (!l.isEmpty)
  | .ref n, h => match h[n]? with
    | some (.lst l) => some (!l.isEmpty)
    | some (.dic l) => some (!l.isEmpty)
    | _ => none
theorem emp_of {K : PySem.W.Frag} {ws : List Addr} {H : Hp} {l : List D} {xs : List V} (r : VRs K ws H l xs) : xs.isEmpty = l.isEmpty := by
  cases l with
  | nil => cases r; rfl
  | cons d l => obtain ⟨x, t, rfl, _⟩ := r; rfl
theorem empK_of {K : PySem.W.Frag} {ws : List Addr} {H : Hp} {l : List (Key × D)} {xs : List (Key × V)} (r : KR K ws H l xs) : xs.isEmpty = l.isEmpty := by
  cases l with
  | nil => cases r; rfl
  | cons d l => obtain ⟨x, t, rfl, _⟩ := r; rfl
theorem tru_of {K : PySem.W.Frag} {ws : List Addr} {h : IH} {H : Hp} {d : D} {v : V} {b : Bool} (hr : HR K cl ws h H) (r : VR K ws H d v) (e : tru d h = some b) : TruV K v H b := by
  cases d with
  | non => cases r; cases e; rfl
  | bl _ => cases r; cases e; rfl
  | int _ => cases r; cases e; rfl
  | str s =>
    cases r
    unfold tru at e
    dsimp only at e
    split at e
    · rename_i hz
      cases e
      exact ⟨hz, rfl⟩
    · cases e
  | tup l =>
    obtain ⟨a, xs, rfl, s, r⟩ := r
    cases e
    exact .inr (.inl ⟨xs, s, by rw [emp_of r]⟩)
  | fls l =>
    obtain ⟨a, xs, rfl, s, r⟩ := r
    cases e
    exact .inl ⟨xs, s.sq, by rw [emp_of r]⟩
  | ref n =>
    unfold tru at e
    dsimp only at e
    split at e
    · rename_i l hl
      obtain ⟨a, xs, rfl, _, e3, r⟩ := r.list hr hl
      cases e
      exact .inl ⟨xs, SqL.of e3, by rw [emp_of r]⟩
    · rename_i l hl
      obtain ⟨a, xs, rfl, _, e3, r⟩ := r.dict hr hl
      cases e
      exact .inr (.inr ⟨xs, e3, by rw [empK_of r]⟩)
    · cases e
def tTr (f : SE) : ST := fun e h => (f e h).bind fun d h1 => match tru d h1 with
  | some b => .ok b h1
  | none => .bad
theorem dt_tr {a : Expr} {f : SE} (ha : DE X cl W a f) (he : ∀ whole, isTrue a X.env whole = (do let v ← whole; standAt a.pos; holding [v] (truthy v)) := by intro _; rfl) : DT X cl W a (tTr f) := by
  refine ⟨ptImp (pt_truth ha.p he) fun σ H Q ⟨ws, lc, h, hr, lr, q⟩ => ⟨ws, lc, h, hr, lr, ?_⟩⟩
  refine rd.seq q fun ws1 d h1 H1 v p1 l1 hr1 r1 q1 => ?_
  split at q1
  · rename_i b hb
    exact ⟨b, tru_of hr1 r1 hb, q1.now hr1 rfl⟩
  · exact q1.elim
def tNo (f : ST) : ST := fun e h => (f e h).bind fun b h1 => .ok (!b) h1
theorem dt_not {a : Expr} {pos : Pos} {f : ST} (ha : DT X cl W a f) : DT X cl W (.UnaryOp .Not a pos) (tNo f) := by
  refine ⟨ptImp (pt_not ha.p) fun σ H Q ⟨ws, lc, h, hr, lr, q⟩ => ⟨ws, lc, h, hr, lr, ?_⟩⟩
  refine rd.seq q fun ws1 d h1 H1 v p1 l1 hr1 r1 q1 => ?_
  obtain rfl := (show d = v from r1)
  exact q1.now hr1 rfl
def tAn (f g : ST) : ST := fun e h => (f e h).bind fun b h1 => if b = true then g e h1 else .ok false h1
def tOr' (f g : ST) : ST := fun e h => (f e h).bind fun b h1 => if b = true then .ok true h1 else g e h1
theorem dw_and1 {a : Expr} {pos : Pos} {f : ST} (ha : DT X cl W a f) : DW X cl W (.BoolOp .And [a] pos) f := ⟨pw_and1 ha.p⟩
theorem dw_or1 {a : Expr} {pos : Pos} {f : ST} (ha : DT X cl W a f) : DW X cl W (.BoolOp .Or [a] pos) f := ⟨pw_or1 ha.p⟩
theorem dw_and {a b : Expr} {rest : List Expr} {pos : Pos} {f g : ST} (ha : DT X cl W a f) (hb : DW X cl W (.BoolOp .And (b :: rest) pos) g) : DW X cl W (.BoolOp .And (a :: b :: rest) pos) (tAn f g) := by
  refine ⟨pwImp (pw_and ha.p hb.p) fun σ H Q ⟨ws, lc, h, hr, lr, q⟩ => ⟨ws, lc, h, hr, lr, ?_⟩⟩
  refine rd.seq q fun ws1 d h1 H1 v p1 l1 hr1 r1 q1 => ?_
  obtain rfl := (show d = v from r1)
  cases d with
  | true => exact iteT ⟨ws1, lc, h1, hr1, lr.mono p1 l1, q1⟩
  | false => exact iteF (q1.now hr1 rfl)
theorem dw_or {a b : Expr} {rest : List Expr} {pos : Pos} {f g : ST} (ha : DT X cl W a f) (hb : DW X cl W (.BoolOp .Or (b :: rest) pos) g) : DW X cl W (.BoolOp .Or (a :: b :: rest) pos) (tOr' f g) := by
  refine ⟨pwImp (pw_or ha.p hb.p) fun σ H Q ⟨ws, lc, h, hr, lr, q⟩ => ⟨ws, lc, h, hr, lr, ?_⟩⟩
  refine rd.seq q fun ws1 d h1 H1 v p1 l1 hr1 r1 q1 => ?_
  obtain rfl := (show d = v from r1)
  cases d with
  | true => exact iteT (q1.now hr1 rfl)
  | false => exact iteF ⟨ws1, lc, h1, hr1, lr.mono p1 l1, q1⟩
theorem DW.t {a : Expr} {f : ST} (h : DW X cl W a f) : DT X cl W a f := ⟨h.p.pt⟩
/-! and, or, not as values -/
def eAn (f g : SE) : SE := fun e h => (f e h).bind fun d h1 => match tru d h1 with
  | some true => g e h1
  | some false => .ok d h1
  | none => .bad
def eOr (f g : SE) : SE := fun e h => (f e h).bind fun d h1 => match tru d h1 with
  | some true => .ok d h1
  | some false => g e h1
  | none => .bad
def eNot (f : SE) : SE := fun e h => (f e h).bind fun d h1 => match tru d h1 with
  | some b => .ok (.bl (!b)) h1
  | none => .bad
theorem de_one {op : BoolOp} {a : Expr} {pos : Pos} {f : SE} (ha : DE X cl W a f) : DE X cl W (.BoolOp op [a] pos) f := ⟨pe_one ha.p⟩
theorem de_and {a b : Expr} {rest : List Expr} {pos : Pos} {f g : SE} (ha : DE X cl W a f) (hb : DE X cl W (.BoolOp .And (b :: rest) pos) g) : DE X cl W (.BoolOp .And (a :: b :: rest) pos) (eAn f g) := by
  refine ⟨peImp (pe_andT ha.p hb.p) fun σ H Q ⟨ws, lc, h, hr, lr, q⟩ => ⟨ws, lc, h, hr, lr, ?_⟩⟩
  refine rd.seq q fun ws1 d h1 H1 v p1 l1 hr1 r1 q1 => ?_
  split at q1
  · rename_i hb
    exact ⟨true, tru_of hr1 r1 hb, iteT ⟨ws1, lc, h1, hr1, lr.mono p1 l1, q1⟩⟩
  · rename_i hb
    exact ⟨false, tru_of hr1 r1 hb, iteF (q1.now hr1 r1)⟩
  · exact q1.elim
theorem de_or {a b : Expr} {rest : List Expr} {pos : Pos} {f g : SE} (ha : DE X cl W a f) (hb : DE X cl W (.BoolOp .Or (b :: rest) pos) g) : DE X cl W (.BoolOp .Or (a :: b :: rest) pos) (eOr f g) := by
  refine ⟨peImp (pe_orT ha.p hb.p) fun σ H Q ⟨ws, lc, h, hr, lr, q⟩ => ⟨ws, lc, h, hr, lr, ?_⟩⟩
  refine rd.seq q fun ws1 d h1 H1 v p1 l1 hr1 r1 q1 => ?_
  split at q1
  · rename_i hb
    exact ⟨true, tru_of hr1 r1 hb, iteT (q1.now hr1 r1)⟩
  · rename_i hb
    exact ⟨false, tru_of hr1 r1 hb, iteF ⟨ws1, lc, h1, hr1, lr.mono p1 l1, q1⟩⟩
  · exact q1.elim
theorem de_not {a : Expr} {pos : Pos} {f : SE} (ha : DE X cl W a f) : DE X cl W (.UnaryOp .Not a pos) (eNot f) := by
  refine ⟨peImp (pe_notT ha.p) fun σ H Q ⟨ws, lc, h, hr, lr, q⟩ => ⟨ws, lc, h, hr, lr, ?_⟩⟩
  refine rd.seq q fun ws1 d h1 H1 v p1 l1 hr1 r1 q1 => ?_
  split at q1
  · rename_i b hb
    exact ⟨b, tru_of hr1 r1 hb, q1.now hr1 rfl⟩
  · exact q1.elim
def eIf (c : ST) (f g : SE) : SE := fun e h => (c e h).bind fun b h1 => if b = true then f e h1 else g e h1
theorem de_if {c a b : Expr} {pos : Pos} {t : ST} {f g : SE} (hc : DT X cl W c t) (ha : DE X cl W a f) (hb : DE X cl W b g) : DE X cl W (.IfExp c a b pos) (eIf t f g) := by
  refine ⟨peImp (pe_ifExp hc.p ha.p hb.p) fun σ H Q ⟨ws, lc, h, hr, lr, q⟩ => ⟨ws, lc, h, hr, lr, ?_⟩⟩
  refine rd.seq q fun ws1 d h1 H1 v p1 l1 hr1 r1 q1 => ?_
  obtain rfl := (show d = v from r1)
  cases d with
  | true => exact iteT ⟨ws1, lc, h1, hr1, lr.mono p1 l1, q1⟩
  | false => exact iteF ⟨ws1, lc, h1, hr1, lr.mono p1 l1, q1⟩
/-! ### chains a op b op c -/
def eCh (F G : D → D → IH → R D) (f g k : SE) : SE := fun e h => (f e h).bind fun a h1 => (g e h1).bind fun b h2 => (F a b h2).bind fun z h3 => match z with
  | .bl true => (k e h3).bind fun c h4 => G b c h4
  | .bl false => .ok (.bl false) h3
  | _ => .bad
theorem ch_ok {F G : D → D → IH → R D} {r r' : R2} {f g k : SE}
    (hF : ∀ ws h H σ a b x y Q, HR X.K cl ws h H → VR X.K ws H a x → VR X.K ws H b y → rd X.K cl W (VR X.K) (F a b h) ws H σ Q → r x y H Q)
    (hG : ∀ ws h H σ a b x y Q, HR X.K cl ws h H → VR X.K ws H a x → VR X.K ws H b y → rd X.K cl W (VR X.K) (G a b h) ws H σ Q → r' x y H Q) :
    ∀ σ H Q, tE X.K cl W (eCh F G f g k) σ H Q → tChain r r' (tE X.K cl W f) (tE X.K cl W g) (tE X.K cl W k) σ H Q := by
  intro σ H Q ⟨ws, lc, h, hr, lr, q⟩
  refine ⟨ws, lc, h, hr, lr, ?_⟩
  refine rd.seq q fun ws1 a h1 H1 v p1 l1 hr1 r1 q1 => ⟨ws1, lc, h1, hr1, lr.mono p1 l1, ?_⟩
  refine rd.seq q1 fun ws2 b h2 H2 u p2 l2 hr2 r2 q2 => ?_
  refine hF _ _ _ _ _ _ _ _ _ hr2 (r1.mono p2 l2) r2 (rd.seq q2 fun ws3 z h3 H3 w p3 l3 hr3 r3 q3 => ?_)
  split at q3
  · refine ⟨true, r3, iteT ⟨ws3, lc, h3, hr3, lr.mono (p1.trans (p2.trans p3)) (l1.trans (l2.trans l3)), ?_⟩⟩
    refine rd.seq q3 fun ws4 c h4 H4 w4 p4 l4 hr4 r4 q4 => ?_
    exact hG _ _ _ _ _ _ _ _ _ hr4 (r2.mono (p3.trans p4) (l3.trans l4)) r4 q4
  · exact ⟨false, r3, iteF (q3.now hr3 rfl)⟩
  · exact q3.elim
theorem de_chain {op op' : CmpOp} {a b c : Expr} {pos : Pos} {F G : D → D → IH → R D} {f g k : SE} (o : Op2 X cl W (compareOp op) F) (o' : Op2 X cl W (compareOp op') G) (ha : DE X cl W a f) (hb : DE X cl W b g) (hc : DE X cl W c k)
    (hm : lastMarks [op, op'] [b, c] = false := by with_unfolding_all rfl) : DE X cl W (.Compare a [op, op'] [b, c] pos) (eCh F G f g k) := by
  obtain ⟨r, ho, hF⟩ := o
  obtain ⟨r', ho', hG⟩ := o'
  exact ⟨peImp (pe_chain ho ho' ha.p hb.p hc.p hm) (ch_ok hF hG)⟩
theorem dt_chain {op op' : CmpOp} {a b c : Expr} {pos : Pos} {F G : D → D → IH → R D} {f g k : SE} (o : Op2 X cl W (compareOp op) F) (o' : Op2 X cl W (compareOp op') G) (ha : DE X cl W a f) (hb : DE X cl W b g) (hc : DE X cl W c k)
    (hm : lastMarks [op, op'] [b, c] = false := by with_unfolding_all rfl) : DT X cl W (.Compare a [op, op'] [b, c] pos) (tB (eCh F G f g k)) := by
  obtain ⟨r, ho, hF⟩ := o
  obtain ⟨r', ho', hG⟩ := o'
  refine ⟨ptImp (pt_chain ho ho' ha.p hb.p hc.p hm) fun σ H Q q => ?_⟩
  obtain ⟨ws, lc, h, hr, lr, q⟩ := tB_of σ H Q q
  exact ch_ok hF hG σ H _ ⟨ws, lc, h, hr, lr, q⟩
/-! ### subscripts -/
def fIx : D → D → IH → R D
  | .tup l, .int i, h => match atI l i with
    | some d => .ok d h
    | none => .bad
  | .fls l, .int i, h => match atI l i with
    | some d => .ok d h
    | none => .bad
  | .str z, .int i, h => if z.length ≤ sizeLine then (match atI z.cps.toList i with
    | some c => .ok (.str ⟨#[c]⟩) h
    | none => .bad) else .bad
  | .ref n, .int i, h => match h[n]? with
    | some (.lst l) => (match atI l i with
      | some d => .ok d h
      | none => .bad)
    | _ => .bad
  | _, _, _ => .bad
theorem atI_of {K : PySem.W.Frag} {ws : List Addr} {H : Hp} {l : List D} {xs : List V} {i : Int} {d : D} (r : VRs K ws H l xs) (e : atI l i = some d) : ∃ v, atI xs i = some v ∧ VR K ws H d v := by
  unfold atI at e ⊢
  rw [r.len]
  cases h : ixN l.length i with
  | none => rw [h] at e; cases e
  | some j =>
    rw [h] at e
    exact r.get e
theorem de_ix {a b : Expr} {pos : Pos} {f g : SE} (ha : DE X cl W a f) (hb : DE X cl W b g) (hs : PlainIx b := by exact fun _ _ => rfl) : DE X cl W (.Subscript a b pos) (eOp fIx f g) := by
  refine ⟨peImp (pe_ix ix_seq ha.p hb.p hs) (op_bin (F := fIx) fun ws h H σ a b x y Q hr ra rb q => ?_)⟩
  cases a <;> cases b <;> first
    | exact q.elim
    | skip
  · rename_i z i
    unfold fIx at q
    dsimp only at q
    split at q
    · rename_i hz
      split at q
      · rename_i c hc
        exact .inr (.inr ⟨z, i, c, ra, rb, hz, hc, q.now hr rfl⟩)
      · exact q.elim
    · exact q.elim
  · rename_i l i
    unfold fIx at q
    dsimp only at q
    split at q
    · rename_i d hd
      obtain ⟨a, xs, rfl, s, r⟩ := ra
      obtain ⟨v, e1, e2⟩ := atI_of r hd
      exact .inr (.inl ⟨a, xs, i, v, rfl, rb, s, e1, q.now hr e2⟩)
    · exact q.elim
  · rename_i l i
    unfold fIx at q
    dsimp only at q
    split at q
    · rename_i d hd
      obtain ⟨a, xs, rfl, s, r⟩ := ra
      obtain ⟨v, e1, e2⟩ := atI_of r hd
      exact .inl ⟨a, xs, i, v, rfl, rb, s.sq, e1, q.now hr e2⟩
    · exact q.elim
  · rename_i n i
    unfold fIx at q
    dsimp only at q
    split at q
    · rename_i l hl
      split at q
      · rename_i d hd
        obtain ⟨a, xs, rfl, _, e3, r⟩ := ra.list hr hl
        obtain ⟨v, e1, e2⟩ := atI_of r hd
        exact .inl ⟨a, xs, i, v, rfl, rb, SqL.of e3, e1, q.now hr e2⟩
      · exact q.elim
    · exact q.elim
/-! slices -/
abbrev SO := Lc → IH → R (Option Int)
structure DO (X : Cx) (cl : Nat → Addr) (W : WX) (e : Option Expr) (f : SO) : Prop where
  p : PO X e (fun σ H Q => ∃ ws lc h, HR X.K cl ws h H ∧ LR X.K ws H lc σ ∧ rd X.K cl W (fun _ _ a b => a = b) (f lc h) ws H σ Q)
theorem poImp {e : Option Expr} {t u : TO} (h : PO X e t) (i : ∀ σ H Q, u σ H Q → t σ H Q) : PO X e u := ⟨fun pins s σ H Q I q => h.run pins s σ H Q I (i σ H Q q)⟩
def oN : SO := fun _ h => .ok none h
def oE (f : SE) : SO := fun e h => (f e h).bind fun d h1 => match d with
  | .int i => .ok (some i) h1
  | _ => .bad
theorem do_n : DO X cl W none oN := ⟨poImp po_none fun σ H Q ⟨ws, lc, h, hr, lr, q⟩ => q.now hr rfl⟩
theorem do_e {a : Expr} {f : SE} (ha : DE X cl W a f) : DO X cl W (some a) (oE f) := by
  refine ⟨poImp (po_some ha.p) fun σ H Q ⟨ws, lc, h, hr, lr, q⟩ => ⟨ws, lc, h, hr, lr, ?_⟩⟩
  refine rd.seq q fun ws1 d h1 H1 v p1 l1 hr1 r1 q1 => ?_
  cases d <;> first
    | exact q1.elim
    | skip
  rename_i i
  exact ⟨i, r1, q1.now hr1 rfl⟩
def cutD {α : Type} (l : List α) (lo hi : Option Int) : List α := (l.drop (HT.sIx l.length 0 lo)).take (HT.sIx l.length l.length hi - HT.sIx l.length 0 lo)
theorem cut_of {K : PySem.W.Frag} {ws : List Addr} {H : Hp} {l : List D} {xs : List V} (r : VRs K ws H l xs) (lo hi : Option Int) : VRs K ws H (cutD l lo hi) (cutV xs lo hi) := by
  unfold cutD cutV
  rw [r.len]
  exact (r.drop _).take _
theorem cut_all {α : Type} {l : List α} {lo hi : Option Int} (h : HT.sIx l.length 0 lo = 0 ∧ HT.sIx l.length l.length hi = l.length) : cutD l lo hi = l := by
  unfold cutD
  rw [h.1, h.2]
  simp
def fSl (lo hi : Option Int) : D → IH → R D
  | .tup l, h => .ok (.tup (cutD l lo hi)) h
  | .fls l, h => .ok (.ref h.length) (h ++ [.lst (cutD l lo hi)])
  | .str z, h => if z.length ≤ sizeLine then .ok (.str ⟨(cutD z.cps.toList lo hi).toArray⟩) h else .bad
  | .ref n, h => match h[n]? with
    | some (.lst l) => .ok (.ref h.length) (h ++ [.lst (cutD l lo hi)])
    | _ => .bad
  | _, _ => .bad
theorem cutS_eq (z : Str) (lo hi : Option Int) : (⟨(cutD z.cps.toList lo hi).toArray⟩ : Str) = cutS z lo hi := by
  unfold cutD cutS
  have e : z.cps.toList.length = z.length := Array.length_toList
  rw [e]
def eSl (f : SE) (lo hi : SO) : SE := fun e h => (f e h).bind fun a h1 => (lo e h1).bind fun l h2 => (hi e h2).bind fun u h3 => fSl l u a h3
theorem de_sl {a : Expr} {lo hi : Option Expr} {p2 pos : Pos} {f : SE} {l u : SO} (ha : DE X cl W a f) (hl : DO X cl W lo l) (hu : DO X cl W hi u) : DE X cl W (.Subscript a (.Slice lo hi none p2) pos) (eSl f l u) := by
  refine ⟨peImp (pe_slice (sl_list.or (sl_tupA.or sl_str)) ha.p hl.p hu.p) fun σ H Q ⟨ws, lc, h, hr, lr, q⟩ => ⟨ws, lc, h, hr, lr, ?_⟩⟩
  refine rd.seq q fun ws1 d h1 H1 v p1 l1 hr1 r1 q1 => ⟨ws1, lc, h1, hr1, lr.mono p1 l1, ?_⟩
  refine rd.seq q1 fun ws2 lo h2 H2 lo' p2 l2 hr2 r2 q2 => ⟨ws2, lc, h2, hr2, lr.mono (p1.trans p2) (l1.trans l2), ?_⟩
  refine rd.seq q2 fun ws3 hi h3 H3 hi' p3 l3 hr3 r3 q3 => ?_
  obtain rfl := (show lo = lo' from r2)
  obtain rfl := (show hi = hi' from r3)
  replace r1 := r1.mono (p2.trans p3) (l2.trans l3)
  clear r2 r3 q q1 q2
  cases d with
  | str z =>
    unfold fSl at q3
    dsimp only at q3
    split at q3
    · rename_i hz
      refine .inr (.inr ⟨z, r1, hz, q3.now hr3 ?_⟩)
      rw [cutS_eq z lo hi]
      rfl
    · exact q3.elim
  | tup l =>
    obtain ⟨a, xs, rfl, s, rs⟩ := r1
    refine .inr (.inl ⟨a, xs, rfl, s, fun z => ?_, fun _ p hp => ?_⟩)
    · have z' : HT.sIx l.length 0 lo = 0 ∧ HT.sIx l.length l.length hi = l.length := by rw [← rs.len]; exact z
      refine q3.now hr3 ?_
      rw [cut_all z']
      exact ⟨a, xs, rfl, s, rs⟩
    · exact q3.fresh hr3 hp fun le => VR.tupI (SqT.of upd_same) ((cut_of rs lo hi).mono (List.prefix_refl _) le)
  | fls l =>
    obtain ⟨a, xs, rfl, s, rs⟩ := r1
    exact .inl ⟨a, xs, rfl, s.sq, fun p hp => q3.newList hr3 hp (cut_of rs lo hi) fun e => VR.refI e⟩
  | ref n =>
    unfold fSl at q3
    dsimp only at q3
    split at q3
    · rename_i l hl
      obtain ⟨a, xs, rfl, _, e3, rs⟩ := r1.list hr3 hl
      exact .inl ⟨a, xs, rfl, SqL.of e3, fun p hp => q3.newList hr3 hp (cut_of rs lo hi) fun e => VR.refI e⟩
    · exact q3.elim
  | _ => exact q3.elim
/-! ### calls of built-ins -/
def BCall (X : Cx) (cl : Nat → Addr) (W : WX) (f : Value) (F : List D → IH → R D) : Prop :=
  ∃ r, CallR X f r ∧ ∀ ws h H σ ds xs Q, HR X.K cl ws h H → VRs X.K ws H ds xs → rd X.K cl W (VR X.K) (F ds h) ws H σ Q → r xs H Q
def eB (F : List D → IH → R D) (g : SA) : SE := fun e h => (g e h).bind fun ds h1 => F ds h1
theorem cb_ok {F : List D → IH → R D} {g : SA} {r : List V → Hp → VK → Prop} (hF : ∀ ws h H σ ds xs Q, HR X.K cl ws h H → VRs X.K ws H ds xs → rd X.K cl W (VR X.K) (F ds h) ws H σ Q → r xs H Q) :
    ∀ σ H Q, tE X.K cl W (eB F g) σ H Q → tCB r (tA X.K cl W g) σ H Q := by
  intro σ H Q ⟨ws, lc, h, hr, lr, q⟩
  refine ⟨ws, lc, h, hr, lr, ?_⟩
  refine rd.seq q fun ws1 ds h1 H1 v p1 l1 hr1 r1 q1 => ?_
  exact hF _ _ _ _ _ _ _ hr1 r1 q1
theorem de_b {x : Str} {id : String} {p pos : Pos} {e : Expr} {es : List Expr} {F : List D → IH → R D} {g : SA} (o : BCall X cl W (.builtin id) F) (hg : Gl X x) (hm : X.mg x = none) (hv : bootBuiltins x = some (.builtin id)) (ha : DA X cl W (e :: es) g)
    (hn : x ≠ "__name__" := by decide) (hdb : (x == ("__debug__" : Str)) = false := by decide) (he : starEach (e :: es) X.env = (false, eval e X.env) :: starEach es X.env := by rfl) (hpl : (backTo pos (starEach es X.env)).any (·.1) = false := by rfl) :
    DE X cl W (.Call (.Name x p) (e :: es) [] pos) (eB F g) := by
  obtain ⟨r, hc, hF⟩ := o
  exact ⟨peImp (pe_callB hc hg hm hv ha.p hn hdb he hpl) (cb_ok hF)⟩
theorem de_ty {x : Str} {id : String} {p pos : Pos} {e : Expr} {es : List Expr} {F : List D → IH → R D} {g : SA} (o : BCall X cl W (.type id) F) (hg : Gl X x) (hm : X.mg x = none) (hv : bootBuiltins x = some (.type id)) (ha : DA X cl W (e :: es) g)
    (hn : x ≠ "__name__" := by decide) (hdb : (x == ("__debug__" : Str)) = false := by decide) (he : starEach (e :: es) X.env = (false, eval e X.env) :: starEach es X.env := by rfl) (hpl : (backTo pos (starEach es X.env)).any (·.1) = false := by rfl) :
    DE X cl W (.Call (.Name x p) (e :: es) [] pos) (eB F g) := by
  obtain ⟨r, hc, hF⟩ := o
  exact ⟨peImp (pe_callTy hc hg hm hv ha.p hn hdb he hpl) (cb_ok hF)⟩
theorem VRs.one {K : PySem.W.Frag} {ws : List Addr} {H : Hp} {d : D} {xs : List V} (r : VRs K ws H [d] xs) : ∃ x, xs = [x] ∧ VR K ws H d x := by
  obtain ⟨x, t, rfl, r1, r2⟩ := r
  cases r2
  exact ⟨x, rfl, r1⟩
def bLen : List D → IH → R D
  | [.tup l], h => .ok (.int l.length) h
  | [.fls l], h => .ok (.int l.length) h
  | [.str z], h => if z.length ≤ sizeLine then .ok (.int z.length) h else .bad
  | [.ref n], h => match h[n]? with
    | some (.lst l) => .ok (.int l.length) h
    | some (.dic l) => .ok (.int l.length) h
    | _ => .bad
  | _, _ => .bad
theorem b_len : BCall X cl W (.builtin "len") bLen := by
  refine ⟨_, call_len.or call_lenD, fun ws h H σ ds xs Q hr r q => ?_⟩
  unfold bLen at q
  split at q
  · obtain ⟨x, rfl, a, ys, rfl, s, rl⟩ := r.one
    exact .inl ⟨_, ys.length, rfl, .inr ⟨ys, s, rfl⟩, by rw [rl.len]; exact q.now hr rfl⟩
  · obtain ⟨x, rfl, a, ys, rfl, s, rl⟩ := r.one
    exact .inl ⟨_, ys.length, rfl, .inl ⟨ys, s.sq, rfl⟩, by rw [rl.len]; exact q.now hr rfl⟩
  · obtain ⟨x, rfl, rx⟩ := r.one
    obtain rfl := (show x = _ from rx)
    split at q
    · rename_i hz
      exact .inl ⟨_, _, rfl, ⟨hz, rfl⟩, q.now hr rfl⟩
    · exact q.elim
  · obtain ⟨x, rfl, rx⟩ := r.one
    split at q
    · rename_i hl
      obtain ⟨a, ys, rfl, _, e3, rl⟩ := rx.list hr hl
      exact .inl ⟨_, ys.length, rfl, .inl ⟨ys, SqL.of e3, rfl⟩, by rw [rl.len]; exact q.now hr rfl⟩
    · rename_i hl
      obtain ⟨a, ys, rfl, _, e3, rl⟩ := rx.dict hr hl
      exact .inr ⟨a, ys, rfl, e3, by rw [rl.len]; exact q.now hr rfl⟩
    · exact q.elim
  · exact q.elim
def bInt : List D → IH → R D
  | [.int i], h => .ok (.int i) h
  | [.bl b], h => .ok (.int (if b then 1 else 0)) h
  | [.str s], h => match PySem.intText? s with
    | some n => if s.length ≤ 640 then .ok (.int n) h else .bad
    | none => .bad
  | _, _ => .bad
theorem b_int : BCall X cl W (.type "int") bInt := by
  refine ⟨_, call_int1.or call_int_str, fun ws h H σ ds xs Q hr r q => ?_⟩
  unfold bInt at q
  split at q
  · obtain ⟨x, rfl, rx⟩ := r.one
    obtain rfl := (show x = _ from rx)
    exact .inl (.inl ⟨_, rfl, q.now hr rfl⟩)
  · obtain ⟨x, rfl, rx⟩ := r.one
    obtain rfl := (show x = _ from rx)
    exact .inl (.inr ⟨_, rfl, q.now hr rfl⟩)
  · obtain ⟨x, rfl, rx⟩ := r.one
    obtain rfl := (show x = _ from rx)
    split at q
    · rename_i n hn
      split at q
      · rename_i hz
        exact .inr ⟨_, n, rfl, hn, hz, q.now hr rfl⟩
      · exact q.elim
    · exact q.elim
  · exact q.elim
/-! isinstance -/
inductive Ty where
  | none | bool | int | str | tuple | list | dict
def tyNm : Ty → String
  | .none => "NoneType" | .bool => "bool" | .int => "int" | .str => "str" | .tuple => "tuple" | .list => "list" | .dict => "dict"
@[simp] def isT : Ty → Ty → Bool
  | .none, .none => true | .bool, .bool => true | .bool, .int => true | .int, .int => true | .str, .str => true | .tuple, .tuple => true | .list, .list => true | .dict, .dict => true
  | _, _ => false
@[simp] def tyD : D → IH → Option Ty
  | .non, _ => some .none
  | .bl _, _ => some .bool
  | .int _, _ => some .int
  | .str _, _ => some .str
  | .tup _, _ => some .tuple
  | .fls _, _ => some .list
  | .ref n, h => match h[n]? with
    | some (.lst _) => some .list
    | some (.dic _) => some .dict
    | _ => none
theorem kit_T : ∀ a b : Ty, kitB (tyNm a) (tyNm b) = some (isT a b) := by
  intro a b
  cases a <;> cases b <;> decide +kernel
theorem tyD_of {K : PySem.W.Frag} {ws : List Addr} {h : IH} {H : Hp} {d : D} {v : V} {t : Ty} (hr : HR K cl ws h H) (r : VR K ws H d v) (e : tyD d h = some t) : TyX K H v (.type (tyNm t)) := by
  cases d with
  | non => cases r; cases e; exact .base .non
  | bl b => cases r; cases e; exact .base (.bl b)
  | int i => cases r; cases e; exact .base (.int i)
  | str s => cases r; cases e; exact .base (.str s)
  | tup l =>
    obtain ⟨a, xs, rfl, s, r⟩ := r
    cases e
    rcases s with (s | ⟨o, s⟩) | ⟨o, its, n, hk, hc, _⟩
    · exact .base (.tup s)
    · exact .fTuple s
    · exact .kTuple hk hc
  | fls l =>
    obtain ⟨a, xs, rfl, s, r⟩ := r
    cases e
    rcases s with ⟨o, s⟩ | ⟨o, its, n, hk, hc, _⟩
    · exact .base (.frz s)
    · exact .kList hk hc
  | ref n =>
    unfold tyD at e
    dsimp only at e
    split at e
    · rename_i l hl
      obtain ⟨a, xs, rfl, _, e3, r⟩ := r.list hr hl
      cases e
      exact .base (.lst e3)
    · rename_i l hl
      obtain ⟨a, xs, rfl, _, e3, r⟩ := r.dict hr hl
      cases e
      exact .base (.dK e3)
    · cases e
def eIsi (T : Ty) (f : SE) : SE := fun e h => (f e h).bind fun d h1 => match tyD d h1 with
  | some t => .ok (.bl (isT t T)) h1
  | none => .bad
/-- isinstance(a, T), T a built-in class -/
theorem de_isi (T : Ty) {n : Str} {p p2 pos : Pos} {a : Expr} {f : SE} (hg : Gl X "isinstance") (hm : X.mg "isinstance" = none) (hg2 : Gl X n) (hm2 : X.mg n = none) (hv : bootBuiltins n = some (.type (tyNm T))) (ha : DE X cl W a f)
    (hn : n ≠ "__name__" := by decide) (hdb : (n == ("__debug__" : Str)) = false := by decide) (he : starEach (a :: [.Name n p2]) X.env = (false, eval a X.env) :: starEach [.Name n p2] X.env := by rfl) (hpl : (backTo pos (starEach [.Name n p2] X.env)).any (·.1) = false := by rfl) :
    DE X cl W (.Call (.Name "isinstance" p) [a, .Name n p2] [] pos) (eIsi T f) := by
  have hp : PE X (.Name n p2) (tC (.ty (tyNm T))) := pe_bltn hg2 hm2 hv rfl hn hdb
  refine ⟨peImp (pe_callB call_isi hg hm (by decide +kernel) (pa_cons ha.p (pa_cons hp pa_nil) he) (by decide) (by decide) he hpl) fun σ H Q ⟨ws, lc, h, hr, lr, q⟩ => ⟨ws, lc, h, hr, lr, ?_⟩⟩
  refine rd.seq q fun ws1 d h1 H1 v p1 l1 hr1 r1 q1 => ?_
  split at q1
  · rename_i t ht
    exact ⟨v, .ty (tyNm T), _, _, isT t T, rfl, .ty _, tyD_of hr1 r1 ht, kit_ty (kit_T t T), q1.now hr1 rfl⟩
  · exact q1.elim
def eIsi2 (T U : Ty) (f : SE) : SE := fun e h => (f e h).bind fun d h1 => match tyD d h1 with
  | some t => .ok (.bl (isT t T || isT t U)) h1
  | none => .bad
/-- isinstance(a, (T, U)) -/
theorem de_isi2 (T U : Ty) {n m : Str} {p p2 p3 p4 pos : Pos} {x1} {a : Expr} {f : SE} (hg : Gl X "isinstance") (hm : X.mg "isinstance" = none) (hg2 : Gl X n) (hm2 : X.mg n = none) (hv : bootBuiltins n = some (.type (tyNm T)))
    (hg3 : Gl X m) (hm3 : X.mg m = none) (hv3 : bootBuiltins m = some (.type (tyNm U))) (ha : DE X cl W a f)
    (hn : n ≠ "__name__" := by decide) (hdb : (n == ("__debug__" : Str)) = false := by decide) (hn3 : m ≠ "__name__" := by decide) (hdb3 : (m == ("__debug__" : Str)) = false := by decide)
    (he : starEach (a :: [.Tuple [.Name n p2, .Name m p3] x1 p4]) X.env = (false, eval a X.env) :: starEach [.Tuple [.Name n p2, .Name m p3] x1 p4] X.env := by rfl) (hpl : (backTo pos (starEach [.Tuple [.Name n p2, .Name m p3] x1 p4] X.env)).any (·.1) = false := by rfl) :
    DE X cl W (.Call (.Name "isinstance" p) [a, .Tuple [.Name n p2, .Name m p3] x1 p4] [] pos) (eIsi2 T U f) := by
  have hp : PE X (.Name n p2) (tC (.ty (tyNm T))) := pe_bltn hg2 hm2 hv rfl hn hdb
  have hp3 : PE X (.Name m p3) (tC (.ty (tyNm U))) := pe_bltn hg3 hm3 hv3 rfl hn3 hdb3
  have ht : PE X (.Tuple [.Name n p2, .Name m p3] x1 p4) (tTup (tCons (tC (.ty (tyNm T))) (tCons (tC (.ty (tyNm U))) tNil))) := pe_tup (pa_cons hp (pa_cons hp3 pa_nil))
  refine ⟨peImp (pe_callB call_isiT hg hm (by decide +kernel) (pa_cons ha.p (pa_cons ht pa_nil) he) (by decide) (by decide) he hpl) fun σ H Q ⟨ws, lc, h, hr, lr, q⟩ => ⟨ws, lc, h, hr, lr, ?_⟩⟩
  refine rd.seq q fun ws1 d h1 H1 v p1 l1 hr1 r1 q1 => ?_
  split at q1
  · rename_i t ht
    refine ⟨(by show 2 ≤ sizeLine; decide), fun tp hp => ?_⟩
    have kk : Kept tp H1 (upd H1 tp (.tup [.ty (tyNm T), .ty (tyNm U)])) := Kept.new hp
    have hr2 := hr1.keep kk (hr1.free hp)
    refine ⟨v, tp, [.ty (tyNm T), .ty (tyNm U)], _, [.type (tyNm T), .type (tyNm U)], (isT t T || isT t U), rfl, upd_same, .cons (.ty _) (.cons (.ty _) .nil), tyD_of hr2 (r1.mono (List.prefix_refl _) kk.le) ht, ?_, q1.fresh hr1 hp fun _ => rfl⟩
    refine kitAny_cons (kit_ty (kit_T t T)) (fun z => ?_) (fun z => by rw [z]; rfl)
    rw [z, Bool.false_or]
    refine kitAny_cons (kit_ty (kit_T t U)) (fun z => ?_) (fun z => z)
    rw [z]
    rfl
  · exact q1.elim
/-! ### methods of built-in types -/
/-- a list stands there -/
@[simp] def isLst : D → IH → Bool
  | .ref n, h => match h[n]? with
    | some (.lst _) => true
    | _ => false
  | .fls _, _ => true
  | _, _ => false
@[simp] def isStr : D → IH → Bool
  | .str _, _ => true
  | _, _ => false
def MtOk (X : Cx) (cl : Nat → Addr) (W : WX) (id : String) (F : D → List D → IH → R D) : Prop :=
  ∃ r, MtR X id r ∧ ∀ ws h H σ d ds x xs Q, HR X.K cl ws h H → VR X.K ws H d x → VRs X.K ws H ds xs → rd X.K cl W (VR X.K) (F d ds h) ws H σ Q → r x xs H Q
def eMt (ty : D → IH → Bool) (F : D → List D → IH → R D) (f : SE) (g : SA) : SE := fun e h => (f e h).bind fun d h1 => if ty d h1 = true then (g e h1).bind fun ds h2 => F d ds h2 else .bad
/-- the test tells the type -/
def TyTest (K : PySem.W.Frag) (cl : Nat → Addr) (T : String) (ty : D → IH → Bool) : Prop := ∀ ws h H d x, HR K cl ws h H → VR K ws H d x → ty d h = true → tyV K T x H
theorem ty_list {K : PySem.W.Frag} : TyTest K cl "list" isLst := by
  intro ws h H d x hr r e
  cases d <;> first
    | cases e
    | skip
  · obtain ⟨a, xs, rfl, s, r⟩ := r
    exact .inl ⟨rfl, xs, s.sq⟩
  · unfold isLst at e
    dsimp only at e
    split at e
    · rename_i l hl
      obtain ⟨a, xs, rfl, _, e3, r⟩ := r.list hr hl
      exact .inl ⟨rfl, xs, SqL.of e3⟩
    · cases e
theorem ty_str {K : PySem.W.Frag} : TyTest K cl "str" isStr := by
  intro ws h H d x hr r e
  cases d <;> first
    | cases e
    | skip
  cases r
  rfl
theorem de_mt {T id : String} {name : Str} {o e : Expr} {es : List Expr} {apos cpos : Pos} {ty : D → IH → Bool} {F : D → List D → IH → R D} {f : SE} {g : SA} (pa : PlainAttrs T) (slot : Slot T name id) (hty : typeOf (.builtin id) = pure (.type "method_descriptor"))
    (m : MtOk X cl W id F) (tt : TyTest X.K cl T ty) (ho : DE X cl W o f) (ha : DA X cl W (e :: es) g) (hbase : attributeBase o name X.env (eval o X.env) = eval o X.env := by rfl)
    (hfew : ((backTo cpos (starEach (e :: es) X.env)).all (fun x => !x.1) && (backToKw cpos (keywordEach [] X.env)).all (fun x => x.1.isSome)
      && decide ((e :: es).length + ([] : List Keyword).length + (if ([] : List Keyword).isEmpty then 0 else 1) < 30)) = true := by rfl)
    (hline : (apos.endLine == cpos.line) = true := by rfl) (hs : starEach (e :: es) X.env = (false, eval e X.env) :: starEach es X.env := by rfl) (hplain : (backTo cpos (starEach es X.env)).any (·.1) = false := by rfl) :
    DE X cl W (.Call (.Attribute o name apos) (e :: es) [] cpos) (eMt ty F f g) := by
  obtain ⟨r, hm, hF⟩ := m
  refine ⟨peImp (pe_bm pa slot hty hm ho.p ha.p hbase hfew hline hs hplain) fun σ H Q ⟨ws, lc, h, hr, lr, q⟩ => ⟨ws, lc, h, hr, lr, ?_⟩⟩
  refine rd.seq q fun ws1 d h1 H1 v p1 l1 hr1 r1 q1 => ?_
  split at q1
  · rename_i ht
    refine ⟨tt _ _ _ _ _ hr1 r1 ht, ws1, lc, h1, hr1, lr.mono p1 l1, ?_⟩
    refine rd.seq q1 fun ws2 ds h2 H2 vs p2 l2 hr2 r2 q2 => ?_
    exact hF _ _ _ _ _ _ _ _ _ hr2 (r1.mono p2 l2) r2 q2
  · exact q1.elim
theorem de_mt0 {T id : String} {name : Str} {o : Expr} {apos cpos : Pos} {ty : D → IH → Bool} {F : D → List D → IH → R D} {f : SE} (pa : PlainAttrs T) (slot : Slot T name id) (hty : typeOf (.builtin id) = pure (.type "method_descriptor"))
    (m : MtOk X cl W id F) (tt : TyTest X.K cl T ty) (ho : DE X cl W o f) (hbase : attributeBase o name X.env (eval o X.env) = eval o X.env := by rfl) (hline : (apos.endLine == cpos.line) = true := by rfl) :
    DE X cl W (.Call (.Attribute o name apos) [] [] cpos) (eMt ty F f aNil) := by
  obtain ⟨r, hm, hF⟩ := m
  refine ⟨peImp (pe_bm0 pa slot hty hm ho.p hbase hline) fun σ H Q ⟨ws, lc, h, hr, lr, q⟩ => ⟨ws, lc, h, hr, lr, ?_⟩⟩
  refine rd.seq q fun ws1 d h1 H1 v p1 l1 hr1 r1 q1 => ?_
  split at q1
  · rename_i ht
    exact ⟨tt _ _ _ _ _ hr1 r1 ht, hF _ _ _ _ _ [] _ [] _ hr1 r1 rfl q1⟩
  · exact q1.elim
def mAppend : D → List D → IH → R D
  | .ref n, [d], h => match h[n]? with
    | some (.lst l) => if l.length < sizeLine then .ok .non (h.set n (.lst (l ++ [d]))) else .bad
    | _ => .bad
  | _, _, _ => .bad
theorem m_append : MtOk X cl W "list.append" mAppend := by
  refine ⟨_, mt_append, fun ws h H σ d ds x xs Q hr rx rs q => ?_⟩
  unfold mAppend at q
  split at q
  · split at q
    · rename_i hl
      split at q
      · rename_i hz
        obtain ⟨a, ys, rfl, ea, e3, r⟩ := rx.list hr hl
        obtain ⟨y, rfl, ry⟩ := rs.one
        refine ⟨a, ys, y, rfl, rfl, e3, by rw [r.len]; exact hz, ?_⟩
        have kk : Kept a H (upd H a (.lst (ys ++ [y]))) := Kept.wr e3 True.intro
        refine q ws _ _ (List.prefix_refl _) kk.le (hr.set ea e3 True.intro ⟨_, upd_same, (r.append (es := [_]) (ys := [_]) ⟨_, [], rfl, ry, rfl⟩).mono (List.prefix_refl _) kk.le⟩) rfl
      · exact q.elim
    · exact q.elim
  · exact q.elim
def mExtend : D → List D → IH → R D
  | .ref n, [.ref m], h => match h[n]?, h[m]? with
    | some (.lst l), some (.lst k) => if l.length + k.length ≤ sizeLine then .ok .non (h.set n (.lst (l ++ k))) else .bad
    | _, _ => .bad
  | _, _, _ => .bad
theorem m_extend : MtOk X cl W "list.extend" mExtend := by
  refine ⟨_, mt_extend, fun ws h H σ d ds x xs Q hr rx rs q => ?_⟩
  unfold mExtend at q
  split at q
  · split at q
    · rename_i hl hk
      split at q
      · rename_i hz
        obtain ⟨a, ys, rfl, ea, e3, r⟩ := rx.list hr hl
        obtain ⟨y, rfl, ry⟩ := rs.one
        obtain ⟨b, zs, rfl, _, f3, r2⟩ := ry.list hr hk
        refine ⟨a, b, ys, zs, rfl, rfl, e3, f3, by rw [r.len, r2.len]; exact hz, ?_⟩
        have kk : Kept a H (upd H a (.lst (ys ++ zs))) := Kept.wr e3 True.intro
        refine q ws _ _ (List.prefix_refl _) kk.le (hr.set ea e3 True.intro ⟨_, upd_same, (r.append r2).mono (List.prefix_refl _) kk.le⟩) rfl
      · exact q.elim
    · exact q.elim
  · exact q.elim
def mPop : D → List D → IH → R D
  | .ref n, [], h => match h[n]? with
    | some (.lst l) => (match l[l.length - 1]? with
      | some d => .ok d (h.set n (.lst l.dropLast))
      | none => .bad)
    | _ => .bad
  | _, _, _ => .bad
theorem m_pop : MtOk X cl W "list.pop" mPop := by
  refine ⟨_, mt_pop, fun ws h H σ d ds x xs Q hr rx rs q => ?_⟩
  unfold mPop at q
  split at q
  · split at q
    · rename_i l hl
      split at q
      · rename_i hd
        obtain ⟨a, ys, rfl, ea, e3, r⟩ := rx.list hr hl
        obtain rfl := (show xs = [] from rs)
        obtain ⟨y, ey, ry⟩ := r.get hd
        refine ⟨a, ys, y, rfl, rfl, e3, by rw [r.len]; exact ey, ?_⟩
        have kk : Kept a H (upd H a (.lst ys.dropLast)) := Kept.wr e3 True.intro
        refine q ws _ _ (List.prefix_refl _) kk.le (hr.set ea e3 True.intro ⟨_, upd_same, r.dropLast.mono (List.prefix_refl _) kk.le⟩) (ry.mono (List.prefix_refl _) kk.le)
      · exact q.elim
    · exact q.elim
  · exact q.elim
end
end Fl
/-! Fl, part 5: statements, loops, comprehensions, defs and their calls. -/
namespace Fl
open PySem L2
def R.st {α : Type} (r : R α) (e : Lc) (k : α → IH → RS) : RS := match r with
  | .ok a h => k a h
  | .ex c fs h => .ex c fs e h
  | .bad => .bad
/-- .. where no exception may come -/
def R.bindN {α β : Type} (r : R α) (k : α → IH → R β) : R β := match r with
  | .ok a h => k a h
  | _ => .bad
abbrev WN : WX := fun _ _ _ _ => False
section
variable {K : PySem.W.Frag} {cl : Nat → Addr} {W : WX} {ws ws' : List Addr} {h : IH} {H H' : Hp} {e : Lc} {σ : St}
theorem rdS.seq {α γ : Type} {rel1 : List Addr → Hp → α → γ → Prop} {r : R α} {k : α → IH → RS} {E : Ends} {T : γ → Hp → Prop} (q : rdS K cl W (r.st e k) ws H E) (lr : LR K ws H e σ)
    (hk : ∀ ws1 a h1 H1 v, ws <+: ws1 → Le K H H1 → HR K cl ws1 h1 H1 → rel1 ws1 H1 a v → rdS K cl W (k a h1) ws1 H1 E → T v H1) : rd K cl W rel1 r ws H σ T := by
  cases r with
  | ok a h' => exact fun ws1 H1 v p l hr rel => hk ws1 a h' H1 v p l hr rel (rdS.mono p l q)
  | ex c fs h' => exact fun ws1 H1 dd xs p l hr e1 fr => q ws1 H1 σ dd xs p l hr (lr.mono p l) e1 fr
  | bad => exact q
theorem rd.seqN {α β γ δ : Type} {rel1 : List Addr → Hp → α → γ → Prop} {rel2 : List Addr → Hp → β → δ → Prop} {r : R α} {k : α → IH → R β} {Q : δ → Hp → Prop} {T : γ → Hp → Prop} {σ2 : St}
    (q : rd K cl W rel2 (r.bindN k) ws H σ Q)
    (hk : ∀ ws1 a h1 H1 v, ws <+: ws1 → Le K H H1 → HR K cl ws1 h1 H1 → rel1 ws1 H1 a v → rd K cl W rel2 (k a h1) ws1 H1 σ Q → T v H1) : rd K cl WN rel1 r ws H σ2 T := by
  cases r with
  | ok a h' => exact fun ws1 H1 v p l hr rel => hk ws1 a h' H1 v p l hr rel (rd.mono p l q)
  | ex c fs h' => exact q.elim
  | bad => exact q
end
section
variable {X : Cx} {cl : Nat → Addr} {W : WX}
/-! ### small statements -/
def sNx : SS := fun e h => .nx e h
def sSeq (f g : SS) : SS := fun e h => match f e h with
  | .nx e1 h1 => g e1 h1
  | r => r
theorem dss_nil : DSs X cl W [] sNx := ⟨pssImp pss_nil fun D σ H ⟨ws, lc, h, hr, lr, q⟩ => q ws H σ (List.prefix_refl _) Le.refl hr lr⟩
theorem dss_cons {s : Stmt} {ss : List Stmt} {f g : SS} (h1 : DS X cl W s f) (h2 : DSs X cl W ss g) : DSs X cl W (s :: ss) (sSeq f g) := by
  refine ⟨pssImp (pss_cons h1.p h2.p) fun D σ H ⟨ws, lc, h, hr, lr, q⟩ => ⟨ws, lc, h, hr, lr, ?_⟩⟩
  unfold sSeq at q
  cases hf : f lc h with
  | nx e1 h1 =>
    rw [hf] at q
    exact fun ws' H' σ' p l hr' lr' => ⟨ws', e1, h1, hr', lr', rdS.mono p l q⟩
  | rt d h1 => rw [hf] at q; exact q
  | bk e1 h1 => rw [hf] at q; exact q
  | ct e1 h1 => rw [hf] at q; exact q
  | ex c fs e1 h1 => rw [hf] at q; exact q
  | bad => rw [hf] at q; exact q
theorem dss_one {s : Stmt} {f : SS} (h1 : DS X cl W s f) : DSs X cl W [s] f := ⟨pss_one h1.p⟩
theorem ds_pass {pos : Pos} : DS X cl W (.Pass pos) sNx := ⟨psImp ps_pass fun D σ H ⟨ws, lc, h, hr, lr, q⟩ => q ws H σ (List.prefix_refl _) Le.refl hr lr⟩
def sBk : SS := fun e h => .bk e h
def sCt : SS := fun e h => .ct e h
theorem ds_break {pos : Pos} : DS X cl W (.Break pos) sBk := ⟨psImp ps_break fun D σ H ⟨ws, lc, h, hr, lr, q⟩ => q ws H σ (List.prefix_refl _) Le.refl hr lr⟩
theorem ds_continue {pos : Pos} : DS X cl W (.Continue pos) sCt := ⟨psImp ps_continue fun D σ H ⟨ws, lc, h, hr, lr, q⟩ => q ws H σ (List.prefix_refl _) Le.refl hr lr⟩
def sEx (f : SE) : SS := fun e h => (f e h).st e fun _ h1 => .nx e h1
theorem ds_expr {a : Expr} {pos : Pos} {f : SE} (ha : DE X cl W a f) (hs : swapsWith a none pos.line X.env = pure false := by rfl) : DS X cl W (.Expr a pos) (sEx f) := by
  refine ⟨psImp (ps_expr ha.p hs) fun D σ H ⟨ws, lc, h, hr, lr, q⟩ => ⟨ws, lc, h, hr, lr, ?_⟩⟩
  exact rdS.seq q lr fun ws1 d h1 H1 v p1 l1 hr1 r1 q1 => q1 ws1 H1 σ (List.prefix_refl _) Le.refl hr1 (lr.mono p1 l1)
def sRt (f : SE) : SS := fun e h => (f e h).st e fun d h1 => .rt d h1
theorem ds_ret {a : Expr} {pos : Pos} {f : SE} (ha : DE X cl W a f) : DS X cl W (.Return (some a) pos) (sRt f) := by
  refine ⟨psImp (ps_ret ha.p) fun D σ H ⟨ws, lc, h, hr, lr, q⟩ => ⟨ws, lc, h, hr, lr, ?_⟩⟩
  exact rdS.seq q lr fun ws1 d h1 H1 v p1 l1 hr1 r1 q1 => q1 ws1 H1 v (List.prefix_refl _) Le.refl hr1 r1
def sRtN : SS := fun _ h => .rt .non h
theorem ds_retN {pos : Pos} : DS X cl W (.Return none pos) sRtN := ⟨psImp ps_retN fun D σ H ⟨ws, lc, h, hr, lr, q⟩ => q ws H .non (List.prefix_refl _) Le.refl hr rfl⟩
def sIf (c : ST) (f g : SS) : SS := fun e h => (c e h).st e fun b h1 => if b = true then f e h1 else g e h1
theorem ds_if {c : Expr} {a b : List Stmt} {pos : Pos} {t : ST} {f g : SS} (hc : DT X cl W c t) (ha : DSs X cl W a f) (hb : DSs X cl W b g) : DS X cl W (.If c a b pos) (sIf t f g) := by
  refine ⟨psImp (ps_if hc.p ha.p hb.p) fun D σ H ⟨ws, lc, h, hr, lr, q⟩ => ⟨ws, lc, h, hr, lr, ?_⟩⟩
  refine rdS.seq q lr fun ws1 d h1 H1 v p1 l1 hr1 r1 q1 => ?_
  obtain rfl := (show d = v from r1)
  cases d with
  | true => exact iteT ⟨ws1, lc, h1, hr1, lr.mono p1 l1, q1⟩
  | false => exact iteF ⟨ws1, lc, h1, hr1, lr.mono p1 l1, q1⟩
/-! ### targets -/
inductive Tg where
  | n (i : Nat) | t (l : List Nat)
@[simp] def setAll : List Nat → List D → Lc → Lc
  | i :: l, d :: ds, e => setAll l ds (e.set i (some d))
  | _, _, e => e
def tgS : Tg → D → Lc → Option Lc
  | .n i, d, e => some (e.set i (some d))
  | .t l, .tup ds, e => if ds.length = l.length then some (setAll l ds e) else none
  | _, _, _ => none
def gNs : List Nat → TGs
  | [] => gNil
  | i :: l => gCons (gName i) (gNs l)
def gOf (K : PySem.W.Frag) : Tg → TG
  | .n i => gName i
  | .t l => gTup K l.length (gNs l)
structure DG (X : Cx) (tg : Expr) (t : Tg) : Prop where
  p : PG X tg (gOf X.K t)
structure DGs (X : Cx) (tg : List Expr) (l : List Nat) : Prop where
  p : PGs X tg (gNs l)
  l : (assignEach tg X.env).length = l.length
  s : (assignEach tg X.env).findIdx? (·.1) = none
theorem dg_n (i : Nat) {x : Str} {pos : Pos} (hN : X.N.Nodup) (hi : X.N[i]? = some x := by rfl) (hx : Loc X.env.scope x := by first | exact Or.inl rfl | exact Or.inr rfl)
    (hf : X.fn x = true ∨ X.env.scope.names.lookup x = some .local := by first | exact Or.inl rfl | exact Or.inr rfl | assumption) : DG X (.Name x pos) (.n i) := ⟨pg_name hN hi hx hf⟩
theorem dgs_nil : DGs X [] [] := ⟨pgs_nil, rfl, rfl⟩
theorem dgs_cons {e : Expr} {es : List Expr} {i : Nat} {l : List Nat} (h1 : DG X e (.n i)) (h2 : DGs X es l) (hs : (assignEach (e :: es) X.env).map (·.2) = assign e X.env :: (assignEach es X.env).map (·.2) := by rfl)
    (hl : (assignEach (e :: es) X.env).length = (i :: l).length := by rfl) (hf : (assignEach (e :: es) X.env).findIdx? (·.1) = none := by rfl) : DGs X (e :: es) (i :: l) := ⟨pgs_cons h1.p h2.p hs, hl, hf⟩
theorem dg_t {es : List Expr} {k : Nat} {pos : Pos} {l : List Nat} (hc : X.calm = true) (h : DGs X es l) : DG X (.Tuple es k pos) (.t l) := ⟨pg_tup hc h.p h.l h.s⟩
section
variable {K : PySem.W.Frag} {ws : List Addr} {H : Hp} {e e' : Lc} {σ : St}
/-- both lists of slots are alike but at vs -/
def But (vs : List Nat) (σ σ' : St) : Prop := σ'.length = σ.length ∧ ∀ j, j ∉ vs → σ'[j]? = σ[j]?
theorem But.refl {vs : List Nat} : But vs σ σ := ⟨rfl, fun _ _ => rfl⟩
theorem But.set {vs : List Nat} {σ' : St} {i : Nat} {x : Option V} (b : But vs σ σ') (hi : i ∈ vs) : But vs σ (σ'.set i x) := by
  refine ⟨by simp [b.1], fun j hj => ?_⟩
  rw [List.getElem?_set_ne (fun z : i = j => hj (z ▸ hi))]
  exact b.2 j hj
theorem But.wider {vs us : List Nat} {σ' : St} (b : But vs σ σ') (h : ∀ i ∈ vs, i ∈ us) : But us σ σ' := ⟨b.1, fun j hj => b.2 j fun z => hj (h j z)⟩
def tgL : Tg → List Nat
  | .n i => [i]
  | .t l => l
theorem gNs_ok {Q : St → Hp → Prop} : ∀ {l : List Nat} {ds : List D} {xs : List V} {e : Lc} {σ σ0 : St} {us : List Nat}, ds.length = l.length → VRs K ws H ds xs → LR K ws H e σ → But us σ0 σ → (∀ i ∈ l, i ∈ us) →
    (∀ σ', LR K ws H (setAll l ds e) σ' → But us σ0 σ' → Q σ' H) → gNs l xs σ H Q
  | [], [], _, e, σ, σ0, us, _, r, lr, b, _, k => by
    cases r
    exact ⟨rfl, k σ lr b⟩
  | i :: l, d :: ds, _, e, σ, σ0, us, hl, r, lr, b, hu, k => by
    obtain ⟨x, t, rfl, r1, r2⟩ := r
    refine ⟨x, t, rfl, ?_⟩
    exact gNs_ok (l := l) (ds := ds) (by simpa using hl) r2 (lr.set i r1) (b.set (hu i List.mem_cons_self)) (fun j hj => hu j (List.mem_cons_of_mem _ hj)) k
  | [], _ :: _, _, _, _, _, _, hl, _, _, _, _, _ => by simp at hl
  | _ :: _, [], _, _, _, _, _, hl, _, _, _, _, _ => by simp at hl
theorem gOf_ok {t : Tg} {d : D} {v : V} {Q : St → Hp → Prop} (ht : tgS t d e = some e') (r : VR K ws H d v) (lr : LR K ws H e σ) (k : ∀ σ', LR K ws H e' σ' → But (tgL t) σ σ' → Q σ' H) : gOf K t v σ H Q := by
  cases t with
  | n i =>
    cases ht
    exact k _ (lr.set i r) (But.refl.set (by simp [tgL]))
  | t l =>
    unfold tgS at ht
    cases d <;> first
      | cases ht
      | skip
    rename_i ds
    dsimp only at ht
    split at ht
    · rename_i hl
      cases ht
      obtain ⟨a, xs, rfl, s, r⟩ := r
      exact ⟨a, xs, rfl, s, by rw [r.len, hl], gNs_ok hl r lr But.refl (fun _ z => z) k⟩
    · cases ht
end
def sAs (t : Tg) (f : SE) : SS := fun e h => (f e h).st e fun d h1 => match tgS t d e with
  | some e1 => .nx e1 h1
  | none => .bad
theorem as_ok {t : Tg} {f : SE} : ∀ D σ H, tS X.K cl W (sAs t f) D σ H → tAsg (tE X.K cl W f) (gOf X.K t) D σ H := by
  intro D σ H ⟨ws, lc, h, hr, lr, q⟩
  refine ⟨ws, lc, h, hr, lr, ?_⟩
  refine rdS.seq q lr fun ws1 d h1 H1 v p1 l1 hr1 r1 q1 => ?_
  split at q1
  · rename_i e1 he
    exact gOf_ok he r1 (lr.mono p1 l1) fun σ' lr' _ => q1 ws1 H1 σ' (List.prefix_refl _) Le.refl hr1 lr'
  · exact q1.elim
theorem ds_as {tg e : Expr} {pos : Pos} {t : Tg} {f : SE} (he : DE X cl W e f) (hg : DG X tg t) (hs : swapsWithSole [tg] e pos.line X.env = pure false := by rfl) (hw : swappedStores [tg] e X.env = pure none := by rfl)
    (h1 : (assignEach [tg] X.env).map (·.2) = [assign tg X.env] := by rfl) : DS X cl W (.Assign [tg] e pos) (sAs t f) := ⟨psImp (ps_asg he.p hg.p hs hw h1) as_ok⟩
theorem ds_set (i : Nat) {x : Str} {e : Expr} {pos' pos : Pos} {f : SE} (hN : X.N.Nodup) (he : DE X cl W e f) (hi : X.N[i]? = some x := by rfl) (hx : Loc X.env.scope x := by first | exact Or.inl rfl | exact Or.inr rfl)
    (hs : swapsWith e (some (.Name x pos')) pos.line X.env = pure false := by rfl) (hf : X.fn x = true ∨ X.env.scope.names.lookup x = some .local := by first | exact Or.inl rfl | exact Or.inr rfl | assumption) :
    DS X cl W (.Assign [.Name x pos'] e pos) (sAs (.n i) f) := ⟨psImp (ps_set hN hi hx he.p hs hf) as_ok⟩
/-- a, b = x, y: no tuple is kept -/
def sPar (i j : Nat) (g : SA) : SS := fun e h => (g e h).st e fun ds h1 => match ds with
  | [a, b] => .nx ((e.set i (some a)).set j (some b)) h1
  | _ => .bad
theorem ds_par (i j : Nat) {x y : Str} {a b : Expr} {g : SA} {px py pt : Pos} {kt k2 pt2} {pos : Pos} (hc : X.calm = true) (hN : X.N.Nodup) (ha : DA X cl W [a, b] g) (hi : X.N[i]? = some x := by rfl) (hj : X.N[j]? = some y := by rfl) (hij : i ≠ j := by decide)
    (hx : X.env.scope.names.lookup x = some .local := by rfl) (hy : X.env.scope.names.lookup y = some .local := by rfl)
    (hw : swappedStores [.Tuple [.Name x px, .Name y py] kt pt] (.Tuple [a, b] k2 pt2) X.env = pure (some [x, y]) := by rfl)
    (hs : swapsWithSole [.Tuple [.Name x px, .Name y py] kt pt] (.Tuple [a, b] k2 pt2) pos.line X.env = pure false := by rfl) :
    DS X cl W (.Assign [.Tuple [.Name x px, .Name y py] kt pt] (.Tuple [a, b] k2 pt2) pos) (sPar i j g) := by
  refine ⟨psImp (ps_par hc hN hi hj hij hx hy ha.p hw hs) fun D σ H ⟨ws, lc, h, hr, lr, q⟩ => ⟨ws, lc, h, hr, lr, ?_⟩⟩
  refine rdS.seq q lr fun ws1 ds h1 H1 vs p1 l1 hr1 r1 q1 => ?_
  split at q1
  · obtain ⟨v, t, rfl, r1, w, t2, rfl, r2, r3⟩ := r1
    cases r3
    exact ⟨v, w, rfl, q1 ws1 H1 _ (List.prefix_refl _) Le.refl hr1 (((lr.mono p1 l1).set i r1).set j r2)⟩
  · exact q1.elim
/-- o[i] = e -/
def fPut : D → D → D → IH → Option IH
  | .ref n, .int k, d, h => match h[n]? with
    | some (.lst l) => (match ixN l.length k with
      | some j => some (h.set n (.lst (l.set j d)))
      | none => none)
    | _ => none
  | _, _, _, _ => none
def sPut (fo fi f : SE) : SS := fun e h => (f e h).st e fun d h1 => (fo e h1).st e fun o h2 => (fi e h2).st e fun i h3 => match fPut o i d h3 with
  | some h4 => .nx e h4
  | none => .bad
theorem ds_put {o i e : Expr} {p pos : Pos} {fo fi f : SE} (he : DE X cl W e f) (ho : DE X cl W o fo) (hi : DE X cl W i fi)
    (ha : ∀ v, assign (.Subscript o i p) X.env v = (do
      let ov ← holding [v] (eval o X.env)
      let iv ← holding [v, ov] (eval i X.env)
      standAt p
      holding [v, ov, iv] (setItem ov iv v)
      release [v, ov, iv] []) := by intro _; rfl)
    (hs : swapsWithSole [.Subscript o i p] e pos.line X.env = pure false := by rfl) (hw : swappedStores [.Subscript o i p] e X.env = pure none := by rfl)
    (h1 : (assignEach [.Subscript o i p] X.env).map (·.2) = [assign (.Subscript o i p) X.env] := by rfl) : DS X cl W (.Assign [.Subscript o i p] e pos) (sPut fo fi f) := by
  refine ⟨psImp (ps_asg he.p (pg_sub ho.p hi.p set_list ha) hs hw h1) fun D σ H ⟨ws, lc, h, hr, lr, q⟩ => ⟨ws, lc, h, hr, lr, ?_⟩⟩
  refine rdS.seq q lr fun ws1 d h1 H1 v p1 l1 hr1 r1 q1 => ⟨ws1, lc, h1, hr1, lr.mono p1 l1, ?_⟩
  refine rdS.seq q1 (lr.mono p1 l1) fun ws2 o h2 H2 vo p2 l2 hr2 r2 q2 => ⟨ws2, lc, h2, hr2, lr.mono (p1.trans p2) (l1.trans l2), ?_⟩
  refine rdS.seq q2 (lr.mono (p1.trans p2) (l1.trans l2)) fun ws3 i h3 H3 vi p3 l3 hr3 r3 q3 => ?_
  split at q3
  · rename_i h4 he4
    have lr3 := lr.mono (p1.trans (p2.trans p3)) (l1.trans (l2.trans l3))
    have rd := r1.mono (p2.trans p3) (l2.trans l3)
    have ro := r2.mono p3 l3
    unfold fPut at he4
    split at he4
    · split at he4
      · rename_i l hl
        split at he4
        · rename_i j hj
          cases he4
          obtain ⟨a, xs, rfl, ea, e3, rs⟩ := ro.list hr3 hl
          refine ⟨a, xs, _, j, rfl, r3, e3, by rw [rs.len]; exact hj, ?_⟩
          have kk : Kept a H3 (upd H3 a (.lst (xs.set j v))) := Kept.wr e3 True.intro
          exact q3 ws3 _ σ (List.prefix_refl _) kk.le (hr3.set ea e3 True.intro ⟨_, upd_same, (VRs.set rd j rs).mono (List.prefix_refl _) kk.le⟩) (lr3.mono (List.prefix_refl _) kk.le)
        · cases he4
      · cases he4
    · cases he4
  · exact q3.elim
/-! ### what a loop walks -/
def rgV (lo : Int) (n : Nat) : List V := (List.range n).map fun i => V.int (lo + (i : Nat))
def rgD (lo : Int) (n : Nat) : List D := (List.range n).map fun i => D.int (lo + (i : Nat))
theorem rg_vr {K : PySem.W.Frag} {ws : List Addr} {H : Hp} (lo : Int) (n : Nat) : VRs K ws H (rgD lo n) (rgV lo n) := by
  unfold rgD rgV
  generalize List.range n = l
  induction l with
  | nil => rfl
  | cons i l ih => exact ⟨_, _, rfl, rfl, ih⟩
/-- the items, and what must stay -/
abbrev Src := Lc → IH → R (List D × (IH → Prop))
/-- this iterator walks these items, as long as what must stay stays -/
def relI (K : PySem.W.Frag) (cl : Nat → Addr) (ws : List Addr) (H : Hp) (p : List D × (IH → Prop)) (J : It) : Prop :=
  ∀ ws2 h2 H2, ws <+: ws2 → Le K H H2 → HR K cl ws2 h2 H2 → p.2 h2 → ∀ i : Nat,
    (∀ d, p.1[i]? = some d → J.go i H2 ∧ ∀ y H', J.yld i H2 y H' → H' = H2 ∧ VR K ws2 H2 d y) ∧ (p.1.length ≤ i → J.stop i H2)
theorem relI_list {K : PySem.W.Frag} {cl : Nat → Addr} {ws : List Addr} {H : Hp} {l : List D} {c : IH → Prop} {a : Addr}
    (k : ∀ ws2 h2 H2, ws <+: ws2 → Le K H H2 → HR K cl ws2 h2 H2 → c h2 → ∃ ys, SqL K H2 a ys ∧ VRs K ws2 H2 l ys) : relI K cl ws H (l, c) (Itl K a) := by
  intro ws2 h2 H2 p2 l2 hr2 c2 i
  obtain ⟨ys, s, r⟩ := k ws2 h2 H2 p2 l2 hr2 c2
  refine ⟨fun d hd => ?_, fun hi => ⟨ys, s, by rw [r.len]; exact hi⟩⟩
  obtain ⟨y, ey, ry⟩ := r.get hd
  refine ⟨⟨ys, y, s, ey⟩, fun z H' q => ⟨q.1, ?_⟩⟩
  have e := q.2 ys s
  rw [ey] at e
  cases e
  exact ry
theorem relI_tup {K : PySem.W.Frag} {cl : Nat → Addr} {ws : List Addr} {H : Hp} {l : List D} {c : IH → Prop} {a : Addr}
    (k : ∀ ws2 h2 H2, ws <+: ws2 → Le K H H2 → HR K cl ws2 h2 H2 → c h2 → ∃ ys, SqT K H2 a ys ∧ VRs K ws2 H2 l ys) : relI K cl ws H (l, c) (Itt K a) := by
  intro ws2 h2 H2 p2 l2 hr2 c2 i
  obtain ⟨ys, s, r⟩ := k ws2 h2 H2 p2 l2 hr2 c2
  refine ⟨fun d hd => ?_, fun hi => ⟨ys, s, by rw [r.len]; exact hi⟩⟩
  obtain ⟨y, ey, ry⟩ := r.get hd
  refine ⟨⟨ys, y, s, ey⟩, fun z H' q => ⟨q.1, ?_⟩⟩
  have e := q.2 ys s
  rw [ey] at e
  cases e
  exact ry
theorem relI_rng {K : PySem.W.Frag} {cl : Nat → Addr} {ws : List Addr} {H : Hp} {c : IH → Prop} (lo : Int) (n : Nat) : relI K cl ws H (rgD lo n, c) (Itr lo n) := by
  intro ws2 h2 H2 p2 l2 hr2 c2 i
  refine ⟨fun d hd => ?_, fun hi => ?_⟩
  · unfold rgD at hd
    rw [List.getElem?_map] at hd
    cases hi : (List.range n)[i]? with
    | none => rw [hi] at hd; cases hd
    | some j =>
      rw [hi] at hd
      obtain ⟨h1, h2⟩ := List.getElem?_eq_some_iff.mp hi
      simp at h1 h2
      subst h2
      cases hd
      exact ⟨h1, fun y H' q => ⟨q.1, q.2⟩⟩
  · show n ≤ i
    simpa [rgD] using hi
def tI (K : PySem.W.Frag) (cl : Nat → Addr) (W : WX) (f : Src) : TI := fun σ H Q => ∃ ws e h, HR K cl ws h H ∧ LR K ws H e σ ∧ rd K cl W (relI K cl) (f e h) ws H σ Q
structure DI (X : Cx) (cl : Nat → Addr) (W : WX) (iter : Expr) (f : Src) : Prop where
  p : ∀ tg, PI X tg iter (tI X.K cl W f)
theorem piImp {tg iter : Expr} {t u : TI} (h : PI X tg iter t) (i : ∀ σ H Q, u σ H Q → t σ H Q) : PI X tg iter u := ⟨fun pins s σ H Q I q => h.run pins s σ H Q I (i σ H Q q)⟩
theorem piOr {tg iter : Expr} {t u : TI} (h : PI X tg iter t) (k : PI X tg iter u) : PI X tg iter (fun σ H Q => t σ H Q ∨ u σ H Q) :=
  ⟨fun pins s σ H Q I q => q.elim (fun q => h.run pins s σ H Q I q) (fun q => k.run pins s σ H Q I q)⟩
def itS : D → IH → Option (List D × (IH → Prop))
  | .tup l, _ => some (l, fun _ => True)
  | .fls l, _ => some (l, fun _ => True)
  | .ref n, h => match h[n]? with
    | some (.lst l) => some (l, fun h' => h'[n]? = some (.lst l))
    | _ => none
  | _, _ => none
def iE (f : SE) : Src := fun e h => (f e h).bind fun d h1 => match itS d h1 with
  | some p => .ok p h1
  | none => .bad
theorem di_e {iter : Expr} {f : SE} (ha : DE X cl W iter f) : DI X cl W iter (iE f) := by
  refine ⟨fun tg => piImp (piOr (pi_list ha.p) (pi_tup ha.p)) fun σ H Q ⟨ws, lc, h, hr, lr, q⟩ => ?_⟩
  have key : (∃ l h1, f lc h = .ok (.tup l) h1) ∨ ¬ ∃ l h1, f lc h = .ok (.tup l) h1 := Classical.em _
  rcases key with ⟨l, h1, ef⟩ | nf
  · refine .inr ⟨ws, lc, h, hr, lr, ?_⟩
    unfold iE at q
    rw [ef] at q ⊢
    intro ws1 H1 v p1 l1 hr1 r1
    obtain ⟨a, xs, rfl, s, r⟩ := r1
    exact ⟨a, rfl, ⟨xs, s⟩, q ws1 H1 _ p1 l1 hr1 (relI_tup fun ws2 h2 H2 p2 l2 _ _ => ⟨xs, l2.1 _ _ s, r.mono p2 l2⟩)⟩
  · refine .inl ⟨ws, lc, h, hr, lr, ?_⟩
    unfold iE at q
    cases ef : f lc h with
    | bad => rw [ef] at q; exact q
    | ex c fs h1 => rw [ef] at q; exact q
    | ok d h1 =>
      rw [ef] at q
      intro ws1 H1 v p1 l1 hr1 r1
      cases d with
      | tup l => exact (nf ⟨l, h1, ef⟩).elim
      | fls l =>
        obtain ⟨a, xs, rfl, s, r⟩ := r1
        exact ⟨a, rfl, ⟨xs, s.sq⟩, q ws1 H1 _ p1 l1 hr1 (relI_list fun ws2 h2 H2 p2 l2 _ _ => ⟨xs, (l2.2 _ _ s).sq, r.mono p2 l2⟩)⟩
      | ref n =>
        change rd X.K cl W (relI X.K cl) (match itS (.ref n) h1 with
          | some p => .ok p h1
          | none => .bad) ws H σ Q at q
        unfold itS at q
        dsimp only at q
        cases hn : h1[n]? with
        | none => rw [hn] at q; exact q.elim
        | some o =>
          cases o with
          | lst l =>
            rw [hn] at q
            obtain ⟨a, xs, rfl, ea, e3, r⟩ := r1.list hr1 hn
            refine ⟨a, rfl, ⟨xs, SqL.of e3⟩, q ws1 H1 _ p1 l1 hr1 (relI_list fun ws2 h2 H2 p2 l2 hr2 e2 => ?_)⟩
            obtain ⟨ys, f1, f2⟩ := hr2.ob n _ a e2 (pre_get p2 ea)
            exact ⟨ys, SqL.of f1, f2⟩
          | _ => rw [hn] at q; exact q.elim
      | _ => exact q.elim
def iR1 (f : SA) : Src := fun e h => (f e h).bind fun ds h1 => match ds with
  | [.int j] => if -(2 ^ 62) ≤ j ∧ j < 2 ^ 62 then .ok (rgD 0 j.toNat, fun _ => True) h1 else .bad
  | _ => .bad
def iR2 (f : SA) : Src := fun e h => (f e h).bind fun ds h1 => match ds with
  | [.int i, .int j] => if -(2 ^ 62) ≤ i ∧ i < 2 ^ 62 ∧ -(2 ^ 62) ≤ j ∧ j < 2 ^ 62 then .ok (rgD i (j - i).toNat, fun _ => True) h1 else .bad
  | _ => .bad
theorem di_r1 {a : Expr} {f : SA} {p pos : Pos} (hg : Gl X "range") (hm : X.mg "range" = none) (ha : DA X cl W [a] f) (hs : starEach [a] X.env = [(false, eval a X.env)] := by rfl) : DI X cl W (.Call (.Name "range" p) [a] [] pos) (iR1 f) := by
  refine ⟨fun tg => piImp (pi_range1 hg hm ha.p hs) fun σ H Q ⟨ws, lc, h, hr, lr, q⟩ => ⟨ws, lc, h, hr, lr, ?_⟩⟩
  refine rd.seq q fun ws1 ds h1 H1 vs p1 l1 hr1 r1 q1 => ?_
  split at q1
  · rename_i j
    split at q1
    · rename_i hz
      obtain ⟨x, rfl, rx⟩ := r1.one
      obtain rfl := (show x = _ from rx)
      exact ⟨j, rfl, hz.1, hz.2, q1.now hr1 (relI_rng 0 _)⟩
    · exact q1.elim
  · exact q1.elim
theorem di_r2 {a b : Expr} {f : SA} {p pos : Pos} (hg : Gl X "range") (hm : X.mg "range" = none) (ha : DA X cl W [a, b] f) (hs : starEach [a, b] X.env = [(false, eval a X.env), (false, eval b X.env)] := by rfl)
    (hs2 : starEach [b] X.env = [(false, eval b X.env)] := by rfl) : DI X cl W (.Call (.Name "range" p) [a, b] [] pos) (iR2 f) := by
  refine ⟨fun tg => piImp (pi_range2 hg hm ha.p hs hs2) fun σ H Q ⟨ws, lc, h, hr, lr, q⟩ => ⟨ws, lc, h, hr, lr, ?_⟩⟩
  refine rd.seq q fun ws1 ds h1 H1 vs p1 l1 hr1 r1 q1 => ?_
  split at q1
  · rename_i i j
    split at q1
    · rename_i hz
      obtain ⟨x, t, rfl, rx, y, t2, rfl, ry, r3⟩ := r1
      cases r3
      obtain rfl := (show x = _ from rx)
      obtain rfl := (show y = _ from ry)
      exact ⟨i, j, rfl, hz, q1.now hr1 (relI_rng i _)⟩
    · exact q1.elim
  · exact q1.elim
end
end Fl
/-! Fl, part 6: loops, comprehensions, defs, calls. -/
namespace Fl
open PySem L2
/-! ### for -/
open Classical in
noncomputable def forGo (c : IH → Prop) (t : Tg) (b : SS) : List D → Lc → IH → RS
  | [], e, h => if c h then .nx e h else .bad
  | d :: ds, e, h => if c h then (match tgS t d e with
    | some e1 => (match b e1 h with
      | .nx e2 h2 => forGo c t b ds e2 h2
      | .ct e2 h2 => forGo c t b ds e2 h2
      | .bk e2 h2 => .nx e2 h2
      | r => r)
    | none => .bad) else .bad
noncomputable def sFor (t : Tg) (s : Src) (b : SS) : SS := fun e h => (s e h).st e fun p h1 => forGo p.2 t b p.1 e h1
section
variable {X : Cx} {cl : Nat → Addr} {W : WX}
theorem forGo_c {c : IH → Prop} {t : Tg} {b : SS} {ds : List D} {e : Lc} {h : IH} {K : PySem.W.Frag} {ws : List Addr} {H : Hp} {E : Ends} (q : rdS K cl W (forGo c t b ds e h) ws H E) : c h := by
  cases ds with
  | nil =>
    unfold forGo at q
    split at q
    · assumption
    · exact q.elim
  | cons d ds =>
    unfold forGo at q
    split at q
    · assumption
    · exact q.elim
theorem ds_for {tg iter : Expr} {body : List Stmt} {pos : Pos} {t : Tg} {s : Src} {b : SS} (hp : PassesOwn (model X.prog X.w) X.A X.env X.xe) (hc : X.calm = true) (hi : DI X cl W iter s) (hg : DG X tg t) (hb : DSs X cl W body b)
    (hs : ∀ x, foldedSetIterable iter X.env x = pure x := by intro _; rfl) : DS X cl W (.For tg iter body [] pos) (sFor t s b) := by
  refine ⟨psImp (ps_for hp hc (hi.p tg) hg.p hb.p hs) fun D σ H ⟨ws, lc, h, hr, lr, q⟩ => ⟨ws, lc, h, hr, lr, ?_⟩⟩
  refine rdS.seq q lr fun ws1 p h1 H1 J p1 l1 hr1 rJ q1 => ?_
  obtain ⟨ds, c⟩ := p
  -- the state ahead of turn i
  refine ⟨fun i m σ' H' => m = ds.length - i ∧ i ≤ ds.length ∧ ∃ ws' e' h', ws1 <+: ws' ∧ Le X.K H1 H' ∧ HR X.K cl ws' h' H' ∧ LR X.K ws' H' e' σ' ∧ rdS X.K cl W (forGo c t b (ds.drop i) e' h') ws' H' D,
    ⟨ds.length, by simp, Nat.zero_le _, ws1, lc, h1, List.prefix_refl _, Le.refl, hr1, lr.mono p1 l1, q1⟩, ?_⟩
  rintro i m σ' H' ⟨rfl, hi, ws', e', h', pw, le, hr', lr', qg⟩
  have ch := forGo_c qg
  obtain ⟨wk1, wk2⟩ := rJ ws' h' H' pw le hr' ch i
  by_cases hlt : i < ds.length
  · obtain ⟨go, yl⟩ := wk1 ds[i] (List.getElem?_eq_getElem hlt)
    refine .inr ⟨go, fun σ2 H2 => ∃ ws2 e2 h2, ws1 <+: ws2 ∧ Le X.K H1 H2 ∧ HR X.K cl ws2 h2 H2 ∧ LR X.K ws2 H2 e2 σ2 ∧ rdS X.K cl W (forGo c t b (ds.drop (i + 1)) e2 h2) ws2 H2 D,
      fun σ2 H2 z => ⟨ds.length - (i + 1), by omega, rfl, hlt, z⟩, fun x H2 y => ?_⟩
    obtain ⟨rfl, rx⟩ := yl x H2 y
    rw [List.drop_eq_getElem_cons hlt] at qg
    unfold forGo at qg
    rw [if_pos ch] at qg
    cases ht : tgS t ds[i] e' with
    | none => rw [ht] at qg; exact qg.elim
    | some e1 =>
      rw [ht] at qg
      dsimp only at qg
      refine gOf_ok ht rx lr' fun σ2 lr2 _ => ⟨ws', e1, h', hr', lr2, ?_⟩
      cases hb1 : b e1 h' with
      | nx e2 h2 =>
        rw [hb1] at qg
        exact fun ws3 H3 σ3 p3 l3 hr3 lr3 => ⟨ws3, e2, h2, pw.trans p3, le.trans l3, hr3, lr3, rdS.mono p3 l3 qg⟩
      | ct e2 h2 =>
        rw [hb1] at qg
        exact fun ws3 H3 σ3 p3 l3 hr3 lr3 => ⟨ws3, e2, h2, pw.trans p3, le.trans l3, hr3, lr3, rdS.mono p3 l3 qg⟩
      | bk e2 h2 => rw [hb1] at qg; exact qg
      | rt d h2 => rw [hb1] at qg; exact qg
      | ex k fs e2 h2 => rw [hb1] at qg; exact qg
      | bad => rw [hb1] at qg; exact qg
  · have e : i = ds.length := by omega
    subst e
    refine .inl ⟨wk2 (Nat.le_refl _), ?_⟩
    rw [List.drop_length] at qg
    unfold forGo at qg
    rw [if_pos ch] at qg
    exact qg ws' H' σ' (List.prefix_refl _) Le.refl hr' lr'
/-! ### while -/
def wlGo (c : ST) (b : SS) : Nat → Lc → IH → RS
  | 0, _, _ => .bad
  | n + 1, e, h => (c e h).st e fun k h1 => if k = true then (match b e h1 with
    | .nx e2 h2 => wlGo c b n e2 h2
    | .ct e2 h2 => wlGo c b n e2 h2
    | .bk e2 h2 => .nx e2 h2
    | r => r) else .nx e h1
open Classical in
noncomputable def sWh (c : ST) (b : SS) : SS := fun e h => if hx : ∃ n, wlGo c b n e h ≠ .bad then wlGo c b (choose hx) e h else .bad
theorem wlGo_mono {c : ST} {b : SS} : ∀ {n : Nat} {e : Lc} {h : IH}, wlGo c b n e h ≠ .bad → ∀ k, wlGo c b (n + k) e h = wlGo c b n e h
  | 0, e, h, z, _ => absurd rfl z
  | n + 1, e, h, z, k => by
    rw [show n + 1 + k = (n + k) + 1 by omega]
    unfold wlGo at z ⊢
    cases hc : c e h with
    | bad => rfl
    | ex c fs h1 => rfl
    | ok t h1 =>
      rw [hc] at z
      simp only [R.st] at z ⊢
      cases t with
      | false => rfl
      | true =>
        simp only [if_true] at z ⊢
        cases hb : b e h1 with
        | nx e2 h2 => rw [hb] at z; exact wlGo_mono z k
        | ct e2 h2 => rw [hb] at z; exact wlGo_mono z k
        | _ => rfl
theorem sWh_eq {c : ST} {b : SS} {n : Nat} {e : Lc} {h : IH} {r : RS} (q : wlGo c b n e h = r) (hr : r ≠ .bad) : sWh c b e h = r := by
  have hx : ∃ n, wlGo c b n e h ≠ .bad := ⟨n, by rw [q]; exact hr⟩
  unfold sWh
  rw [dif_pos hx]
  have h2 := Classical.choose_spec hx
  have h1 : wlGo c b n e h ≠ .bad := by rw [q]; exact hr
  generalize Classical.choose hx = m at h2
  rw [← wlGo_mono h2 n, Nat.add_comm, wlGo_mono h1 m, q]
theorem ds_while {c : Expr} {body : List Stmt} {pos : Pos} {t : ST} {b : SS} (hp : PassesOwn (model X.prog X.w) X.A X.env X.xe) (hc : DT X cl W c t) (hb : DSs X cl W body b) : DS X cl W (.While c body [] pos) (sWh t b) := by
  refine ⟨psImp (ps_while hp hc.p hb.p) fun D σ H ⟨ws, lc, h, hr, lr, q⟩ => ?_⟩
  unfold sWh at q
  split at q
  · rename_i hx
    generalize Classical.choose hx = m at q
    refine ⟨fun m σ' H' => ∃ ws' e' h', HR X.K cl ws' h' H' ∧ LR X.K ws' H' e' σ' ∧ rdS X.K cl W (wlGo t b m e' h') ws' H' D, ⟨m, ws, lc, h, hr, lr, q⟩, ?_⟩
    rintro m σ' H' ⟨ws', e', h', hr', lr', q'⟩
    cases m with
    | zero => exact q'.elim
    | succ m =>
      refine ⟨ws', e', h', hr', lr', ?_⟩
      unfold wlGo at q'
      refine rdS.seq q' lr' fun ws1 k h1 H1 v p1 l1 hr1 r1 q1 => ?_
      obtain rfl := (show k = v from r1)
      cases k with
      | false => exact iteF (q1 ws1 H1 σ' (List.prefix_refl _) Le.refl hr1 (lr'.mono p1 l1))
      | true =>
        rw [if_pos rfl] at q1
        refine iteT ⟨fun σ2 H2 => ∃ ws2 e2 h2, HR X.K cl ws2 h2 H2 ∧ LR X.K ws2 H2 e2 σ2 ∧ rdS X.K cl W (wlGo t b m e2 h2) ws2 H2 D, fun σ2 H2 z => ⟨m, Nat.lt_succ_self _, z⟩, ws1, e', h1, hr1, lr'.mono p1 l1, ?_⟩
        cases hb1 : b e' h1 with
        | nx e2 h2 =>
          rw [hb1] at q1
          exact fun ws3 H3 σ3 p3 l3 hr3 lr3 => ⟨ws3, e2, h2, hr3, lr3, rdS.mono p3 l3 q1⟩
        | ct e2 h2 =>
          rw [hb1] at q1
          exact fun ws3 H3 σ3 p3 l3 hr3 lr3 => ⟨ws3, e2, h2, hr3, lr3, rdS.mono p3 l3 q1⟩
        | bk e2 h2 => rw [hb1] at q1; exact q1
        | rt d h2 => rw [hb1] at q1; exact q1
        | ex k fs e2 h2 => rw [hb1] at q1; exact q1
        | bad => rw [hb1] at q1; exact q1
  · exact q.elim
/-! ### comprehensions -/
def wipeD (e : Lc) : List Nat → Lc
  | [] => e
  | v :: vs => (wipeD e vs).set v none
theorem wipe_lr {K : PySem.W.Frag} {ws : List Addr} {H : Hp} {e : Lc} {σ : St} (r : LR K ws H e σ) : ∀ vs, LR K ws H (wipeD e vs) (wipe σ vs)
  | [] => r
  | v :: vs => (wipe_lr r vs).none v none
theorem wipe_get (σ : St) : ∀ (vs : List Nat) (j : Nat), (wipe σ vs)[j]? = if j ∈ vs then (if j < σ.length then some none else none) else σ[j]?
  | [], j => by simp [wipe]
  | v :: vs, j => by
    unfold wipe
    by_cases hv : v = j
    · subst hv
      by_cases hl : v < σ.length
      · rw [List.getElem?_set_self (by rw [wipe_length]; exact hl)]
        simp [hl]
      · rw [List.getElem?_eq_none (by rw [List.length_set, wipe_length]; omega)]
        simp [hl]
    · rw [List.getElem?_set_ne hv, wipe_get σ vs j]
      have e : (j ∈ v :: vs) ↔ j ∈ vs := by
        rw [List.mem_cons]
        exact ⟨fun z => z.elim (fun y => absurd y.symm hv) id, .inr⟩
      by_cases hj : j ∈ vs
      · rw [if_pos hj, if_pos (e.mpr hj)]
      · rw [if_neg hj, if_neg (fun z => hj (e.mp z))]
theorem wipe_but {σ σ' : St} {vs : List Nat} (b : But vs (wipe σ vs) σ') : wipe σ' vs = wipe σ vs := by
  refine List.ext_getElem? fun j => ?_
  have hl : σ'.length = σ.length := by rw [b.1, wipe_length]
  rw [wipe_get, wipe_get, hl]
  by_cases hj : j ∈ vs
  · rw [if_pos hj, if_pos hj]
  · rw [if_neg hj, if_neg hj, b.2 j hj, wipe_get, if_neg hj]
open Classical in
noncomputable def lcGo (c : IH → Prop) (t : Tg) (k : ST) (f : SE) (r : Nat) (e : Lc) : List D → IH → R D
  | [], h => if c h then .ok (.ref r) h else .bad
  | d :: ds, h => if c h then (match tgS t d e with
    | some e1 => (k e1 h).bindN fun b h1 => if b = true then (f e1 h1).bindN fun y h2 => (match h2[r]? with
        | some (.lst acc) => if acc.length < sizeLine then lcGo c t k f r e ds (h2.set r (.lst (acc ++ [y]))) else .bad
        | _ => .bad) else lcGo c t k f r e ds h1
    | none => .bad) else .bad
/-- [f for t in s if k], vs the slots of its own names -/
noncomputable def eLc (vs : List Nat) (t : Tg) (s : Src) (k : ST) (f : SE) : SE := fun e h => (s e h).bind fun p h1 => lcGo p.2 t k f h1.length (wipeD e vs) p.1 (h1 ++ [.lst []])
theorem lcGo_c {c : IH → Prop} {t : Tg} {k : ST} {f : SE} {r : Nat} {ds : List D} {e : Lc} {h : IH} {K : PySem.W.Frag} {ws : List Addr} {H : Hp} {σ : St} {Q : VK} (q : rd K cl W (VR K) (lcGo c t k f r e ds h) ws H σ Q) : c h := by
  cases ds with
  | nil =>
    unfold lcGo at q
    split at q
    · assumption
    · exact q.elim
  | cons d ds =>
    unfold lcGo at q
    split at q
    · assumption
    · exact q.elim
structure DTs (X : Cx) (cl : Nat → Addr) (W : WX) (ifs : List Expr) (f : ST) : Prop where
  p : PTs X ifs (tT X.K cl W f)
theorem ptsImp {ifs : List Expr} {t u : TT} (h : PTs X ifs t) (i : ∀ σ H Q, u σ H Q → t σ H Q) : PTs X ifs u := ⟨fun pins s σ H Q I q => h.run pins s σ H Q I (i σ H Q q)⟩
def tYe : ST := fun _ h => .ok true h
theorem dts_nil : DTs X cl W [] tYe := ⟨ptsImp pts_nil fun σ H Q ⟨ws, lc, h, hr, lr, q⟩ => q.now hr rfl⟩
theorem dts_one {c : Expr} {f : ST} (h : DT X cl W c f) : DTs X cl W [c] f := ⟨pts_one h.p⟩
theorem lc_ok {t : Tg} {s : Src} {k : ST} {f : SE} {vs : List Nat} (hv : ∀ i ∈ tgL t, i ∈ vs) : ∀ σ H Q, tE X.K cl W (eLc vs t s k f) σ H Q → tLc (tI X.K cl W s) (gOf X.K t) (tT X.K cl WN k) (tE X.K cl WN f) vs σ H Q := by
  intro σ H Q ⟨ws, lc, h, hr, lr, q⟩
  refine ⟨ws, lc, h, hr, lr, ?_⟩
  refine rd.seq q fun ws1 p h1 H1 J p1 l1 hr1 rJ q1 => ?_
  obtain ⟨ds, c⟩ := p
  intro D hD
  have kD : Kept D H1 (upd H1 D (.lst [])) := Kept.new hD
  have hr0 : HR X.K cl (ws1 ++ [D]) (h1 ++ [.lst []]) (upd H1 D (.lst [])) := hr1.new hD ⟨[], upd_same, rfl⟩
  have eD : (ws1 ++ [D])[h1.length]? = some D := by rw [← hr1.len]; simp
  refine ⟨fun i m H' => m = ds.length - i ∧ i ≤ ds.length ∧ ∃ ws' h', (ws1 ++ [D]) <+: ws' ∧ Le X.K (upd H1 D (.lst [])) H' ∧ HR X.K cl ws' h' H' ∧ rd X.K cl W (VR X.K) (lcGo c t k f h1.length (wipeD lc vs) (ds.drop i) h') ws' H' σ Q,
    ⟨ds.length, by simp, Nat.zero_le _, ws1 ++ [D], _, List.prefix_refl _, Le.refl, hr0, rd.mono (List.prefix_append _ _) kD.le q1⟩, ?_⟩
  rintro i m H' ⟨rfl, hi, ws', h', pw, le, hr', qg⟩
  have ch := lcGo_c qg
  have pw1 : ws1 <+: ws' := (List.prefix_append _ _).trans pw
  have le1 : Le X.K H1 H' := kD.le.trans le
  obtain ⟨wk1, wk2⟩ := rJ ws' h' H' pw1 le1 hr' ch i
  have lr' : LR X.K ws' H' lc σ := lr.mono (p1.trans pw1) (l1.trans le1)
  by_cases hlt : i < ds.length
  · obtain ⟨go, yl⟩ := wk1 ds[i] (List.getElem?_eq_getElem hlt)
    refine .inr ⟨go, fun H2 => ∃ ws2 h2, (ws1 ++ [D]) <+: ws2 ∧ Le X.K (upd H1 D (.lst [])) H2 ∧ HR X.K cl ws2 h2 H2 ∧ rd X.K cl W (VR X.K) (lcGo c t k f h1.length (wipeD lc vs) (ds.drop (i + 1)) h2) ws2 H2 σ Q,
      fun H2 z => ⟨ds.length - (i + 1), by omega, rfl, hlt, z⟩, fun x H2 y => ?_⟩
    obtain ⟨rfl, rx⟩ := yl x H2 y
    rw [List.drop_eq_getElem_cons hlt] at qg
    unfold lcGo at qg
    rw [if_pos ch] at qg
    cases ht : tgS t ds[i] (wipeD lc vs) with
    | none => rw [ht] at qg; exact qg.elim
    | some e1 =>
      rw [ht] at qg
      dsimp only at qg
      refine gOf_ok ht rx (wipe_lr lr' vs) fun σ2 lr2 bt => ⟨wipe_but (bt.wider hv), ws', e1, h', hr', lr2, ?_⟩
      refine rd.seqN qg fun ws3 b h3 H3 b' p3 l3 hr3 r3 q3 => ?_
      obtain rfl := (show b = b' from r3)
      cases b with
      | false => exact iteF ⟨ws3, h3, pw.trans p3, le.trans l3, hr3, q3⟩
      | true =>
        rw [if_pos rfl] at q3
        refine iteT ⟨ws3, e1, h3, hr3, lr2.mono p3 l3, ?_⟩
        refine rd.seqN q3 fun ws4 z h4 H4 v p4 l4 hr4 r4 q4 => ?_
        split at q4
        · rename_i acc ha
          split at q4
          · rename_i hz
            have eD4 : ws4[h1.length]? = some D := pre_get (pw.trans (p3.trans p4)) eD
            obtain ⟨xs, f1, f2⟩ := hr4.ob _ _ D ha eD4
            have kk : Kept D H4 (upd H4 D (.lst (xs ++ [v]))) := Kept.wr f1 True.intro
            refine ⟨xs, f1, by rw [f2.len]; exact hz, ws4, _, pw.trans (p3.trans p4), le.trans (l3.trans (l4.trans kk.le)), hr4.set (o := .lst (acc ++ [z])) eD4 f1 True.intro ⟨_, upd_same, (f2.append (es := [_]) (ys := [_]) ⟨_, [], rfl, r4, rfl⟩).mono (List.prefix_refl _) kk.le⟩, rd.mono (List.prefix_refl _) kk.le q4⟩
          · exact q4.elim
        · exact q4.elim
  · have e : i = ds.length := by omega
    subst e
    refine .inl ⟨wk2 (Nat.le_refl _), ?_⟩
    rw [List.drop_length] at qg
    unfold lcGo at qg
    rw [if_pos ch] at qg
    exact qg ws' H' _ (List.prefix_refl _) Le.refl hr' (VR.refI (pre_get pw eD))
theorem de_lc {elt tg iter : Expr} {ifs : List Expr} {scope : Scope} {own : List (Str × Nat)} {pos : Pos} {t : Tg} {s : Src} {k : ST} {f : SE} (hc : X.calm = true) (hN : X.N.Nodup) (hi : DI X cl W iter s) (ok : BlkOk X.N X.env.scope scope own)
    (hg : ∀ (z : Shared) (H : Hp) (C : Addr) (cel : List (Str × Addr)) (fp : List Addr), DG (X.blk z H scope (compEnvC scope cel C X.env) fp) tg t)
    (ht : ∀ (z : Shared) (H : Hp) (C : Addr) (cel : List (Str × Addr)) (fp : List Addr), DTs (X.blk z H scope (compEnvC scope cel C X.env) fp) cl WN ifs k)
    (he : ∀ (z : Shared) (H : Hp) (C : Addr) (cel : List (Str × Addr)) (fp : List Addr), DE (X.blk z H scope (compEnvC scope cel C X.env) fp) cl WN elt f)
    (hv : ∀ i ∈ tgL t, i ∈ own.map (·.2) := by decide) (hs : ∀ x, foldedSetIterable iter X.env x = pure x := by intro _; rfl) : DE X cl W (.ListComp elt [⟨tg, iter, ifs, 0⟩] scope pos) (eLc (own.map (·.2)) t s k f) :=
  ⟨peImp (pe_lc hc hN (hi.p tg) ok (fun a b c d e => (hg a b c d e).p) (fun a b c d e => (ht a b c d e).p) (fun a b c d e => (he a b c d e).p) hs) (lc_ok hv)⟩
theorem ds_setLc (i : Nat) {y : Str} {py : Pos} {elt tg iter : Expr} {ifs : List Expr} {scope : Scope} {own : List (Str × Nat)} {pos spos : Pos} {t : Tg} {s : Src} {k : ST} {f : SE} (hc : X.calm = true) (hN : X.N.Nodup)
    (hi : DI X cl W iter s) (ok : BlkOk X.N X.env.scope scope own)
    (hg : ∀ (z : Shared) (H : Hp) (C : Addr) (cel : List (Str × Addr)) (fp : List Addr), DG (X.blk z H scope (compEnvC scope cel C X.env) fp) tg t)
    (ht : ∀ (z : Shared) (H : Hp) (C : Addr) (cel : List (Str × Addr)) (fp : List Addr), DTs (X.blk z H scope (compEnvC scope cel C X.env) fp) cl WN ifs k)
    (he : ∀ (z : Shared) (H : Hp) (C : Addr) (cel : List (Str × Addr)) (fp : List Addr), DE (X.blk z H scope (compEnvC scope cel C X.env) fp) cl WN elt f)
    (hsw : swapsWith (.ListComp elt [⟨tg, iter, ifs, 0⟩] scope pos) (some (.Name y py)) spos.line X.env = pure true) (hy : X.N[i]? = some y := by rfl) (hyl : X.env.scope.names.lookup y = some .local := by rfl)
    (hv : ∀ i ∈ tgL t, i ∈ own.map (·.2) := by decide) (hs : ∀ x, foldedSetIterable iter X.env x = pure x := by intro _; rfl) :
    DS X cl W (.Assign [.Name y py] (.ListComp elt [⟨tg, iter, ifs, 0⟩] scope pos) spos) (sAs (.n i) (eLc (own.map (·.2)) t s k f)) := by
  refine ⟨psImp (ps_setLc (g := gOf X.K t) (tt := tT X.K cl WN k) (te := tE X.K cl WN f) hc hN hy hyl hsw (hi.p tg) ok (fun a b c d e => (hg a b c d e).p) (fun a b c d e => (ht a b c d e).p) (fun a b c d e => (he a b c d e).p) hs) fun D σ H q => ?_⟩
  exact (fun ⟨ws, lc, h, hr, lr, q⟩ => lc_ok hv σ H _ ⟨ws, lc, h, hr, lr, q⟩) (as_ok D σ H q)
/-! ### defs -/
def fnR (ar n : Nat) (b : SS) : List D → IH → R D := fun ds h => if ds.length = ar then (match b (ds.map some ++ List.replicate (n - ds.length) none) h with
  | .nx _ h1 => .ok .non h1
  | .rt d h1 => .ok d h1
  | .ex c fs _ h1 => .ex c fs h1
  | _ => .bad) else .bad
/-- the def does what F does -/
def spI (K : PySem.W.Frag) (cl : Nat → Addr) (ar : Nat) (F : List D → IH → R D) : Sp := fun vs H Q E => vs.length = ar ∧ ∃ ws h ds, HR K cl ws h H ∧ VRs K ws H ds vs ∧ rd K cl (fun c d _ H' => E c d H') (VR K) (F ds h) ws H [] Q
theorem start_lr {K : PySem.W.Frag} {ws : List Addr} {H : Hp} {N : List Str} : ∀ {ds : List D} {vs : List V}, VRs K ws H ds vs → vs.length ≤ N.length → LR K ws H (ds.map some ++ List.replicate (N.length - ds.length) none) (L2.start N vs) := by
  intro ds vs r hl
  have e := r.len
  refine ⟨?_, fun i d hd => ?_⟩
  · unfold L2.start
    simp [e]
  · by_cases hi : i < ds.length
    · rw [List.getElem?_append_left (by simpa using hi), List.getElem?_map] at hd
      cases h : ds[i]? with
      | none => rw [h] at hd; cases hd
      | some d' =>
        rw [h] at hd
        cases hd
        obtain ⟨v, e1, e2⟩ := r.get h
        refine ⟨v, ?_, e2⟩
        unfold L2.start
        rw [List.getElem?_append_left (by simpa [e] using hi), List.getElem?_map, e1]
        rfl
    · rw [List.getElem?_append_right (by simpa using hi), List.getElem?_replicate] at hd
      split at hd <;> cases hd
theorem ok_fn {P : Program} {w : World} {K : PySem.W.Frag} {mg : Str → Option Value} {base : Heap} {x qual : Str} {st : Stmt} {f : Addr} {fd : FuncData} {N ps : List Str} {k : Nat} {b : SS} (F : Fun K x qual st f fd) (S : FnScope N ps (defScope st))
    (body : ∀ (cdv : Value) (A : Around) (outer : List Env) (s : Shared) (H : Hp) (E : XK), Room k (A.deeper (PyProof.Rows.envOfC qual (defScope st) s.heap.objs.size f cdv)) →
      DSs (cxOf (L2.CX P w) P w K mg base N qual (defScope st) f cdv A outer s H E) cl (fun c d _ H' => E c d H') (defBody st) b) :
    FnOk P w K mg base (L2.CX P w) (k + 1) f fd ps (spI K cl ps.length (fnR ps.length N.length b)) := by
  have hpl : ps.length ≤ N.length := by
    have z := congrArg List.length S.pre
    rw [List.length_take] at z
    omega
  refine F.okX S (fun vs H Q E h => h.1) fun cdv A outer s H vs Q E hr h => ⟨_, (body cdv A outer s H E hr).p, ?_⟩
  obtain ⟨hl, ws, hp, ds, hhr, r, q⟩ := h
  refine ⟨ws, _, hp, hhr, start_lr r (by omega), ?_⟩
  unfold fnR at q
  have e := r.len
  rw [if_pos (show ds.length = ps.length by omega)] at q
  cases hb : b (ds.map some ++ List.replicate (N.length - ds.length) none) hp with
  | nx e1 h1 =>
    rw [hb] at q
    exact fun ws1 H1 σ1 p1 l1 hr1 lr1 => q ws1 H1 .non p1 l1 hr1 rfl
  | rt d h1 => rw [hb] at q; exact q
  | bk e1 h1 => rw [hb] at q; exact q.elim
  | ct e1 h1 => rw [hb] at q; exact q.elim
  | ex c fs e1 h1 =>
    rw [hb] at q
    exact fun ws1 H1 σ1 dd xs p1 l1 hr1 lr1 => q ws1 H1 dd xs p1 l1 hr1
  | bad => rw [hb] at q; exact q.elim
/-- what is asked of a plain def: it has so many parameters -/
def Ar (ar : Nat) (F : List D → IH → R D) : Prop := ∀ ds h, ds.length ≠ ar → F ds h = .bad
theorem fnR_ar {ar n : Nat} {b : SS} : Ar ar (fnR ar n b) := fun ds h hl => if_neg hl
theorem call_ok {ar : Nat} {F : List D → IH → R D} {g : SA} (hA : Ar ar F) : ∀ σ H Q, tE X.K cl W (eB F g) σ H Q → tA X.K cl W g σ H fun vs H1 => spI X.K cl ar F vs H1 Q (WE W σ) := by
  intro σ H Q ⟨ws, lc, h, hr, lr, q⟩
  refine ⟨ws, lc, h, hr, lr, ?_⟩
  refine rd.seq q fun ws1 ds h1 H1 vs p1 l1 hr1 r1 q1 => ?_
  by_cases hl : ds.length = ar
  · refine ⟨by rw [r1.len, hl], ws1, h1, ds, hr1, r1, ?_⟩
    cases hf : F ds h1 with
    | ok d h2 => rw [hf] at q1; exact q1
    | ex c fs h2 => rw [hf] at q1; exact q1
    | bad => rw [hf] at q1; exact q1
  · rw [hA ds h1 hl] at q1
    exact q1.elim
theorem de_call {k : Nat} {f : Addr} {fd : FuncData} {ps : List Str} {ar : Nat} {F : List D → IH → R D} {g : SA} {x : Str} {p pos : Pos} {e : Expr} {es : List Expr} (Fo : FnOk X.prog X.w X.K X.mg X.base (L2.CX X.prog X.w) k f fd ps (spI X.K cl ar F)) (hA : Ar ar F)
    (hr : Room k X.A) (tk : Takes X W) (hm : X.mg x = some (.ref f)) (hk : PySem.W.keepIn X.K (.ref f) = true) (hb : Binds X.K fd ps []) (ha : DA X cl W (e :: es) g) (hg : Gl X x := by rfl)
    (hdb : (x == ("__debug__" : Str)) = false := by decide) (he : starEach (e :: es) X.env = (false, eval e X.env) :: starEach es X.env := by rfl) (hpl : (backTo pos (starEach es X.env)).any (·.1) = false := by rfl) :
    DE X cl W (.Call (.Name x p) (e :: es) [] pos) (eB F g) := ⟨peImp (pe_callS Fo hr hg hm hk hb (fun σ => passAt tk σ) ha.p hdb he hpl) (call_ok hA)⟩
end
end Fl
/-! Fl, part 7: errors: raised, caught (the caught one is an object of the plain heap). -/
namespace Fl
open PySem L2
/-! ### a thing of ours that stands there already is shown -/
theorem exT_ok {P : Program} {w : World} {H : Hp} {h : Heap} {a C dd : Addr} {oe : Obj} {vs : Array Value} (e : h.get? a = some oe) (c : oe.cls = .ref C) (d : oe.dict = some dd) (f : oe.data = .fields vs) : ObjOk P w H h a (exT a C dd) :=
  ⟨⟨oe, vs, e, c, d, f⟩, ⟨oe, e⟩, fun _ _ ⟨oe, vs, e, r⟩ k => ⟨oe, vs, k _ e, r⟩⟩
section
variable {X : Cx} {pins : List (Addr × Obj)} {σ : St} {H : Hp} {s : Shared}
theorem shown {a : Addr} {o : HO} (I : Inv X pins σ H s) (na : H a = none) (old : X.s_0.heap.get? a = none) (cel : ∀ x c, X.env.cells.lookup x = some c → c ≠ a) (pin : ∀ p ∈ X.pn ++ pins, p.1 ≠ a) (loc : a ≠ X.env.locals)
    (new : ObjOk X.prog X.w (upd H a o) s.heap a o) : Inv X pins σ (upd H a o) s := by
  have off : ∀ {b : Addr} {u : HO}, H b = some u → upd H a o b = some u := fun {b u} z => by
    rw [upd_ne (ne_of_none z na)]
    exact z
  have out : ∀ {b : Addr}, b ≠ a → H b = none → upd H a o b = none := fun {b} hb z => by
    rw [upd_ne hb]
    exact z
  refine ⟨I.ok, I.os, I.bare, ⟨I.base.keep, I.base.slot, fun b u z n x => ?_, I.base.there, fun b xs z => off (I.base.tups b xs z), fun b u v z => off (I.base.frzs b u v z), fun b ps z => ?_⟩, I.loc, I.cell, out (Ne.symm loc) I.free, fun x c z => out (cel x c z) (I.freeC x c z), fun p hp => ?_, fun b u z => ?_, I.len⟩
  · exact out (fun q => by rw [q, old] at z; cases z) (I.base.free b u z n x)
  · obtain ⟨m, q⟩ := I.base.tbls b ps z
    exact ⟨m, off q⟩
  · obtain ⟨h1, h2, h3⟩ := I.pin p hp
    exact ⟨h1, out (pin p hp) h2, h3⟩
  · by_cases hb : b = a
    · subst hb
      rw [upd_same] at z
      cases z
      exact new
    · rw [upd_ne hb] at z
      exact (I.hok b u z).stay (fun _ _ _ q => q) (fun _ q => off q) fun _ _ q => off q
/-- the context of an except suite, the error shown -/
abbrev hot (X : Cx) (a : Addr) (pn : List (Addr × Obj)) : Cx := { X with A := X.A.mark (some (.ref a)), calm := false, pn := pn, xe := fun _ _ => False }
theorem hotOk {a : Addr} {pn : List (Addr × Obj)} (ok : X.Ok) : (hot X a pn).Ok :=
  { mod := ok.mod, kind := ok.kind, glob := ok.glob, blt := ok.blt, above := ok.above, inj := ok.inj, has := ok.has, cab := ok.cab, hd := (fun z => absurd (show false = true from z) Bool.false_ne_true), frames := ok.frames, stk := ok.stk,
    exf := ok.exf, bs := ok.bs, bsz := ok.bsz, noex := ok.noex, exfs := ok.exfs, funs := ok.funs, frf := ok.frf }
theorem toHot {a : Addr} (I : Inv X pins σ H s) : Inv (hot X a (X.pn ++ pins)) [] σ H s :=
  { ok := hotOk I.ok, os := I.os, bare := I.bare, base := I.base, loc := I.loc, cell := I.cell, free := I.free, freeC := I.freeC, pin := fun p hp => I.pin p (by simpa using hp), hok := I.hok, len := I.len }
theorem ofHot {a : Addr} {pl : List (Addr × Obj)} (I : Inv (hot X a (X.pn ++ pins)) pl σ H s) (ok : X.Ok) : Inv X pins σ H s :=
  { ok := ok, os := I.os, bare := I.bare, base := I.base, loc := I.loc, cell := I.cell, free := I.free, freeC := I.freeC, pin := fun p hp => I.pin p (List.mem_append_left _ hp), hok := I.hok, len := I.len }
end
/-! ### try -/
/-- what is wanted behind a suite with the name in slot i -/
def unE (i : Option Nat) (D : Ends) : Ends := match i with
  | none => D
  | some i => { nx := fun σ H => D.nx (σ.set i none) H, rt := D.rt, bk := fun σ H => D.bk (σ.set i none) H, ct := fun σ H => D.ct (σ.set i none) H }
def inS (i : Option Nat) (a : Addr) (σ : St) : St := match i with
  | none => σ
  | some i => σ.set i (some (.ref a))
def wTr (K : PySem.W.Frag) (Wout : WX) (D : Ends) : List (Value × Option Nat × TS) → WX
  | [] => Wout
  | (c, i, ts) :: r => fun cls d σ H => ∃ b, PySem.W.exmOne K cls c = some b ∧ (b = true → ∃ C dd, cls = .ref C ∧ d = some dd ∧ ∀ a, H a = none → ts (unE i D) (inS i a σ) (upd H a (exT a C dd))) ∧ (b = false → wTr K Wout D r cls d σ H)
/-- the clause's name has its slot -/
def HdN (X : Cx) : Option Str → Option Nat → Prop
  | none, none => True
  | some n, some i => X.N[i]? = some n ∧ X.env.kindOf n = some .local
  | _, _ => False
inductive Hds (X : Cx) : List ExceptHandler → List (Value × Option Nat × TS) → Prop
  | nil : Hds X [] []
  | cons {x : Str} {c : Value} {nm : Option Str} {i : Option Nat} {ts : TS} {b : Stmt} {bs : List Stmt} {p q : Pos} {hds : List ExceptHandler} {l : List (Value × Option Nat × TS)} (hc : Names X x c) (hn : HdN X nm i)
      (su : ∀ (a : Addr) (pn : List (Addr × Obj)), PSs (hot X a pn) (b :: bs) ts) (r : Hds X hds l) : Hds X (.ExceptHandler (some (.Name x p)) nm (b :: bs) q :: hds) ((c, i, ts) :: l)
section
variable {X : Cx} {body : List Stmt} {hd1 : ExceptHandler} {hds : List ExceptHandler} {l : List (Value × Option Nat × TS)} {pos : Pos} {tb : WX → TS} {Wout : WX}
theorem ps_tryT (hst : X.stack = X.env :: X.outer) (hfr : X.env.frame = some X.env.locals) (hno : X.ex = []) (hN : X.N.Nodup) (tk : Takes X Wout)
    (hbody : ∀ (W : WX) (pn : List (Addr × Obj)) (xe : Value → Shared → Prop), Takes (X.tr pn xe) W → PassesOwn (model X.prog X.w) X.A X.env xe → PSs (X.tr pn xe) body (tb W)) (hhd : Hds X (hd1 :: hds) l) :
    PS X (.Try body (hd1 :: hds) [] [] pos) (fun D σ H => tb (wTr X.K Wout D l) D σ H) := by
  refine ⟨fun pins s σ H D I want => ?_⟩
  have ok := I.ok
  have frA : X.A.frames = some (X.env :: X.outer) := ok.frames.trans (by rw [hst])
  refine wpAny_Try_except (wpAny_mono ((hbody (wTr X.K Wout D l) (X.pn ++ pins) (fun er s1 => wpAny (model X.prog X.w) X.A (noteFrame er X.env) (fun _ s2 => wpAny (model X.prog X.w) X.A (setFlight er none) (fun _ s3 =>
    wpAny (model X.prog X.w) X.A (handleBy er X.env (hd1 :: hds)) (SP X pins D) X.xe s3) X.xe s2) X.xe s1) (fun er s1 air => ?_) PassesOwn.looking).run [] s σ H D (I.toTry _) want) (fun fl s1 sp => ?_) fun er s1 z => z)
  · obtain ⟨a, B, sI, pl, τ, G, cls, d, rfl, J0, ground, slots, sky, na, eos, bare, wish⟩ := air
    have J : Inv X pins τ G sI := J0.ofTry ok
    rw [show (X.tr (X.pn ++ pins) _).stack = X.env :: X.outer from hst] at sky
    refine Sky.land Zc.steady frA hfr sky fun hA flA upA => ?_
    have JA : Inv X pins τ G { s1 with heap := hA } := J.landed ground flA.1 (slots.trans upA) eos bare
    obtain ⟨oA, vA, eA, zA, dA⟩ := flA.there
    have nofr : a ∉ frs X.stack := fun hm => by
      rw [hst] at hm
      obtain ⟨_, o2, e2, q2⟩ := flA.2.2.1.mem hm
      rw [eA] at e2
      cases e2
      exact q2 _ dA
    have gone : sI.heap.get? a = none := by
      cases z : sI.heap.get? a with
      | none => rfl
      | some o2 =>
        have z2 := ground a o2 z nofr
        rw [flA.2.1] at z2
        cases z2
    have old : X.s_0.heap.get? a = none := by
      cases z : X.s_0.heap.get? a with
      | none => rfl
      | some o2 =>
        obtain ⟨o3, z3⟩ := J.base.there a o2 z (by rw [hno]; exact fun y => nomatch y)
        rw [gone] at z3
        cases z3
    have cel : ∀ x c, X.env.cells.lookup x = some c → c ≠ a := fun x c z y => by
      obtain ⟨v, o2, e2, _⟩ := J.cell x c z
      rw [y, gone] at e2
      cases e2
    have pin : ∀ p ∈ X.pn ++ pins, p.1 ≠ a := fun p hp y => by
      have e2 := (J.pin p hp).1
      rw [y, gone] at e2
      cases e2
    have loc : a ≠ X.env.locals := fun z => nofr (by
      rw [hst, z]
      exact List.mem_filterMap.mpr ⟨X.env, List.mem_cons_self, hfr⟩)
    have SA := toHot (a := a) JA
    have clauses : ∀ {hs : List ExceptHandler} {k : List (Value × Option Nat × TS)}, Hds X hs k → wTr X.K Wout D k cls d τ G →
        wpAny (model X.prog X.w) X.A (handleBy (.ref a) X.env hs) (SP X pins D) X.xe { s1 with heap := hA } := by
      intro hs k hk
      induction hk with
      | nil =>
        intro wsh
        refine wpAny_handleBy_nil ?_
        obtain ⟨_, _, _, oe, ve, T, _, _, g1, _, g3, g4, _⟩ := id flA
        unfold PySem.passOn
        refine wpAny_bind (wpAny_field g1 g3 g4 ?_)
        rw [if_neg (show ¬ (Value.ref T == Value.none) = true from by simp)]
        have up : wpAny (model X.prog X.w) X.A (setFlight (.ref a) X.env.frame) (fun _ s4 => wpAny (model X.prog X.w) X.A (throw (.ref a) : Sem Flow) (SP X pins D) X.xe s4) X.xe { s1 with heap := hA } := by
          rw [hfr]
          refine HandSPX.setFlight_upZ flA fun hB heldB upB => wpAny_throw (tk _ _ ⟨a, B, sI, pins, τ, G, cls, d, rfl, J, ground, (slots.trans upA).trans upB, .inr (.inr ?_), na, eos, bare, wsh⟩)
          rw [hst]
          exact heldB
        first
          | exact wpAny_bind up
          | exact wpAny_bind (wpAny_pure (wpAny_bind up))
      | @cons x c nm i ts b bs p q hds2 l2 hc hn su r ih =>
        intro ⟨t, ht, yes, no⟩
        refine wpAny_handleBy_cons (codeAny_handlers_test ?_) (fun z => by cases z)
        have tyA : PySem.W.Looks (model X.prog X.w) hA (typeOf (.ref a)) cls := fun A2 Q2 E2 s2 kp q2 => wpAny_typeOf_ref (kp _ _ eA) (by rw [zA.1]; exact q2)
        have cmp := PySem.W.exm_one (M := model X.prog X.w) JA.kIn tyA ht
        have name : ∀ {Q2 : Value → Shared → Prop} {E2 : Value → Shared → Prop}, Q2 c { s1 with heap := hA } → wpAny (model X.prog X.w) (X.A.mark (some (.ref a))) (eval (.Name x p) X.env) Q2 E2 { s1 with heap := hA } := by
          intro Q2 E2 q2
          obtain ⟨g1, g2, g3 | ⟨g3, g4, g5⟩⟩ := hc
          · exact ld_glob (X := hot X a (X.pn ++ pins)) SA g1 g3 q2 g2
          · exact ld_blt (X := hot X a (X.pn ++ pins)) SA g1 g3 g4 q2 g5 g2
        refine name (cmp.here ?_)
        cases t with
        | false => exact ih (no rfl)
        | true =>
          obtain ⟨C, dd, rfl, rfl, run⟩ := yes rfl
          have want2 := run a na
          -- the error stands still, then it is shown
          have go : ∀ {hB : Heap}, HandSPX.FlyingZ B (X.env :: X.outer) a (Zc (.ref C) (some dd)) hB → hA.UpToSlots hB → Inv X pins τ (upd G a (exT a C dd)) { s1 with heap := hB } := fun {hB} flB upB => by
            have JB : Inv X pins τ G { s1 with heap := hB } := J.landed ground flB.1 ((slots.trans upA).trans upB) eos bare
            obtain ⟨oB, vB, eB, zB, dB⟩ := flB.there
            exact shown JB na old cel pin loc (exT_ok eB zB.1 zB.2 dB)
          cases nm with
          | none =>
            cases i with
            | some j => exact hn.elim
            | none =>
              refine codeAny_handlers_suite (HandSPX.lands_againZ flA fun hB flB upB => ?_)
              refine wpAny_mono ((su a (X.pn ++ pins)).run [] _ _ _ _ (toHot (go flB upB)) want2) (fun fl s6 sp => ?_) fun _ _ z => z.elim
              cases fl with
              | next => obtain ⟨σ6, H6, S6, w6⟩ := sp; exact ⟨_, _, ofHot S6 ok, w6⟩
              | brk => obtain ⟨σ6, H6, S6, w6⟩ := sp; exact ⟨_, _, ofHot S6 ok, w6⟩
              | cont => obtain ⟨σ6, H6, S6, w6⟩ := sp; exact ⟨_, _, ofHot S6 ok, w6⟩
              | ret u => obtain ⟨v6, σ6, H6, S6, r6, w6⟩ := sp; exact ⟨_, _, _, ofHot S6 ok, r6, w6⟩
          | some n =>
            cases i with
            | none => exact hn.elim
            | some j =>
              obtain ⟨hj, hl⟩ := hn
              refine codeAny_handlers_suite_as (HandSPX.lands_againZ flA fun hB flB upB => ?_)
              refine store_ok (X := hot X a (X.pn ++ pins)) (v := .ref a) (toHot (go flB upB)) hN hj (.inl hl) rfl (fun s5 S5 => ?_) (.inr hl)
              refine wpAny_mono ((su a (X.pn ++ pins)).run [] s5 _ _ _ S5 want2) (fun fl s6 sp => ?_) fun _ _ z => z.elim
              have away : ∀ {σ6 : St} {H6 : Hp} {Q2 : Shared → Prop}, Inv (hot X a (X.pn ++ pins)) [] σ6 H6 s6 → (∀ s7, Inv X pins (σ6.set j none) H6 s7 → Q2 s7) →
                  wpAny (model X.prog X.w) X.A (do bindName X.env n .none; unbindBehindTheSuite X.env n q) (fun _ s7 => Q2 s7) X.xe s6 := fun S6 k2 => gone_ok (ofHot S6 ok) hN hj hl k2
              cases fl with
              | next => obtain ⟨σ6, H6, S6, w6⟩ := sp; exact away S6 fun s7 J7 => ⟨_, _, J7, w6⟩
              | brk => obtain ⟨σ6, H6, S6, w6⟩ := sp; exact away S6 fun s7 J7 => ⟨_, _, J7, w6⟩
              | cont => obtain ⟨σ6, H6, S6, w6⟩ := sp; exact away S6 fun s7 J7 => ⟨_, _, J7, w6⟩
              | ret u => obtain ⟨v6, σ6, H6, S6, r6, w6⟩ := sp; exact away S6 fun s7 J7 => ⟨_, _, _, J7, r6, w6⟩
    exact clauses hhd wish
  · cases fl with
    | next => obtain ⟨τ, G, J, w6⟩ := sp; exact wpAny_execs_nil ⟨τ, G, J.ofTry ok, w6⟩
    | brk => obtain ⟨τ, G, J, w6⟩ := sp; exact ⟨τ, G, J.ofTry ok, w6⟩
    | cont => obtain ⟨τ, G, J, w6⟩ := sp; exact ⟨τ, G, J.ofTry ok, w6⟩
    | ret u => obtain ⟨v6, τ, G, J, r6, w6⟩ := sp; exact ⟨v6, τ, G, J.ofTry ok, r6, w6⟩
end
end Fl
/-! Fl, part 8: errors over plain values. -/
namespace Fl
open PySem L2
/-! ### try -/
def unS (i : Option Nat) : RS → RS
  | .nx e h => .nx (match i with
    | none => e
    | some i => e.set i none) h
  | .bk e h => .bk (match i with
    | none => e
    | some i => e.set i none) h
  | .ct e h => .ct (match i with
    | none => e
    | some i => e.set i none) h
  | .rt d h => .rt d h
  | _ => .bad
def hdGo (sub : Nat → Nat → Option Bool) (c : Nat) (fs : List (Str × D)) : List (Nat × Option Nat × SS) → Lc → IH → RS
  | [], e, h => .ex c fs e h
  | (k, i, su) :: r, e, h => match sub c k with
    | some true => unS i (su (match i with
      | none => e
      | some i => e.set i (some (.ref h.length))) (h ++ [.exc c fs]))
    | some false => hdGo sub c fs r e h
    | none => .bad
def sTry (sub : Nat → Nat → Option Bool) (b : SS) (hs : List (Nat × Option Nat × SS)) : SS := fun e h => match b e h with
  | .ex c fs e1 h1 => hdGo sub c fs hs e1 h1
  | r => r
inductive DHds (X : Cx) (cl : Nat → Addr) : List ExceptHandler → List (Nat × Option Nat × SS) → Prop
  | nil : DHds X cl [] []
  | cons {x : Str} {k : Nat} {nm : Option Str} {i : Option Nat} {f : SS} {b : Stmt} {bs : List Stmt} {p q : Pos} {hds : List ExceptHandler} {l : List (Nat × Option Nat × SS)} (hc : Names X x (.ref (cl k))) (hn : HdN X nm i)
      (su : ∀ (a : Addr) (pn : List (Addr × Obj)), DSs (hot X a pn) cl WN (b :: bs) f) (r : DHds X cl hds l) : DHds X cl (.ExceptHandler (some (.Name x p)) nm (b :: bs) q :: hds) ((k, i, f) :: l)
section
variable {X : Cx} {cl : Nat → Addr} {W : WX}
theorem DHds.hds {hs : List ExceptHandler} {l : List (Nat × Option Nat × SS)} (h : DHds X cl hs l) : Hds X hs (l.map fun z => (.ref (cl z.1), z.2.1, tS X.K cl WN z.2.2)) := by
  induction h with
  | nil => exact .nil
  | cons hc hn su r ih => exact .cons hc hn (fun a pn => (su a pn).p) ih
theorem unS_ok {K : PySem.W.Frag} {ws : List Addr} {H : Hp} {i : Option Nat} {r : RS} {D : Ends} (q : rdS K cl W (unS i r) ws H D) : rdS K cl WN r ws H (unE i D) := by
  cases i with
  | none =>
    cases r <;> first
      | exact q
      | exact q.elim
  | some i =>
    cases r with
    | nx e h => exact fun ws' H' σ' p l hr lr => q ws' H' _ p l hr (lr.none i none)
    | bk e h => exact fun ws' H' σ' p l hr lr => q ws' H' _ p l hr (lr.none i none)
    | ct e h => exact fun ws' H' σ' p l hr lr => q ws' H' _ p l hr (lr.none i none)
    | rt d h => exact q
    | ex c fs e h => exact q.elim
    | bad => exact q
theorem hdGo_ok {sub : Nat → Nat → Option Bool} (hsub : ∀ c k b, sub c k = some b → PySem.W.exmOne X.K (.ref (cl c)) (.ref (cl k)) = some b) {c : Nat} {fs : List (Str × D)} {D : Ends} {e : Lc} {h : IH} :
    ∀ {l : List (Nat × Option Nat × SS)} {ws : List Addr} {H : Hp}, rdS X.K cl W (hdGo sub c fs l e h) ws H D → ∀ ws' H' σ' dd xs, ws <+: ws' → Le X.K H H' → HR X.K cl ws' h H' → LR X.K ws' H' e σ' → H' dd = some (.xd xs) → FR X.K ws' H' fs xs →
      wTr X.K W D (l.map fun z => (.ref (cl z.1), z.2.1, tS X.K cl WN z.2.2)) (.ref (cl c)) (some dd) σ' H'
  | [], ws, H, q, ws', H', σ', dd, xs, p, le, hr, lr, ed, fr => q ws' H' σ' dd xs p le hr lr ed fr
  | (k, i, f) :: l, ws, H, q, ws', H', σ', dd, xs, p, le, hr, lr, ed, fr => by
    unfold hdGo at q
    cases hs : sub c k with
    | none => rw [hs] at q; exact q.elim
    | some b =>
      rw [hs] at q
      refine ⟨b, hsub c k b hs, fun hb => ?_, fun hb => ?_⟩
      · subst hb
        refine ⟨cl c, dd, rfl, rfl, fun a na => ?_⟩
        have kk : Kept a H' (upd H' a (exT a (cl c) dd)) := Kept.new na
        have pa : ws' <+: ws' ++ [a] := List.prefix_append _ _
        have nd : dd ≠ a := fun z => by rw [z, na] at ed; cases ed
        have hr2 : HR X.K cl (ws' ++ [a]) (h ++ [.exc c fs]) (upd H' a (exT a (cl c) dd)) := hr.new na ⟨dd, xs, upd_same, by rw [upd_ne nd]; exact ed, fr.mono pa kk.le⟩
        have lr2 := lr.mono pa kk.le
        have q2 := unS_ok (rdS.mono (p.trans pa) (le.trans kk.le) q)
        cases i with
        | none => exact ⟨_, _, _, hr2, lr2, q2⟩
        | some i =>
          refine ⟨_, _, _, hr2, lr2.set i (d := .ref h.length) (v := .ref a) (VR.refI ?_), q2⟩
          rw [← hr.len]
          simp
      · subst hb
        exact hdGo_ok hsub q ws' H' σ' dd xs p le hr lr ed fr
theorem ds_try {body : List Stmt} {hd1 : ExceptHandler} {hds : List ExceptHandler} {l : List (Nat × Option Nat × SS)} {pos : Pos} {b : SS} {sub : Nat → Nat → Option Bool}
    (hsub : ∀ c k b, sub c k = some b → PySem.W.exmOne X.K (.ref (cl c)) (.ref (cl k)) = some b) (hN : X.N.Nodup) (tk : Takes X W)
    (hb : ∀ (W2 : WX) (pn : List (Addr × Obj)) (xe : Value → Shared → Prop), Takes (X.tr pn xe) W2 → PassesOwn (model X.prog X.w) X.A X.env xe → DSs (X.tr pn xe) cl W2 body b) (hh : DHds X cl (hd1 :: hds) l)
    (hst : X.stack = X.env :: X.outer := by rfl) (hfr : X.env.frame = some X.env.locals := by rfl) (hno : X.ex = [] := by rfl) : DS X cl W (.Try body (hd1 :: hds) [] [] pos) (sTry sub b l) := by
  refine ⟨psImp (ps_tryT (tb := fun W2 => tS X.K cl W2 b) hst hfr hno hN tk (fun W2 pn xe t2 po => (hb W2 pn xe t2 po).p) hh.hds) fun D σ H ⟨ws, lc, h, hr, lr, q⟩ => ⟨ws, lc, h, hr, lr, ?_⟩⟩
  unfold sTry at q
  cases hbb : b lc h with
  | nx e1 h1 => rw [hbb] at q; exact q
  | rt d h1 => rw [hbb] at q; exact q
  | bk e1 h1 => rw [hbb] at q; exact q
  | ct e1 h1 => rw [hbb] at q; exact q
  | ex c fs e1 h1 =>
    rw [hbb] at q
    exact fun ws' H' σ' dd xs p le hr' lr' ed fr => hdGo_ok hsub q ws' H' σ' dd xs p le hr' lr' ed fr
  | bad => rw [hbb] at q; exact q
/-! ### a field of an error -/
def tXr (K : PySem.W.Frag) (n : Str) (te : TE) : TE := fun σ H Q => te σ H fun x H1 => ∃ a C dd fs v, x = .ref a ∧ H1 a = some (exT a C dd) ∧ XfC K C ∧ PySem.W.findIn K (.ref C) n = some none ∧ H1 dd = some (.xd fs) ∧ fs.lookup n = some v ∧ Q v H1
theorem exT_at {P : Program} {w : World} {H : Hp} {h : Heap} {a C dd : Addr} (hok : HOk P w H h) (e : H a = some (exT a C dd)) : ∃ (oe : Obj) (vs : Array Value), h.get? a = some oe ∧ oe.cls = .ref C ∧ oe.dict = some dd ∧ oe.data = .fields vs := by
  have z : ObjOk P w H h a (exT a C dd) := hok a _ e
  exact z.1
theorem pe_xr {e : Expr} {te : TE} {pos : Pos} {n : Str} (he : PE X e te) (hb : attributeBase e n X.env (eval e X.env) = eval e X.env := by rfl) : PE X (.Attribute e n pos) (tXr X.K n te) := by
  refine ⟨fun pins s σ H Q I want => attr_of hb (thn (he.run pins s σ H _ I want) fun u s1 got => ?_)⟩
  obtain ⟨x, H1, I1, rx, a, C, dd, fs, v, rfl, ea, T, no, ed, lk, q⟩ := got
  obtain rfl : u = Value.ref a := rx
  obtain ⟨oe, vs, h1, h2, h3, h4⟩ := exT_at I1.hok ea
  have xd : ObjOk X.prog X.w H1 s1.heap dd (.xd fs) := I1.hok dd _ ed
  obtain ⟨mA, ns, rel⟩ := xd
  obtain ⟨od, ho, look⟩ := lookIn_ns ns
  obtain ⟨u2, hu, ru⟩ := RelO.some_of (v := v) (o := mA n) (by rw [← lk]; exact rel n)
  have at_ : PySem.W.InstAt s1.heap a oe C (some od) := ⟨h1, h2, by unfold PySem.W.notCls; rw [h4] <;> rfl, by rw [h3]; exact ho⟩
  have own := PySem.W.findObj_own T.hdC no rfl (by rw [look, hu])
  exact HandSPX.exc_get I1.kIn at_ T.ga T.gg T.exC own (handed_of ru) ⟨v, H1, I1.tok _, ru, q⟩
/-- n of an error of one of the first m classes -/
def eXr (m : Nat) (n : Str) (f : SE) : SE := fun e h => (f e h).bind fun d h1 => match d with
  | .ref k => (match h1[k]? with
    | some (.exc c fs) => if c < m then (match fs.lookup n with
      | some z => .ok z h1
      | none => .bad) else .bad
    | _ => .bad)
  | _ => .bad
theorem de_xr {m : Nat} {e : Expr} {pos : Pos} {n : Str} {f : SE} (hm : ∀ c, c < m → XfC X.K (cl c) ∧ PySem.W.findIn X.K (.ref (cl c)) n = some none) (he : DE X cl W e f)
    (hb : attributeBase e n X.env (eval e X.env) = eval e X.env := by rfl) : DE X cl W (.Attribute e n pos) (eXr m n f) := by
  refine ⟨peImp (pe_xr he.p hb) fun σ H Q ⟨ws, lc, h, hr, lr, q⟩ => ⟨ws, lc, h, hr, lr, ?_⟩⟩
  refine rd.seq q fun ws1 d h1 H1 v p1 l1 hr1 r1 q1 => ?_
  split at q1
  · rename_i k
    split at q1
    · rename_i c fs hk
      split at q1
      · rename_i hc
        split at q1
        · rename_i z hz
          obtain ⟨a, rfl, ea⟩ := r1
          obtain ⟨dd, xs, e1, e2, fr⟩ := hr1.ob k _ a hk ea
          obtain ⟨y, ey, ry⟩ := fr.look hz
          exact ⟨a, cl c, dd, xs, y, rfl, e1, (hm c hc).1, (hm c hc).2, e2, ey, q1.now hr1 ry⟩
        · exact q1.elim
      · exact q1.elim
    · exact q1.elim
  · exact q1.elim
/-! ### raise X(..), X with an __init__ that only keeps its arguments -/
/-- __init__ keeps its arguments as the fields fl -/
def spX (C : Addr) (fl : List Str) : Sp := fun vs H Q _ => ∃ a xs, vs = .ref a :: xs ∧ xs.length = fl.length ∧ H a = some (exo a C none) ∧ ∀ d, H d = none → d ≠ a → Q .non (upd (upd H d (exd d (fl.zip xs).reverse)) a (exo a C (some d)))
structure XCls (K : PySem.W.Frag) (C fI : Addr) : Prop where
  T : OexC K C
  i : PySem.W.findIn K (.ref C) "__init__" = some (some (.ref fI))
  t : PySem.W.typeIn K (.ref fI) = some (.type "function")
section
variable {P : Program} {w : World} {K : PySem.W.Frag} {mg : Str → Option Value} {base : Heap} {C : Addr}
theorem ok_x1 {qual f : Str} {st : Stmt} {fI : Addr} {fd : FuncData} {s : Str} (F : Fun K "__init__" qual st fI fd) (S : FnScope [s, f] [s, f] (defScope st)) (T : OexC K C) (no : PySem.W.findIn K (.ref C) f = some none)
    (body : ∀ (cdv : Value) (A : Around) (outer : List Env) (z : Shared) (H : Hp) (E : XK), PSs ((cxOf CX0 P w K mg base [s, f] qual (defScope st) fI cdv A outer z H E).nox) (defBody st) (tOst K f (tVar 0) (tVar 1))) :
    FnOk P w K mg base CX0 1 fI fd [s, f] (spX C [f]) := by
  refine F.ok S (fun vs H Q E h => ?_) fun cdv A outer z H vs Q E hr h => ⟨_, body cdv A outer z H E, ?_⟩
  · obtain ⟨a, xs, rfl, hl, _⟩ := h
    simp only [List.length_cons, hl]
  · obtain ⟨a, xs, rfl, hl, ea, k⟩ := h
    match xs, hl with
    | [x], _ => exact ⟨x, rfl, .ref a, rfl, a, C, rfl, T, no, .inl ⟨ea, fun dx n ne => k dx n ne⟩⟩
theorem ok_x2 {qual f g : Str} {st : Stmt} {fI : Addr} {fd : FuncData} {s : Str} (F : Fun K "__init__" qual st fI fd) (S : FnScope [s, f, g] [s, f, g] (defScope st)) (T : OexC K C) (no : PySem.W.findIn K (.ref C) f = some none) (no2 : PySem.W.findIn K (.ref C) g = some none)
    (body : ∀ (cdv : Value) (A : Around) (outer : List Env) (z : Shared) (H : Hp) (E : XK), PSs ((cxOf CX0 P w K mg base [s, f, g] qual (defScope st) fI cdv A outer z H E).nox) (defBody st) (tSeq (tOst K f (tVar 0) (tVar 1)) (tOst K g (tVar 0) (tVar 2)))) :
    FnOk P w K mg base CX0 1 fI fd [s, f, g] (spX C [f, g]) := by
  refine F.ok S (fun vs H Q E h => ?_) fun cdv A outer z H vs Q E hr h => ⟨_, body cdv A outer z H E, ?_⟩
  · obtain ⟨a, xs, rfl, hl, _⟩ := h
    simp only [List.length_cons, hl]
  · obtain ⟨a, xs, rfl, hl, ea, k⟩ := h
    match xs, hl with
    | [x, y], _ =>
      refine ⟨x, rfl, .ref a, rfl, a, C, rfl, T, no, .inl ⟨ea, fun dx n ne => ?_⟩⟩
      refine ⟨y, rfl, .ref a, rfl, a, C, rfl, T, no2, .inr ⟨dx, [(f, x)], upd_same, by rw [upd_ne ne, upd_same], (by show 1 ≤ 900; decide), ?_⟩⟩
      have e : upd (upd (upd H dx (exd dx [(f, x)])) a (exo a C (some dx))) dx (exd dx ((g, y) :: [(f, x)])) = upd (upd H dx (exd dx ([f, g].zip [x, y]).reverse)) a (exo a C (some dx)) := by
        funext b
        by_cases h1 : b = dx
        · subst h1
          rw [upd_same, upd_ne ne, upd_same]
          rfl
        · rw [upd_ne h1]
          by_cases h2 : b = a
          · subst h2
            rw [upd_same, upd_same]
          · rw [upd_ne h2, upd_ne h1, upd_ne h2, upd_ne h1]
      show Q V.non _
      rw [e]
      exact k dx n ne
end
theorem FR.app {K : PySem.W.Frag} {ws : List Addr} {H : Hp} : ∀ {a b : List (Str × D)} {x y : List (Str × V)}, FR K ws H a x → FR K ws H b y → FR K ws H (a ++ b) (x ++ y)
  | [], _, _, _, h, t => by cases h; exact t
  | _ :: _, _, _, _, h, t => by
    obtain ⟨x, r, rfl, h1, h2⟩ := h
    exact ⟨x, _, rfl, h1, FR.app h2 t⟩
theorem FR.rev {K : PySem.W.Frag} {ws : List Addr} {H : Hp} : ∀ {a : List (Str × D)} {x : List (Str × V)}, FR K ws H a x → FR K ws H a.reverse x.reverse
  | [], _, h => by cases h; rfl
  | p :: _, _, h => by
    obtain ⟨x, r, rfl, h1, h2⟩ := h
    rw [List.reverse_cons, List.reverse_cons]
    exact FR.app (FR.rev h2) (show FR K ws H [p] [(p.1, x)] from ⟨x, [], rfl, h1, rfl⟩)
theorem FR.zip {K : PySem.W.Frag} {ws : List Addr} {H : Hp} : ∀ {fl : List Str} {ds : List D} {xs : List V}, VRs K ws H ds xs → FR K ws H (fl.zip ds) (fl.zip xs)
  | [], _, _, _ => by simp [FR]
  | _ :: _, [], _, r => by cases r; simp [FR]
  | f :: fl, d :: ds, _, r => by
    obtain ⟨x, t, rfl, r1, r2⟩ := r
    exact ⟨x, fl.zip t, rfl, r1, FR.zip r2⟩
theorem xd_eq {H : Hp} {a d C : Addr} {fs : List (Str × V)} (na : H a = none) (ne : d ≠ a) :
    upd (del (upd (upd (upd H a (exo a C none)) d (exd d fs)) a (exo a C (some d))) a) d (.xd fs) = upd H d (.xd fs) := by
  funext b
  by_cases h1 : b = d
  · subst h1
    rw [upd_same, upd_same]
  · rw [upd_ne h1, upd_ne h1]
    by_cases h2 : b = a
    · subst h2
      rw [del_same, na]
    · rw [del_ne h2, upd_ne h2, upd_ne h1, upd_ne h2]
def sRs (c : Nat) (fl : List Str) (g : SA) : SS := fun e h => (g e h).st e fun ds h1 => if ds.length = fl.length ∧ fl.length ≤ 1000 then .ex c (fl.zip ds).reverse e h1 else .bad
theorem ds_raise {k : Nat} {fI : Addr} {fd : FuncData} {ps : List Str} {c : Nat} {fl : List Str} {x : Str} {a : Expr} {es : List Expr} {g : SA} {p pos pos2 : Pos} (hc : X.calm = true) (T : XCls X.K (cl c) fI) (F : FnOk X.prog X.w X.K X.mg X.base CX0 k fI fd ps (spX (cl c) fl))
    (hr : Room (k + 1) X.A) (hb : Binds X.K fd ps []) (hm : X.mg x = some (.ref (cl c))) (tk : Takes X W) (ha : DA X cl W (a :: es) g) (hg : Gl X x := by rfl) (hdb : (x == ("__debug__" : Str)) = false := by decide)
    (he : starEach (a :: es) X.env = (false, eval a X.env) :: starEach es X.env := by rfl) (hpl : (backTo pos (starEach es X.env)).any (·.1) = false := by rfl) : DS X cl W (.Raise (some (.Call (.Name x p) (a :: es) [] pos)) none pos2) (sRs c fl g) := by
  refine ⟨psImp (ps_raise hc tk (pmk_oex T.T T.i T.t F hr hb .nil pass0 hg hm ha.p hdb he hpl)) fun D σ H ⟨ws, lc, h, hhr, lr, q⟩ => ⟨ws, lc, h, hhr, lr, ?_⟩⟩
  refine rdS.seq q lr fun ws1 ds h1 H1 vs p1 l1 hr1 r1 q1 => ?_
  split at q1
  · rename_i hz
    refine ⟨by rw [r1.len]; omega, fun b nb => ⟨b, vs, by rw [List.append_nil], by rw [r1.len]; exact hz.1, upd_same, fun d nd ne => ⟨rfl, d, _, upd_same, by rw [upd_ne ne, upd_same], by rw [upd_ne ne] at nd; exact nd, ?_⟩⟩⟩
    rw [upd_ne ne] at nd
    rw [xd_eq nb ne]
    have kk : Kept d H1 (upd H1 d (.xd (fl.zip vs).reverse)) := Kept.new nd
    exact q1 ws1 _ σ d _ (List.prefix_refl _) kk.le (hr1.keep kk (hr1.free nd)) ((lr.mono p1 l1).mono (List.prefix_refl _) kk.le) upd_same ((FR.rev (FR.zip r1)).mono (List.prefix_refl _) kk.le)
  · exact q1.elim
end
end Fl
/-! Fl, part 9: an error made with values and keywords: kept as a value, or raised. -/
namespace PySem.FlX
open PySem Sem PySem.HandSPX
section
variable {M : Model} {A : Around} {E : Value → Shared → Prop} {h : Heap}
variable {g : Array GenState} {d : Drawn} {t : Nat} {os : OsState} {k0 k1 k2 k3 k5 : Option Value}
variable {nm q : Str} {C N : Addr} {bs bm mb : List Value} {hdct : Bool} {sn : List Str} {sub : List Value} {ab : Bool} {col : Option Bool} {dd : Option Addr} {B nId iId : String}
theorem chkNew (F : ExcBaseFacts B nId iId mb) (hT : ∀ Y : String, bm.contains (.type Y) = mb.contains (.type Y)) {rest : List Value} {kw : List (Str × Value)} {Q : Unit → Shared → Prop}
    (cls : h.get? C = some (excClassObj nm q C N bs bm hdct sn sub ab col dd k0 k1 k2 k3 k5 nId)) (fin : Q () ⟨h, g, d, t, os⟩) : wpAny M A (checkBuiltinCall nId ⟨.ref C :: rest, kw⟩) Q E ⟨h, g, d, t, os⟩ := by
  have inB : (Value.ref C :: bm).contains (.type B) = true := by rw [List.contains_cons, hT, F.hasB, Bool.or_true]
  have noStar := F.noStar
  simp only [checkBuiltinCall, F.newSplit, F.newKind, F.newRow]
  repeat (first | refine wpAny_loadPart_at cls ?_ | (refine wpAny_isSubtype_exc cls ?_; rw [inB]) | refine wpAny_staticBase_exc cls ?_ | refine wpAny_madeBy_exc cls ?_ | simp only [bne_self_eq_false, Bool.false_eq_true, if_false] | wp_step)
  exact fin
theorem chkTop {rest : List Value} {kw : List (Str × Value)} {Q : Unit → Shared → Prop} (cls : h.get? C = some (excClassObj nm q C N bs bm hdct sn sub ab col dd k0 k1 k2 k3 k5 nId))
    (fin : Q () ⟨h, g, d, t, os⟩) : wpAny M A (checkBuiltinCall "type.__call__" ⟨.ref C :: rest, kw⟩) Q E ⟨h, g, d, t, os⟩ := by
  have f3 := tc_sub
  have isT : (⟨h, g, d, t, os⟩ : Shared).TypeIs (.ref C) "type" := ⟨_, cls, rfl⟩
  simp only [tc_split, tc_kind, checkBuiltinCall]
  repeat (any_goals (first | assumption | with_reducible refine wpAny_loadPart_at cls ?_ | with_reducible refine wpAny_onRaise ?_ | with_reducible refine wpAny_map ?_ | wp_step))
end
section
variable {prog : Program} {w : World} {A : Around} {E : Value → Shared → Prop} {R : Result → Shared → Prop} {h : Heap}
variable {g : Array GenState} {d : Drawn} {t : Nat} {os : OsState} {k0 k1 k2 k3 k5 : Option Value}
variable {nm q : Str} {C N : Addr} {bs bm mb : List Value} {hdct : Bool} {sn : List Str} {sub : List Value} {ab : Bool} {col : Option Bool} {dd : Option Addr} {B nId iId : String}
theorem bare (F : ExcBaseFacts B nId iId mb) (hT : ∀ Y : String, bm.contains (.type Y) = mb.contains (.type Y)) {rest : List Value} {kw : List (Str × Value)}
    (cls : h.get? C = some (excClassObj nm q C N bs bm hdct sn sub ab col dd k0 k1 k2 k3 k5 nId))
    (fin : R (.ok (.ret (.ref (h.objs.size + 1)))) ⟨(h.push { cls := .type "tuple", data := .seq rest.toArray }).push
      { cls := .ref C, data := .fields #[.ref h.objs.size, .none, .none, .none, .bool false, .none] }, g, d, t, os⟩) (few : rest.length ≤ sizeLine) :
    codeAny (model prog w) A (.builtin nId ⟨.ref C :: rest, kw⟩) R ⟨h, g, d, t, os⟩ := by
  have ends := F.ends
  have inB : (Value.ref C :: bm).contains (.type B) = true := by rw [List.contains_cons, hT, F.hasB, Bool.or_true]
  have inA : (Value.ref C :: bm).contains (.type "AttributeError") = false := by rw [List.contains_cons, hT, F.noAttr]; rfl
  have inN : (Value.ref C :: bm).contains (.type "NameError") = false := by rw [List.contains_cons, hT, F.noName]; rfl
  refine codeAny_builtinAt (F.entry) ?_
  unfold PySem.Builtin.«BaseException.__new__»
  refine wpAt_bind ?_
  refine (show wpAt _ _ _ (stack >>= _) _ _ _ from wpAt_bind (wpAt_stack fun p1 l1 => wpAt_of_wpAny ?_))
  wp_walk
  refine wpAt_of_wpAny ?_
  rw [F.owner]
  repeat (first | with_reducible refine wpAny_madeHere_exc F.canon cls ?_ | with_reducible refine wpAny_loadPart_at cls ?_ | (with_reducible refine wpAny_isSubtype_exc cls ?_; first | rw [inB] | rw [inA] | rw [inN]) | wp_step)
  show R _ _
  rw [Heap.size_push]
  exact fin
theorem inner (F : ExcBaseFacts B nId iId mb) (hT : ∀ Y : String, bm.contains (.type Y) = mb.contains (.type Y)) {rest : List Value} {kw : List (Str × Value)} {fI : Addr} {Q : Fin → Shared → Prop}
    (cls : h.get? C = some (excClassObj nm q C N bs bm hdct sn sub ab col dd k0 k1 k2 k3 k5 nId))
    (ini : W.Looks (model prog w) h (typeLookup (.ref C) "__init__") (some (.ref fI))) (bnd : ∀ self, W.Looks (model prog w) h (bindSpecial (.ref fI) self) (.ref fI, [self])) (few : rest.length ≤ sizeLine)
    (run : codeAny (model prog w) A (.call (.ref fI) ⟨.ref (h.objs.size + 1) :: rest, kw⟩)
      (fun r s' => match r with | .error e => E e s' | .ok (.ret v) => v = .none ∧ Q (.done (.ret (.ref (h.objs.size + 1)))) s' | .ok _ => False)
      (Shared.mk ((h.push (W.kdv_tup rest)).push (excO C h.objs.size)) g d t os)) :
    wpAny (model prog w) A (Builtin.«type.__call__» ⟨.ref C :: rest, kw⟩) Q E ⟨h, g, d, t, os⟩ := by
  repeat (first | with_reducible refine wpAny_loadPart_at cls ?_ | with_reducible refine wpAny_madeBy_exc cls ?_ | wp_step)
  refine codeAny_call_builtin_code (Code.quiet_builtin _ F.quiet) (chkNew F hT cls ?_)
  refine bare F hT cls ?_ few
  show wpAny _ _ _ _ _ _
  have kk : ∀ b o, h.get? b = some o → ((h.push (W.kdv_tup rest)).push (excO C h.objs.size)).get? b = some o := fun b o e => Heap.get?_push_of_some _ (Heap.get?_push_of_some _ e)
  have cls1 := kk _ _ cls
  have got : ((h.push (W.kdv_tup rest)).push (excO C h.objs.size)).get? (h.objs.size + 1) = some (excO C h.objs.size) := by heap_get
  have self1 : (Value.ref C :: bm).contains (.ref C) = true := by simp
  have i1 := ini.keeps kk
  have b1 := (bnd (.ref (h.objs.size + 1))).keeps kk
  unfold isInstance
  repeat (first | with_reducible refine wpAny_loadPart_at got ?_ | (with_reducible refine wpAny_isSubtype_exc cls1 ?_; rw [self1]) | wp_step)
  refine (show wpAny _ _ (typeLookup (.ref C) _) _ _ _ from i1.at ?_)
  refine wpAny_holding (wpAny_bind (b1.at (wpAny_bind (wpAny_call (codeAny_mono run fun r s' z => ?_)))))
  rcases r with er | (u | _ | _ | _) <;> first | exact z | exact z.elim | skip
  obtain ⟨rfl, z⟩ := z
  first
    | (exact wpAny_pure (wpAny_pure z))
    | (wp_walk; exact z)
theorem outer (F : ExcBaseFacts B nId iId mb) (hT : ∀ Y : String, bm.contains (.type Y) = mb.contains (.type Y)) {rest : List Value} {kw : List (Str × Value)} {fI : Addr}
    (cls : h.get? C = some (excClassObj nm q C N bs bm hdct sn sub ab col dd k0 k1 k2 k3 k5 nId))
    (ini : W.Looks (model prog w) h (typeLookup (.ref C) "__init__") (some (.ref fI))) (bnd : ∀ self, W.Looks (model prog w) h (bindSpecial (.ref fI) self) (.ref fI, [self])) (few : rest.length ≤ sizeLine)
    (run : codeAny (model prog w) (A.under (.builtin "type.__call__" ⟨.ref C :: rest, kw⟩)) (.call (.ref fI) ⟨.ref (h.objs.size + 1) :: rest, kw⟩) (W.InitBack (h.objs.size + 1) R)
      (Shared.mk ((h.push (W.kdv_tup rest)).push (excO C h.objs.size)) g d t os)) :
    codeAny (model prog w) A (.call (.ref C) ⟨rest, kw⟩) R (Shared.mk h g d t os) := by
  have f1 := tc_lookup
  have f2 := tc_bind (.ref C)
  have isTy : (⟨h, g, d, t, os⟩ : Shared).TypeIs (.ref C) "type" := ⟨_, cls, rfl⟩
  refine codeAny_of_tree (show wpAny _ _ (callAny (.ref C) _) _ _ _ from ?_)
  repeat (any_goals (first | assumption | with_reducible refine wpAny_loadPart_at cls ?_ | wp_step))
  refine ⟨rfl, ?_⟩
  refine codeAny_call_builtin_at (Code.quiet_builtin _ (by decide +kernel)) entry_typeCall (chkTop cls (inner F hT cls ini bnd few ?_))
  refine codeAny_mono run fun r s' z => ?_
  rcases r with er | (u | _ | _ | _) <;> exact z
end
end PySem.FlX
/-! Fl, part 10: an error made with values and keywords: kept as a value, or raised. -/
namespace Fl
open PySem L2
section
variable {X : Cx} {CX : CXT} {k n : Nat} {C fI : Addr} {fd : FuncData} {ps ks : List Str} {sp : Sp} {gg : List Value → List Value → List Value} {gV : List V → List V → List V}
theorem oex_run {pins : List (Addr × Obj)} {σ : St} {H1 : Hp} {hp : Heap} {g : Array GenState} {dr : Drawn} {tk : Nat} {os : OsState} {P2 : Addr → Addr → List (Str × V) → Hp → Prop} {Qf : Value → Shared → Prop} {us ws : List Value} {vs zs : List V}
    (T : OexC X.K C) (iC : PySem.W.findIn X.K (.ref C) "__init__" = some (some (.ref fI))) (tI : PySem.W.typeIn X.K (.ref fI) = some (.type "function")) (F1 : FnOk X.prog X.w X.K X.mg X.base CX k fI fd ps sp) (hr : Room (k + 1) X.A)
    (hb : KBn X.K fd ps (n + 1) ks gg gV) (hx : Passes CX X (fun _ _ _ => False)) (I1 : Inv X pins σ H1 ⟨hp, g, dr, tk, os⟩) (r1 : Vals vs us) (rz : Vals zs ws) (l1 : vs.length = n) (l2 : zs.length = ks.length) (few : n ≤ 1000)
    (hq : ∀ a, H1 a = none → sp (gV (.ref a :: vs) zs) (upd H1 a (exo a C none)) (fun v H2 => v = .non ∧ ∃ (d : Addr) (fs : List (Str × V)), H2 a = some (exo a C (some d)) ∧ H2 d = some (exd d fs) ∧ H1 d = none ∧ P2 a d fs H2) (fun _ _ _ => False))
    (fin : ∀ a d fs H2 hp2 h2 g2 d2 t2 os2, hp.objs.size ≤ a → (∀ b o, hp.get? b = some o → hp2.get? b = some o) → Un (frs X.stack) [] (upd H1 a (exo a C none)) H2 hp2 h2 → HOk X.prog X.w H2 h2 → os2 = os → PyProof.Rows.AllBare g2 →
      H2 a = some (exo a C (some d)) → H2 d = some (exd d fs) → H1 d = none → P2 a d fs H2 → Qf (.ref a) ⟨h2, g2, d2, t2, os2⟩) :
    wpAny (model X.prog X.w) X.A (call (.ref C) us (ks.zip ws)) Qf X.xe ⟨hp, g, dr, tk, os⟩ := by
  obtain ⟨nm, q, N, bs, bm, sn, sub, ab, col, dd, k0, k1, k2, k3, k5, cls, bmr⟩ := T.cls
  have up1 : hp.objs.size ≤ hp.objs.size + 1 := Nat.le_succ _
  have nn : H1 (hp.objs.size + 1) = none := I1.hok.fresh up1
  have want := hq (hp.objs.size + 1) nn
  have kk : ∀ p o, hp.get? p = some o → ((hp.push (PySem.W.kdv_tup us)).push (PySem.HandSPX.excO C hp.objs.size)).get? p = some o := fun b o e => Heap.get?_push_of_some _ (Heap.get?_push_of_some _ e)
  have got : ((hp.push (PySem.W.kdv_tup us)).push (PySem.HandSPX.excO C hp.objs.size)).get? (hp.objs.size + 1) = some (PySem.HandSPX.excO C hp.objs.size) := by heap_get
  have I2 : Inv X pins σ (upd H1 (hp.objs.size + 1) (exo (hp.objs.size + 1) C none)) (Shared.mk ((hp.push (PySem.W.kdv_tup us)).push (PySem.HandSPX.excO C hp.objs.size)) g dr tk os) :=
    I1.laid (t' := tk) (a := hp.objs.size + 1) (o := exo (hp.objs.size + 1) C none) (h' := (hp.push (PySem.W.kdv_tup us)).push (PySem.HandSPX.excO C hp.objs.size)) kk up1 (exo_ok got)
  have r3 : Vals (V.ref (hp.objs.size + 1) :: vs) (Value.ref (hp.objs.size + 1) :: us) := .cons rfl r1
  have r2 := hb.rel r3 rz
  have n1 : (Value.ref (hp.objs.size + 1) :: us).length = n + 1 := by rw [List.length_cons, ← r1.length, l1]
  have few2 : us.length ≤ sizeLine := by
    rw [← r1.length, l1, sizeLine_eq]
    omega
  refine wpAny_call (PySem.FlX.outer F.excBase_ValueError (fun Y => PySem.HandSPX.refsVE_contains Y bm bmr) (I1.kIn _ _ cls) (PySem.W.looks_findIn I1.kIn iC) (fun self => PySem.W.bind_fn I1.kIn self tI) few2
    (codeAny_mono (F1.run _ X.stack _ _ ⟨Value.ref (hp.objs.size + 1) :: us, ks.zip ws⟩ (gg (Value.ref (hp.objs.size + 1) :: us) ws) _ _ (fun _ _ _ => False) (hr.make C us (ks.zip ws)) (I2.env0.make C us (ks.zip ws))
      (hb.to _ (Value.ref (hp.objs.size + 1) :: us) ws I2.kIn n1 (rz.length.symm.trans l2)) r2 want) fun r s' back => ?_))
  cases r with
  | error er => exact hx pins σ _ _ er s' I2 back
  | ok fl =>
    cases fl with
    | ret u =>
      obtain ⟨v, H2, os2, bare2, un2, hok2, rv, ev, d, fs, ea, ed, hd1, q2⟩ := back
      subst ev
      obtain ⟨h2, g2, d2, t2, os3⟩ := s'
      exact ⟨rv, fin _ d fs H2 _ h2 g2 d2 t2 os3 up1 kk un2 hok2 os2 bare2 ea ed hd1 q2⟩
    | next => exact back.elim
    | brk => exact back.elim
    | cont => exact back.elim
/-- made and kept -/
def tXn (C : Addr) (n m : Nat) (sp : Sp) (gV : List V → List V → List V) (t tk : TA) : TE := fun σ H Q => t σ H fun vs H1 => tk σ H1 fun zs H2 => vs.length = n ∧ zs.length = m ∧
  ∀ a, H2 a = none → sp (gV (.ref a :: vs) zs) (upd H2 a (exo a C none)) (fun v H3 => v = .non ∧ ∃ (d : Addr) (fs : List (Str × V)), H3 a = some (exo a C (some d)) ∧ H3 d = some (exd d fs) ∧ H2 d = none ∧ Q (.ref a) (upd (upd (del H3 a) d (.xd fs)) a (exT a C d))) (fun _ _ _ => False)
/-- made and raised -/
def tXm (C : Addr) (n m : Nat) (sp : Sp) (gV : List V → List V → List V) (t tk : TA) : St → Hp → XK → Prop := fun σ H Q => t σ H fun vs H1 => tk σ H1 fun zs H2 => vs.length = n ∧ zs.length = m ∧
  ∀ a, H2 a = none → sp (gV (.ref a :: vs) zs) (upd H2 a (exo a C none)) (fun v H3 => v = .non ∧ ∃ (d : Addr) (fs : List (Str × V)), H3 a = some (exo a C (some d)) ∧ H3 d = some (exd d fs) ∧ H2 d = none ∧ Q (.ref C) (some d) (upd (del H3 a) d (.xd fs))) (fun _ _ _ => False)
theorem kept_fin {pins : List (Addr × Obj)} {σ : St} {H1 : Hp} {hp : Heap} {g : Array GenState} {dr : Drawn} {tk : Nat} {os : OsState} {Q : VK} (I1 : Inv X pins σ H1 ⟨hp, g, dr, tk, os⟩) : ∀ a d fs H2 hp2 h2 g2 d2 t2 os2, hp.objs.size ≤ a → (∀ b o, hp.get? b = some o → hp2.get? b = some o) → Un (frs X.stack) [] (upd H1 a (exo a C none)) H2 hp2 h2 → HOk X.prog X.w H2 h2 → os2 = os → PyProof.Rows.AllBare g2 →
      H2 a = some (exo a C (some d)) → H2 d = some (exd d fs) → H1 d = none → Q (.ref a) (upd (upd (del H2 a) d (.xd fs)) a (exT a C d)) → EP X pins σ Q (.ref a) ⟨h2, g2, d2, t2, os2⟩ := by
  intro a d fs H2 hp2 h2 g2 d2 t2 os2 up1 kk un hok ho bare ea ed nd q
  obtain ⟨t0, G, J, kG, ge, hoe, na⟩ := mk_end0 (d2 := d2) (t2 := t2) I1 up1 kk un hok ho bare ea ed nd
  exact ⟨.ref a, _, J.laidN (t' := t2) kG ge na (exT_ok hoe rfl rfl rfl), rfl, q⟩
variable {x : Str} {e : Expr} {es : List Expr} {kws : List Keyword} {p pos : Pos} {t tk : TA}
theorem pe_xnK0 (T : OexC X.K C) (iC : PySem.W.findIn X.K (.ref C) "__init__" = some (some (.ref fI))) (tI : PySem.W.typeIn X.K (.ref fI) = some (.type "function")) (F1 : FnOk X.prog X.w X.K X.mg X.base CX k fI fd ps sp) (hr : Room (k + 1) X.A)
    (hb : KBn X.K fd ps 1 ks gg gV) (hx : Passes CX X (fun _ _ _ => False)) (hg : Gl X x) (hm : X.mg x = some (.ref C)) (kw : PK X kws tk)
    (hall : (backToKw pos (keywordEach kws X.env)).all (·.1.isSome) = true := by rfl) (nms : (backToKw pos (keywordEach kws X.env)).filterMap (·.1) = ks := by rfl) (hdb : (x == ("__debug__" : Str)) = false := by decide)
    (hpl : ((backTo pos (starEach [] X.env)).any (·.1) || (backToKw pos (keywordEach kws X.env)).any (·.1.isNone)) = false := by rfl) :
    PE X (.Call (.Name x p) [] kws pos) (tXn C 0 ks.length sp gV tNil tk) := by
  refine ⟨fun pins s σ H Q I want => wpAny_Call_Name_kw (ld_glob I hg hm ?_ hdb)⟩
  refine PySem.W.callWith_KW0 (h₀ := X.base) I.ok.mod.kin T.kC hall (thn (kw.run pos pins s σ H _ I want) fun ws s2 ⟨zs, H2, I2, rz, l1, l2, q2⟩ => ⟨I2.kIn, ?_⟩) hpl
  rw [nms]
  obtain ⟨hp, g, dr, tk, os⟩ := s2
  show wpAny _ _ (call (.ref C) [] (ks.zip ws)) _ _ _
  exact oex_run (us := []) (vs := []) T iC tI F1 hr hb hx I2 .nil rz rfl l2 (Nat.zero_le _) q2 (kept_fin I2)
theorem pe_xnK (T : OexC X.K C) (iC : PySem.W.findIn X.K (.ref C) "__init__" = some (some (.ref fI))) (tI : PySem.W.typeIn X.K (.ref fI) = some (.type "function")) (F1 : FnOk X.prog X.w X.K X.mg X.base CX k fI fd ps sp) (hr : Room (k + 1) X.A)
    (hb : KBn X.K fd ps (n + 1) ks gg gV) (few : n ≤ 1000) (hx : Passes CX X (fun _ _ _ => False)) (hg : Gl X x) (hm : X.mg x = some (.ref C)) (ha : PA X (e :: es) t) (kw : PK X kws tk)
    (hall : (backToKw pos (keywordEach kws X.env)).all (·.1.isSome) = true := by rfl) (nms : (backToKw pos (keywordEach kws X.env)).filterMap (·.1) = ks := by rfl) (hdb : (x == ("__debug__" : Str)) = false := by decide)
    (he : starEach (e :: es) X.env = (false, eval e X.env) :: starEach es X.env := by rfl) (hpl : ((backTo pos (starEach (e :: es) X.env)).any (·.1) || (backToKw pos (keywordEach kws X.env)).any (·.1.isNone)) = false := by rfl) :
    PE X (.Call (.Name x p) (e :: es) kws pos) (tXn C n ks.length sp gV t tk) := by
  refine ⟨fun pins s σ H Q I want => wpAny_Call_Name_kw (ld_glob I hg hm ?_ hdb)⟩
  refine PySem.W.callWith_KW (h₀ := X.base) I.ok.mod.kin T.kC hall (thn (ha.run pos pins s σ H _ I want) fun us s1 ⟨vs, H1, I1, r, q⟩ => ?_) hpl he
  refine thn (kw.run pos pins s1 σ H1 _ I1 q) fun ws s2 ⟨zs, H2, I2, rz, l1, l2, q2⟩ => ⟨I2.kIn, ?_⟩
  rw [nms]
  obtain ⟨hp, g, dr, tk, os⟩ := s2
  show wpAny _ _ (call (.ref C) us (ks.zip ws)) _ _ _
  exact oex_run T iC tI F1 hr hb hx I2 r rz l1 l2 few q2 (kept_fin I2)
theorem pe_xn (T : OexC X.K C) (iC : PySem.W.findIn X.K (.ref C) "__init__" = some (some (.ref fI))) (tI : PySem.W.typeIn X.K (.ref fI) = some (.type "function")) (F1 : FnOk X.prog X.w X.K X.mg X.base CX k fI fd ps sp) (hr : Room (k + 1) X.A)
    (hb : KBn X.K fd ps (n + 1) [] gg gV) (few : n ≤ 1000) (hx : Passes CX X (fun _ _ _ => False)) (hg : Gl X x) (hm : X.mg x = some (.ref C)) (ha : PA X (e :: es) t)
    (hdb : (x == ("__debug__" : Str)) = false := by decide) (he : starEach (e :: es) X.env = (false, eval e X.env) :: starEach es X.env := by rfl) (hpl : (backTo pos (starEach es X.env)).any (·.1) = false := by rfl) :
    PE X (.Call (.Name x p) (e :: es) [] pos) (tXn C n 0 sp gV t tNil) := by
  refine ⟨fun pins s σ H Q I want => wpAny_Call_Name_kw (ld_glob I hg hm ?_ hdb)⟩
  refine PySem.W.callWith_K (h₀ := X.base) I.ok.mod.kin T.kC (thn (ha.run pos pins s σ H _ I want) fun us s1 ⟨vs, H1, I1, r, l1, l2, q1⟩ => ⟨I1.kIn, ?_⟩) he hpl
  obtain ⟨hp, g, dr, t1, os⟩ := s1
  show wpAny _ _ (call (.ref C) us []) _ _ _
  exact oex_run (ws := []) (zs := []) T iC tI F1 hr hb hx I1 r .nil l1 rfl few q1 (kept_fin I1)
theorem pmk_xnK0 (T : OexC X.K C) (iC : PySem.W.findIn X.K (.ref C) "__init__" = some (some (.ref fI))) (tI : PySem.W.typeIn X.K (.ref fI) = some (.type "function")) (F1 : FnOk X.prog X.w X.K X.mg X.base CX k fI fd ps sp) (hr : Room (k + 1) X.A)
    (hb : KBn X.K fd ps 1 ks gg gV) (hx : Passes CX X (fun _ _ _ => False)) (hg : Gl X x) (hm : X.mg x = some (.ref C)) (kw : PK X kws tk)
    (hall : (backToKw pos (keywordEach kws X.env)).all (·.1.isSome) = true := by rfl) (nms : (backToKw pos (keywordEach kws X.env)).filterMap (·.1) = ks := by rfl) (hdb : (x == ("__debug__" : Str)) = false := by decide)
    (hpl : ((backTo pos (starEach [] X.env)).any (·.1) || (backToKw pos (keywordEach kws X.env)).any (·.1.isNone)) = false := by rfl) :
    PMk X (.Call (.Name x p) [] kws pos) (tXm C 0 ks.length sp gV tNil tk) := by
  refine fun pins s σ H Q I want => wpAny_Call_Name_kw (ld_glob I hg hm ?_ hdb)
  refine PySem.W.callWith_KW0 (h₀ := X.base) I.ok.mod.kin T.kC hall (thn (kw.run pos pins s σ H _ I want) fun ws s2 ⟨zs, H2, I2, rz, l1, l2, q2⟩ => ⟨I2.kIn, ?_⟩) hpl
  rw [nms]
  obtain ⟨hp, g, dr, tk, os⟩ := s2
  show wpAny _ _ (call (.ref C) [] (ks.zip ws)) _ _ _
  exact oex_run (us := []) (vs := []) T iC tI F1 hr hb hx I2 .nil rz rfl l2 (Nat.zero_le _) q2 fun a d fs H2 hp2 h2 g2 d2 t2 os2 up1 kk un hok ho bare ea ed nd q => mk_end (raises_own T.exC T.tyC) I2 up1 kk un hok ho bare ea ed nd q
theorem pmk_xnK (T : OexC X.K C) (iC : PySem.W.findIn X.K (.ref C) "__init__" = some (some (.ref fI))) (tI : PySem.W.typeIn X.K (.ref fI) = some (.type "function")) (F1 : FnOk X.prog X.w X.K X.mg X.base CX k fI fd ps sp) (hr : Room (k + 1) X.A)
    (hb : KBn X.K fd ps (n + 1) ks gg gV) (few : n ≤ 1000) (hx : Passes CX X (fun _ _ _ => False)) (hg : Gl X x) (hm : X.mg x = some (.ref C)) (ha : PA X (e :: es) t) (kw : PK X kws tk)
    (hall : (backToKw pos (keywordEach kws X.env)).all (·.1.isSome) = true := by rfl) (nms : (backToKw pos (keywordEach kws X.env)).filterMap (·.1) = ks := by rfl) (hdb : (x == ("__debug__" : Str)) = false := by decide)
    (he : starEach (e :: es) X.env = (false, eval e X.env) :: starEach es X.env := by rfl) (hpl : ((backTo pos (starEach (e :: es) X.env)).any (·.1) || (backToKw pos (keywordEach kws X.env)).any (·.1.isNone)) = false := by rfl) :
    PMk X (.Call (.Name x p) (e :: es) kws pos) (tXm C n ks.length sp gV t tk) := by
  refine fun pins s σ H Q I want => wpAny_Call_Name_kw (ld_glob I hg hm ?_ hdb)
  refine PySem.W.callWith_KW (h₀ := X.base) I.ok.mod.kin T.kC hall (thn (ha.run pos pins s σ H _ I want) fun us s1 ⟨vs, H1, I1, r, q⟩ => ?_) hpl he
  refine thn (kw.run pos pins s1 σ H1 _ I1 q) fun ws s2 ⟨zs, H2, I2, rz, l1, l2, q2⟩ => ⟨I2.kIn, ?_⟩
  rw [nms]
  obtain ⟨hp, g, dr, tk, os⟩ := s2
  show wpAny _ _ (call (.ref C) us (ks.zip ws)) _ _ _
  exact oex_run T iC tI F1 hr hb hx I2 r rz l1 l2 few q2 fun a d fs H2 hp2 h2 g2 d2 t2 os2 up1 kk un hok ho bare ea ed nd q => mk_end (raises_own T.exC T.tyC) I2 up1 kk un hok ho bare ea ed nd q
end
end Fl
/-! Fl, part 11: isinstance of an error that carries a dict; errors made, over plain values. -/
namespace PySem.FlX
open PySem PySem.W PySem.Spec PySem.Calls PyProof.Rows
section
variable {prog : Program} {w : World} {A : Around} {E : Value → Shared → Prop} {s : Shared} {K : Frag} {x D : Addr} {ox : Obj}
theorem dataN {C : Addr} {od : Option Obj} {nm : Str} {a g : Value} (hc : (clsIn K C).isSome = true) (ha : findIn K (.ref C) nm = some (some a)) (hg : specialIn K a "__get__" = some (some g)) (ht : takesIn K a = some true) : findObj K C od nm = some (.bind g a) := by
  obtain ⟨cd, hc⟩ := Option.isSome_iff_exists.mp hc
  unfold findObj
  rw [hc, Option.bind_some, ha, Option.bind_some]
  simp [ht, hg]
theorem classOf {od : Option Obj} {Q : Option Value → Shared → Prop} (T : L2.ExcC K D) (X : K.In s.heap) (I : InstAt s.heap x ox D od) (k : Q (some (.ref D)) { s with toks := s.toks + 1 }) : wpAny (model prog w) A (getAttr? (.ref x) "__class__") Q E s := by
  have isC : (clsIn K D).isSome = true := by obtain ⟨cd, hc, _⟩ := any_some T.hd; rw [hc]; rfl
  have hf : findObj K D od "__class__" = some (.bind (.builtin "getset_descriptor.__get__") (.builtin "object.__class__")) := dataN isC T.ha T.hn T.ht
  obtain ⟨hp, g, d, t, os⟩ := s
  have l0 := I.type (M := model prog w)
  have l1 := looks_findIn (M := model prog w) X T.hg
  have l2 := looks_findIn (M := model prog w) X T.hk
  have l3 := looks_find (M := model prog w) X I hf
  have sub : Looks (model prog w) hp (isInstance (.ref x) (.type "BaseException")) true := l0.andThen (looks_subIn X T.hs)
  have n0 : (false && onTheHeap (Value.builtin "BaseException.__getattribute__")) = false := rfl
  have n2 : (Value.builtin "BaseException.__getattribute__" == Value.builtin "object.__getattribute__") = false := by decide +kernel
  have n1 : (onTheHeap (Value.ref D) && Value.builtin "BaseException.__getattribute__" == Value.builtin "object.__getattribute__") = false := by rw [n2]; rfl
  unfold getAttr? getAttrBy? getAttrBy
  refine wpAny_bind (wpAny_mkText (wpAny_bind (wpAny_attempt (wpAny_holding (wpAny_bind (l0.at (wpAny_bind (l1.at ?_))))))))
  refine (show wpAny _ _ (if (onTheHeap (Value.ref D) && Value.builtin "BaseException.__getattribute__" == Value.builtin "object.__getattribute__") = true then _ else _) _ _ _ from ?_)
  rw [n1, if_neg Bool.false_ne_true]
  unfold getAttrByItsOwn hookBefore
  refine wpAny_bind (?_)
  rw [if_pos (show onTheHeap (Value.ref D) = true by rfl)]
  refine l2.at (wpAny_bind (wpAny_attempt (wpAny_holding ?_)))
  unfold callGetattribute
  rw [n0, if_neg Bool.false_ne_true]
  unfold boundAndCalled
  rw [PySem.F.excAttr_ValueError.ga.bind (Value.ref x)]
  refine wpAny_bind (wpAny_pure (show wpAny _ _ (call (.builtin "BaseException.__getattribute__") [.ref x, .str "__class__" t]) _ _ _ from ?_))
  refine wpAny_call (codeAny_call_builtin (PySem.F.excAttr_ValueError.ga.plain) PySem.F.entry_bexc_ga ?_)
  refine @check_slot (model prog w) _ _ ⟨hp, g, d, t + 1, os⟩ "BaseException.__getattribute__" "BaseException" "__getattribute__" (.ref x) [Value.str "__class__" t] [] _ (by decide +kernel) (by decide +kernel) sub (PySem.F.args_bexc_ga (.ref x) (.str "__class__" t)) ?_
  unfold PySem.Builtin.«object.__getattribute__»
  refine wpAny_bind (wpAny_of_eq (a := ((Value.ref x : Value), [Value.str "__class__" t])) (by first | rfl | (simp only [slotArgs]; rfl)) (wpAny_bind (wpAny_pure (wpAny_bind (l0.at (wpAny_bind (l3.at ?_)))))))
  refine (show wpAny _ _ (holding [Value.builtin "object.__class__"] (call (.builtin "getset_descriptor.__get__") [.builtin "object.__class__", .ref x, .ref D]) >>= ret) _ _ _ from ?_)
  refine wpAny_bind (wpAny_holding (wpAny_call (class_get (s := ⟨hp, g, d, t + 1, os⟩) (ox := ox) (od := od) X I T.hm (wpAny_pure ?_))))
  refine (show wpAny _ _ (handedOut (.ref D)) _ _ _ from ?_)
  rw [handedOut_of (v := Value.ref D) rfl]
  first
    | exact wpAny_pure k
    | exact wpAny_pure (wpAny_pure k)
    | exact wpAny_pure (wpAny_bind (wpAny_pure (wpAny_pure k)))
theorem kitx (T : L2.ExcC K D) : KitX K (.ref x) (.ref D) (fun h => ∃ ox od, InstAt h x ox D od) where
  ty := fun _ _ _ ⟨_, _, I⟩ => I.type
  it := fun _ _ X _ => by
    obtain ⟨cd, hc, _⟩ := any_some T.hd
    unfold clsIn at hc
    split at hc
    · rename_i c1 d1 e1 s1 ho
      intro A' Q' E' s' k q
      unfold isType loadHead
      exact wpAny_bind (wpAny_loadPart (k _ _ (X _ _ ho)) (wpAny_pure q))
    · cases hc
  ne := fun h tp dd its n sl X htp => by
    obtain ⟨cd, hc, _⟩ := any_some T.hd
    refine Bool.eq_false_iff.mpr fun q => ?_
    have e : D = tp := Value.ref.inj (beq_iff_eq.mp q)
    subst e
    unfold clsIn at hc
    split at hc
    · rename_i c1 d1 e1 s1 ho
      have z := (X _ _ ho).symm.trans htp
      cases z
    · cases hc
  ca := fun X ⟨_, _, I⟩ k => classOf T X I k
end
end PySem.FlX
namespace Fl
open PySem L2
/-! ### isinstance of an error -/
def rIsX (K : PySem.W.Frag) : List V → Hp → VK → Prop := fun xs H Q => ∃ (a C dd : Addr) (fs : List (Str × V)) (c : V) (cv : Value) (b : Bool), xs = [.ref a, c] ∧ H a = some (exT a C dd) ∧ H dd = some (.xd fs) ∧ ExcC K C ∧ (∀ u, RelV c u → u = cv) ∧ PySem.W.kitOne K (.ref C) cv = some b ∧ Q (.bl b) H
section
variable {X : Cx} {cl : Nat → Addr} {W : WX}
theorem call_isX : CallR X (.builtin "isinstance") (rIsX X.K) := by
  intro pins s σ H xs us Q I r want
  obtain ⟨a, C, dd, fs, c, cv, b, rfl, ea, ed, T, only, e, q⟩ := want
  cases r with
  | cons rx rr =>
    cases rr with
    | cons rt rr =>
      cases rr
      cases rx
      have ec := only _ rt
      subst ec
      obtain ⟨oe, vs, h1, h2, h3, h4⟩ := exT_at I.hok ea
      have xd : ObjOk X.prog X.w H s.heap dd (.xd fs) := I.hok dd _ ed
      obtain ⟨mA, ns, _⟩ := xd
      obtain ⟨od, ho, _⟩ := lookIn_ns ns
      have at_ : PySem.W.InstAt s.heap a oe C (some od) := ⟨h1, h2, by unfold PySem.W.notCls; rw [h4] <;> rfl, by rw [h3]; exact ho⟩
      exact PySem.W.kia_one (PySem.FlX.kitx T) I.kIn ⟨oe, _, at_⟩ e (fun z => nomatch z) fun tk => ⟨.bl b, H, I.kept (t' := tk) fun _ _ z => z, rfl, q⟩
def eIsx (isx : Nat → Option Bool) (f : SE) : SE := fun e h => (f e h).bind fun d h1 => match d with
  | .ref k => (match h1[k]? with
    | some (.exc c fs) => (match isx c with
      | some b => .ok (.bl b) h1
      | none => .bad)
    | _ => .bad)
  | _ => .bad
theorem de_isx {isx : Nat → Option Bool} {n : Str} {u : Value} {v : V} {p p2 pos : Pos} {a : Expr} {f : SE} (hx : ∀ c b, isx c = some b → ExcC X.K (cl c) ∧ PySem.W.kitOne X.K (.ref (cl c)) u = some b) (rv : ∀ u', RelV v u' → u' = u) (hn : PE X (.Name n p2) (tC v))
    (hg : Gl X "isinstance") (hm : X.mg "isinstance" = none) (ha : DE X cl W a f)
    (he : starEach (a :: [.Name n p2]) X.env = (false, eval a X.env) :: starEach [.Name n p2] X.env := by rfl) (hpl : (backTo pos (starEach [.Name n p2] X.env)).any (·.1) = false := by rfl) :
    DE X cl W (.Call (.Name "isinstance" p) [a, .Name n p2] [] pos) (eIsx isx f) := by
  refine ⟨peImp (pe_callB call_isX hg hm (by decide +kernel) (pa_cons ha.p (pa_cons hn pa_nil) he) (by decide) (by decide) he hpl) fun σ H Q ⟨ws, lc, h, hr, lr, q⟩ => ⟨ws, lc, h, hr, lr, ?_⟩⟩
  refine rd.seq q fun ws1 d h1 H1 x p1 l1 hr1 r1 q1 => ?_
  split at q1
  · rename_i k
    split at q1
    · rename_i c fs hk
      split at q1
      · rename_i b hb
        obtain ⟨a2, rfl, ea⟩ := r1
        obtain ⟨dd, xs, e1, e2, fr⟩ := hr1.ob k _ a2 hk ea
        obtain ⟨T, e⟩ := hx c b hb
        exact ⟨a2, cl c, dd, xs, v, u, b, rfl, e1, e2, T, rv, e, q1.now hr1 rfl⟩
      · exact q1.elim
    · exact q1.elim
  · exact q1.elim
/-! ### keywords -/
structure DK (X : Cx) (cl : Nat → Addr) (W : WX) (kws : List Keyword) (f : SA) : Prop where
  p : PK X kws (tA X.K cl W f)
theorem pkImp {kws : List Keyword} {t u : TA} (h : PK X kws t) (i : ∀ σ H Q, u σ H Q → t σ H Q) : PK X kws u := ⟨fun pos pins s σ H Q I q => h.run pos pins s σ H Q I (i σ H Q q)⟩
theorem dk_nil : DK X cl W [] aNil := ⟨pkImp pk_nil fun σ H Q ⟨ws, e, h, hr, lr, q⟩ => q.now hr rfl⟩
theorem dk_cons {nm : Option Str} {e : Expr} {kpos : Pos} {kws : List Keyword} {f : SE} {g : SA} (h1 : DE X cl W e f) (h2 : DK X cl W kws g) : DK X cl W (⟨nm, e, kpos⟩ :: kws) (aCons f g) := by
  refine ⟨pkImp (pk_cons h1.p h2.p) fun σ H Q ⟨ws, lc, h, hr, lr, q⟩ => ⟨ws, lc, h, hr, lr, ?_⟩⟩
  refine rd.seq q fun ws1 d h1 H1 v p1 l1 hr1 r1 q1 => ⟨ws1, lc, h1, hr1, lr.mono p1 l1, ?_⟩
  exact rd.seq q1 fun ws2 ds h2 H2 vs p2 l2 hr2 r2 q2 => q2.now hr2 ⟨v, vs, rfl, r1.mono p2 l2, r2⟩
/-! ### the order of the parameters -/
def pick {α : Type} (ix : List Nat) (l : List α) : List α := ix.filterMap fun i => l[i]?
theorem VRs.pick {K : PySem.W.Frag} {ws : List Addr} {H : Hp} {ds : List D} {xs : List V} (h : VRs K ws H ds xs) : ∀ ix : List Nat, VRs K ws H (pick ix ds) (pick ix xs)
  | [] => rfl
  | i :: ix => by
    unfold Fl.pick
    cases e : ds[i]? with
    | none =>
      have e2 : xs[i]? = none := by
        rw [List.getElem?_eq_none_iff] at e ⊢
        rw [h.len]
        exact e
      rw [List.filterMap_cons_none e, List.filterMap_cons_none e2]
      exact VRs.pick h ix
    | some d =>
      obtain ⟨x, e2, r⟩ := h.get e
      rw [List.filterMap_cons_some e, List.filterMap_cons_some e2]
      exact ⟨x, _, rfl, r, VRs.pick h ix⟩
theorem Vals.pick {xs : List V} {us : List Value} (h : Vals xs us) : ∀ ix : List Nat, Vals (pick ix xs) (pick ix us)
  | [] => .nil
  | i :: ix => by
    unfold Fl.pick
    have hl := h.length
    cases e : xs[i]? with
    | none =>
      have e2 : us[i]? = none := by
        rw [List.getElem?_eq_none_iff] at e ⊢
        omega
      rw [List.filterMap_cons_none e, List.filterMap_cons_none e2]
      exact Vals.pick h ix
    | some d =>
      obtain ⟨u, e2, r⟩ : ∃ u, us[i]? = some u ∧ RelV d u := by
        clear hl
        induction h generalizing i with
        | nil => simp at e
        | cons a t ih =>
          cases i with
          | zero => simp at e; subst e; exact ⟨_, rfl, a⟩
          | succ j => exact ih j (by simpa using e)
      rw [List.filterMap_cons_some e, List.filterMap_cons_some e2]
      exact .cons r (Vals.pick h ix)
def gP {α : Type} (ix : List Nat) (us ws : List α) : List α := us.take 1 ++ pick ix (us.drop 1 ++ ws)
/-- how __init__ is called: n values, keywords ks; ix: where each field's value stands -/
theorem kbx {K : PySem.W.Frag} {qual : Str} {st : Stmt} {f : Addr} {fd : FuncData} {ps ks : List Str} {n : Nat} {ix : List Nat} (F : Fun K "__init__" qual st f fd)
    (h : ∀ (kV doc pm : Value) (an : Option Addr) (cdv ct : Value) (us ws : List Value), us.length = n + 1 → ws.length = ks.length → bindArgs (PySem.W.fnOf "__init__" qual (defArgs st) (defBody st) (defScope st) .none kV doc pm an cdv ct) ⟨us, ks.zip ws⟩ = pure (ps.zip (gP ix us ws))) :
    KBn K fd ps (n + 1) ks (gP ix) (gP ix) := by
  obtain ⟨oc, od, kV, doc, pm, an, cdv, ct, osl, rfl, lk, cd⟩ := F.ex
  exact ⟨fun s us ws _ l1 l2 => .of_eq (h kV doc pm an cdv ct us ws l1 l2), fun r1 r2 => (r1.take 1).append (Vals.pick ((r1.drop 1).append r2) ix)⟩
def eXn (c n m : Nat) (fl : List Str) (ix : List Nat) (g gk : SA) : SE := fun e h => (g e h).bind fun ds h1 => (gk e h1).bind fun zs h2 =>
  if ds.length = n ∧ zs.length = m ∧ (pick ix (ds ++ zs)).length = fl.length then .ok (.ref h2.length) (h2 ++ [.exc c (fl.zip (pick ix (ds ++ zs))).reverse]) else .bad
def sXn (c n m : Nat) (fl : List Str) (ix : List Nat) (g gk : SA) : SS := fun e h => ((g e h).bind fun ds h1 => (gk e h1).bind fun zs h2 =>
  if ds.length = n ∧ zs.length = m ∧ (pick ix (ds ++ zs)).length = fl.length then R.ex c (fl.zip (pick ix (ds ++ zs))).reverse h2 else (.bad : R D)).st e fun _ _ => .bad
theorem gP_cons {α : Type} (ix : List Nat) (a : α) (us ws : List α) : gP ix (a :: us) ws = a :: pick ix (us ++ ws) := rfl
section
variable {C : Addr} {n m : Nat} {fl : List Str} {ix : List Nat} {g gk : SA} {c : Nat}
theorem xn_ok (hn : n ≤ 1000) : ∀ σ H Q, tE X.K cl W (eXn c n m fl ix g gk) σ H Q → tXn (cl c) n m (spX (cl c) fl) (gP ix) (tA X.K cl W g) (tA X.K cl W gk) σ H Q := by
  intro σ H Q ⟨ws, lc, h, hr, lr, q⟩
  refine ⟨ws, lc, h, hr, lr, ?_⟩
  refine rd.seq q fun ws1 ds h1 H1 vs p1 l1 hr1 r1 q1 => ⟨ws1, lc, h1, hr1, lr.mono p1 l1, ?_⟩
  refine rd.seq q1 fun ws2 zs h2 H2 us p2 l2 hr2 r2 q2 => ?_
  split at q2
  · rename_i hz
    have rp : VRs X.K ws2 H2 (pick ix (ds ++ zs)) (pick ix (vs ++ us)) := ((r1.mono p2 l2).append r2).pick ix
    refine ⟨by rw [r1.len]; exact hz.1, by rw [r2.len]; exact hz.2.1, fun a na => ⟨a, _, gP_cons ix _ vs us, by rw [rp.len]; exact hz.2.2, upd_same, fun d nd ne => ⟨rfl, d, _, upd_same, by rw [upd_ne ne, upd_same], by rw [upd_ne ne] at nd; exact nd, ?_⟩⟩⟩
    rw [upd_ne ne] at nd
    rw [xd_eq na ne]
    have kk : Kept d H2 (upd H2 d (.xd (fl.zip (pick ix (vs ++ us))).reverse)) := Kept.new nd
    have na2 : upd H2 d (.xd (fl.zip (pick ix (vs ++ us))).reverse) a = none := by rw [upd_ne (Ne.symm ne)]; exact na
    have ka : Kept a (upd H2 d (.xd (fl.zip (pick ix (vs ++ us))).reverse)) (upd (upd H2 d (.xd (fl.zip (pick ix (vs ++ us))).reverse)) a (exT a (cl c) d)) := Kept.new na2
    have hr3 := hr2.keep kk (hr2.free nd)
    have pa : ws2 <+: ws2 ++ [a] := List.prefix_append _ _
    refine q2 (ws2 ++ [a]) _ _ pa (kk.le.trans ka.le) (hr3.new na2 ⟨d, _, upd_same, by rw [upd_ne ne, upd_same], (FR.rev (FR.zip rp)).mono pa (kk.le.trans ka.le)⟩) (VR.refI ?_)
    rw [← hr2.len]
    simp
  · exact q2.elim
theorem xr_ok {De : Ends} : ∀ σ H, tS X.K cl W (sXn c n m fl ix g gk) De σ H → tXm (cl c) n m (spX (cl c) fl) (gP ix) (tA X.K cl W g) (tA X.K cl W gk) σ H (fun cls d H' => W cls d σ H') := by
  intro σ H ⟨ws, lc, h, hr, lr, q⟩
  refine ⟨ws, lc, h, hr, lr, ?_⟩
  have q' : rd X.K cl W (VR X.K) ((g lc h).bind fun ds h1 => (gk lc h1).bind fun zs h2 => if ds.length = n ∧ zs.length = m ∧ (pick ix (ds ++ zs)).length = fl.length then R.ex c (fl.zip (pick ix (ds ++ zs))).reverse h2 else (.bad : R D)) ws H σ (fun _ _ => False) :=
    rdS.seq q lr fun _ _ _ _ _ _ _ _ _ z => (show False from z)
  clear q
  refine rd.seq q' fun ws1 ds h1 H1 vs p1 l1 hr1 r1 q1 => ⟨ws1, lc, h1, hr1, lr.mono p1 l1, ?_⟩
  refine rd.seq q1 fun ws2 zs h2 H2 us p2 l2 hr2 r2 q2 => ?_
  split at q2
  · rename_i hz
    have rp : VRs X.K ws2 H2 (pick ix (ds ++ zs)) (pick ix (vs ++ us)) := ((r1.mono p2 l2).append r2).pick ix
    refine ⟨by rw [r1.len]; exact hz.1, by rw [r2.len]; exact hz.2.1, fun a na => ⟨a, _, gP_cons ix _ vs us, by rw [rp.len]; exact hz.2.2, upd_same, fun d nd ne => ⟨rfl, d, _, upd_same, by rw [upd_ne ne, upd_same], by rw [upd_ne ne] at nd; exact nd, ?_⟩⟩⟩
    rw [upd_ne ne] at nd
    rw [xd_eq na ne]
    have kk : Kept d H2 (upd H2 d (.xd (fl.zip (pick ix (vs ++ us))).reverse)) := Kept.new nd
    exact q2 ws2 _ d _ (List.prefix_refl _) kk.le (hr2.keep kk (hr2.free nd)) upd_same ((FR.rev (FR.zip rp)).mono (List.prefix_refl _) kk.le)
  · exact q2.elim
variable {k : Nat} {fI : Addr} {fd : FuncData} {ps ks : List Str} {x : Str} {a : Expr} {es : List Expr} {kws : List Keyword} {p pos pos2 : Pos}
/-- X(e, ..) -/
theorem de_xn (T : XCls X.K (cl c) fI) (F : FnOk X.prog X.w X.K X.mg X.base CX0 k fI fd ps (spX (cl c) fl)) (hr : Room (k + 1) X.A) (hb : KBn X.K fd ps (n + 1) [] (gP ix) (gP ix)) (hn : n ≤ 1000) (hm : X.mg x = some (.ref (cl c))) (ha : DA X cl W (a :: es) g) (hg : Gl X x := by rfl)
    (hdb : (x == ("__debug__" : Str)) = false := by decide) (he : starEach (a :: es) X.env = (false, eval a X.env) :: starEach es X.env := by rfl) (hpl : (backTo pos (starEach es X.env)).any (·.1) = false := by rfl) :
    DE X cl W (.Call (.Name x p) (a :: es) [] pos) (eXn c n 0 fl ix g aNil) :=
  ⟨peImp (pe_xn T.T T.i T.t F hr hb hn pass0 hg hm ha.p hdb he hpl) fun σ H Q q => by
    obtain ⟨ws, lc, h, hr, lr, q⟩ := xn_ok (X := X) hn σ H Q q
    refine ⟨ws, lc, h, hr, lr, rd.imp q fun vs H1 z => ?_⟩
    obtain ⟨ws2, lc2, h2, hr2, lr2, q2⟩ := z
    exact q2.now hr2 rfl⟩
/-- X(f = e, ..) -/
theorem de_xnK0 (T : XCls X.K (cl c) fI) (F : FnOk X.prog X.w X.K X.mg X.base CX0 k fI fd ps (spX (cl c) fl)) (hr : Room (k + 1) X.A) (hb : KBn X.K fd ps 1 ks (gP ix) (gP ix)) (hm : X.mg x = some (.ref (cl c))) (hk : DK X cl W kws gk) (hg : Gl X x := by rfl)
    (hall : (backToKw pos (keywordEach kws X.env)).all (·.1.isSome) = true := by rfl) (nms : (backToKw pos (keywordEach kws X.env)).filterMap (·.1) = ks := by rfl) (hdb : (x == ("__debug__" : Str)) = false := by decide)
    (hpl : ((backTo pos (starEach [] X.env)).any (·.1) || (backToKw pos (keywordEach kws X.env)).any (·.1.isNone)) = false := by rfl) :
    DE X cl W (.Call (.Name x p) [] kws pos) (eXn c 0 ks.length fl ix aNil gk) :=
  ⟨peImp (pe_xnK0 T.T T.i T.t F hr hb pass0 hg hm hk.p hall nms hdb hpl) fun σ H Q q => by
    obtain ⟨ws, lc, h, hr, lr, q⟩ := xn_ok (X := X) (Nat.zero_le _) σ H Q q
    exact q.now hr rfl⟩
/-- raise X(f = e, ..) -/
theorem ds_xrK0 (hc : X.calm = true) (tk : Takes X W) (T : XCls X.K (cl c) fI) (F : FnOk X.prog X.w X.K X.mg X.base CX0 k fI fd ps (spX (cl c) fl)) (hr : Room (k + 1) X.A) (hb : KBn X.K fd ps 1 ks (gP ix) (gP ix)) (hm : X.mg x = some (.ref (cl c))) (hk : DK X cl W kws gk) (hg : Gl X x := by rfl)
    (hall : (backToKw pos (keywordEach kws X.env)).all (·.1.isSome) = true := by rfl) (nms : (backToKw pos (keywordEach kws X.env)).filterMap (·.1) = ks := by rfl) (hdb : (x == ("__debug__" : Str)) = false := by decide)
    (hpl : ((backTo pos (starEach [] X.env)).any (·.1) || (backToKw pos (keywordEach kws X.env)).any (·.1.isNone)) = false := by rfl) :
    DS X cl W (.Raise (some (.Call (.Name x p) [] kws pos)) none pos2) (sXn c 0 ks.length fl ix aNil gk) :=
  ⟨psImp (ps_raise hc tk (pmk_xnK0 T.T T.i T.t F hr hb pass0 hg hm hk.p hall nms hdb hpl)) fun D σ H q => by
    obtain ⟨ws, lc, h, hr, lr, q⟩ := xr_ok (X := X) σ H q
    exact q.now hr rfl⟩
/-- raise X(e, .., f = e, ..) -/
theorem ds_xrK (hc : X.calm = true) (tk : Takes X W) (T : XCls X.K (cl c) fI) (F : FnOk X.prog X.w X.K X.mg X.base CX0 k fI fd ps (spX (cl c) fl)) (hr : Room (k + 1) X.A) (hb : KBn X.K fd ps (n + 1) ks (gP ix) (gP ix)) (hn : n ≤ 1000) (hm : X.mg x = some (.ref (cl c)))
    (ha : DA X cl W (a :: es) g) (hk : DK X cl W kws gk) (hg : Gl X x := by rfl)
    (hall : (backToKw pos (keywordEach kws X.env)).all (·.1.isSome) = true := by rfl) (nms : (backToKw pos (keywordEach kws X.env)).filterMap (·.1) = ks := by rfl) (hdb : (x == ("__debug__" : Str)) = false := by decide)
    (he : starEach (a :: es) X.env = (false, eval a X.env) :: starEach es X.env := by rfl) (hpl : ((backTo pos (starEach (a :: es) X.env)).any (·.1) || (backToKw pos (keywordEach kws X.env)).any (·.1.isNone)) = false := by rfl) :
    DS X cl W (.Raise (some (.Call (.Name x p) (a :: es) kws pos)) none pos2) (sXn c n ks.length fl ix g gk) :=
  ⟨psImp (ps_raise hc tk (pmk_xnK T.T T.i T.t F hr hb hn pass0 hg hm ha.p hk.p hall nms hdb he hpl)) fun D σ H q => xr_ok (X := X) σ H q⟩
end
end
end Fl
/-! Fl, part 12: defs that may be called in an except suite too (nothing of their body minds what is being handled). -/
namespace Fl
open PySem L2
structure RoomA (k : Nat) (A : Around) : Prop where
  dp : A.depth + 3 * k + 5 < recursionLimit
  un : A.units + 16 * k + 200 < cLine
theorem RoomA.of {k : Nat} {A : Around} (r : Room k A) : RoomA k A := ⟨r.dp, r.un⟩
theorem RoomA.hot {k : Nat} {X : Cx} (r : Room k X.A) (a : Addr) (pn : List (Addr × Obj)) : RoomA k (hot X a pn).A := ⟨r.dp, r.un⟩
theorem RoomA.le {j k : Nat} {A : Around} (r : RoomA k A) (h : j ≤ k) : RoomA j A := ⟨by have z := r.dp; omega, by have z := r.un; omega⟩
/-- what such a def promises -/
structure FnA (P : Program) (w : World) (K : PySem.W.Frag) (mg : Str → Option Value) (base : Heap) (k : Nat) (f : Addr) (fd : FuncData) (ps : List Str) (sp : Sp) : Prop where
  len : ∀ vs H Q E, sp vs H Q E → vs.length = ps.length
  run : ∀ (A : Around) (outer : List Env) (s : Shared) (H : Hp) (args : Args) (us : List Value) (vs : List V) (Q : VK) (E : XK), RoomA k A → Env0 P w K mg base A outer s H → BindsTo s fd args (ps.zip us) → Vals vs us → sp vs H Q E →
    codeAny (model P w) A (.call (.ref f) args) (CR (L2.CX P w) outer P w H s Q E) s
theorem FnA.ok {P : Program} {w : World} {K : PySem.W.Frag} {mg : Str → Option Value} {base : Heap} {k : Nat} {f : Addr} {fd : FuncData} {ps : List Str} {sp : Sp} (F : FnA P w K mg base k f fd ps sp) : FnOk P w K mg base (L2.CX P w) k f fd ps sp :=
  ⟨F.len, fun A outer s H args us vs Q E hr => F.run A outer s H args us vs Q E (.of hr)⟩
abbrev cxA (P : Program) (w : World) (K : PySem.W.Frag) (mg : Str → Option Value) (base : Heap) (N : List Str) (qual : Str) (scope : Scope) (f : Addr) (cd : Value) (A : Around) (outer : List Env) (s : Shared) (H : Hp) (E : XK) : Cx :=
  { cxOf (L2.CX P w) P w K mg base N qual scope f cd A outer s H E with calm := false }
section
variable {P : Program} {w : World} {K : PySem.W.Frag} {mg : Str → Option Value} {base : Heap} {N ps : List Str} {qual : Str}
theorem startA {scope : Scope} {f : Addr} {cd : Value} {A : Around} {outer : List Env} {s s1 : Shared} {H : Hp} {E : XK} {us : List Value} {vs : List V} (S : FnScope N ps scope) (e0 : Env0 P w K mg base A outer s H) (hl : vs.length = ps.length) (r : Vals vs us)
    (x : InCallC s s.heap.objs.size (bindL (PyProof.Rows.envOfC qual scope s.heap.objs.size f cd).kindOf (ps.zip us) fun _ => none) (cellsFrom (s.heap.objs.size + 1) scope.names []) (bindC (PyProof.Rows.envOfC qual scope s.heap.objs.size f cd).kindOf (ps.zip us) fun _ => none) s1) :
    Inv (cxA P w K mg base N qual scope f cd A outer s H E) [] (L2.start N vs) H s1 := by
  have e1 : Env0 P w K mg base { A with handled := none } outer s H := ⟨e0.frames, e0.mod, e0.bs, e0.bsz, e0.funs, e0.frf, e0.hok, e0.bare⟩
  have I : Inv (cxOf (L2.CX P w) P w K mg base N qual scope f cd { A with handled := none } outer s H E) [] (L2.start N vs) H s1 := inv_start S rfl e1 hl r x
  have o := I.ok
  exact { ok := { mod := o.mod, kind := o.kind, glob := o.glob, blt := o.blt, above := o.above, inj := o.inj, has := o.has, cab := o.cab, hd := (fun z => absurd (show false = true from z) Bool.false_ne_true), frames := o.frames, stk := o.stk,
                  exf := o.exf, bs := o.bs, bsz := o.bsz, noex := o.noex, exfs := o.exfs, funs := o.funs, frf := o.frf },
          os := I.os, bare := I.bare, base := I.base, loc := I.loc, cell := I.cell, free := I.free, freeC := I.freeC, pin := I.pin, hok := I.hok, len := I.len }
variable {cl : Nat → Addr} {x : Str} {st : Stmt} {f : Addr} {fd : FuncData} {k : Nat} {b : SS}
theorem ok_fnA (F : Fun K x qual st f fd) (S : FnScope N ps (defScope st))
    (body : ∀ (cdv : Value) (A : Around) (outer : List Env) (s : Shared) (H : Hp) (E : XK), RoomA k (A.deeper (PyProof.Rows.envOfC qual (defScope st) s.heap.objs.size f cdv)) →
      DSs (cxA P w K mg base N qual (defScope st) f cdv A outer s H E) cl (fun c d _ H' => E c d H') (defBody st) b) :
    FnA P w K mg base (k + 1) f fd ps (spI K cl ps.length (fnR ps.length N.length b)) := by
  have hpl : ps.length ≤ N.length := by
    have z := congrArg List.length S.pre
    rw [List.length_take] at z
    omega
  obtain ⟨oc, od, kV, doc, pm, an, cdv, ct, osl, rfl, lk, hcd⟩ := F.ex
  refine ⟨fun vs H Q E h => h.1, fun A outer s H args us vs Q E room e0 hb r h => ?_⟩
  have hl : vs.length = ps.length := h.1
  have kIn : K.In s.heap := e0.mod.kin.keeps fun b o e => (e0.bs b o e).1
  have noL : s.heap.NoLimit := e0.mod.nolimit.keeps fun b o e => (e0.bs b o e).1
  have kinds : ∀ y ∈ ps.zip us, (defScope st).names.lookup y.1 = some .local ∨ ((defScope st).names.lookup y.1 = some .cell ∧ ((cellsFrom (s.heap.objs.size + 1) (defScope st).names []).lookup y.1).isSome = true) := fun ⟨m, v⟩ hy =>
    (S.par m (List.of_mem_zip hy).1).imp id fun q => ⟨q, PySem.W.cellsFrom_some _ _ _ (.inl q)⟩
  have dp : A.depth < recursionLimit := by have z := room.dp; omega
  refine codeAny_call_function dp (kIn _ _ lk) rfl S.co S.gen rfl (PySem.W.codeRec_of kIn hcd) (hb _ _ _ _ (wpAny_newFunctionEnv_cells S.kind kinds fun env he s1 x1 => ?_))
  subst he
  refine ⟨noL.keeps x1.toInCall.keep, codeAny_func ?_⟩
  have deep : RoomA k (A.deeper (PyProof.Rows.envOfC qual (defScope st) s.heap.objs.size f cdv)) :=
    ⟨by have z := room.dp; show A.depth + 1 + 3 * k + 5 < _; omega, by have z := room.un; show A.units + 3 + 16 * k + 200 < _; omega⟩
  have J : Inv (cxA P w K mg base N qual (defScope st) f cdv A outer s H E) [] (L2.start N vs) H s1 := startA S e0 hl r x1
  have want : tS K cl (fun c d _ H' => E c d H') b { nx := fun _ H' => Q .non H', rt := Q } (L2.start N vs) H := by
    obtain ⟨_, ws, hp, ds, hhr, rr, q⟩ := h
    refine ⟨ws, _, hp, hhr, start_lr rr (by omega), ?_⟩
    unfold fnR at q
    have e := rr.len
    rw [if_pos (show ds.length = ps.length by omega)] at q
    cases hb : b (ds.map some ++ List.replicate (N.length - ds.length) none) hp with
    | nx e1 h1 =>
      rw [hb] at q
      exact fun ws1 H1 σ1 p1 l1 hr1 lr1 => q ws1 H1 .non p1 l1 hr1 rfl
    | rt d h1 => rw [hb] at q; exact q
    | bk e1 h1 => rw [hb] at q; exact q.elim
    | ct e1 h1 => rw [hb] at q; exact q.elim
    | ex c fs e1 h1 =>
      rw [hb] at q
      exact fun ws1 H1 σ1 dd xs p1 l1 hr1 lr1 => q ws1 H1 dd xs p1 l1 hr1
    | bad => rw [hb] at q; exact q.elim
  refine wpAny_mono ((body cdv A outer s H E deep).p.run [] s1 (L2.start N vs) H _ J want) (fun fl s' hs => ?_) fun e s' hs => hs
  have fin : ∀ {σ' : St} {H' : Hp} {v : V} {u : Value}, Inv (cxA P w K mg base N qual (defScope st) f cdv A outer s H E) [] σ' H' s' → RelV v u → Q v H' → CE outer P w H s Q u s' :=
    fun {σ' H' v u} J2 rv q => ⟨v, H', J2.os, J2.bare, J2.base, J2.hok, rv, q⟩
  cases fl with
  | ret u => exact (fun ⟨v, σ', H', J2, rv, q⟩ => fin J2 rv q) hs
  | next => exact (fun ⟨σ', H', J2, q⟩ => fin (v := V.non) (u := Value.none) J2 rfl q) hs
  | brk => exact hs.elim fun _ z => z.elim fun _ z => z.2.elim
  | cont => exact hs.elim fun _ z => z.elim fun _ z => z.2.elim
end
section
variable {X : Cx} {cl : Nat → Addr} {W : WX}
theorem de_callA {k : Nat} {f : Addr} {fd : FuncData} {ps : List Str} {ar : Nat} {F : List D → IH → R D} {g : SA} {x : Str} {p pos : Pos} {e : Expr} {es : List Expr} (Fo : FnA X.prog X.w X.K X.mg X.base k f fd ps (spI X.K cl ar F)) (hA : Ar ar F)
    (hr : RoomA k X.A) (hm : X.mg x = some (.ref f)) (hk : PySem.W.keepIn X.K (.ref f) = true) (hb : Binds X.K fd ps []) (ha : DA X cl WN (e :: es) g) (hg : Gl X x := by rfl)
    (hdb : (x == ("__debug__" : Str)) = false := by decide) (he : starEach (e :: es) X.env = (false, eval e X.env) :: starEach es X.env := by rfl) (hpl : (backTo pos (starEach es X.env)).any (·.1) = false := by rfl) :
    DE X cl WN (.Call (.Name x p) (e :: es) [] pos) (eB F g) := by
  refine ⟨⟨fun pins s σ H Q I want => wpAny_Call_Name_kw (ld_glob I hg hm ?_ hdb)⟩⟩
  have w2 := call_ok (X := X) hA σ H Q want
  refine PySem.W.callWith_K (h₀ := X.base) I.ok.mod.kin hk (thn (ha.p.run pos pins s σ H _ I w2) fun us s1 ⟨vs, H1, I1, r, q⟩ => ⟨I1.kIn, ?_⟩) he hpl
  have hl : us.length = ps.length := by rw [← r.length]; exact Fo.len _ _ _ _ q
  have b := hb s1 us I1.kIn (by rw [List.append_nil]; exact hl)
  rw [List.append_nil] at b
  refine wpAny_call (codeAny_mono (Fo.run X.A X.stack s1 H1 ⟨us, []⟩ us vs Q _ hr I1.env0 b r q) fun r2 s' back => ?_)
  cases r2 with
  | error er => exact (fun ⟨_, _, _, _, _, _, _, _, _, _, _, _, z⟩ => z.elim) back
  | ok fl =>
    cases fl with
    | ret u => exact I1.after back
    | next => exact back.elim
    | brk => exact back.elim
    | cont => exact back.elim
end
end Fl
/-! Fl, part 13: what the top has written, in short. -/
namespace Fl
open PySem L2
structure DefT (K : PySem.W.Frag) (mg : Str → Option Value) (x : Str) (st : Stmt) (ps : List Str) (f : Addr) (fd : FuncData) : Prop where
  F : Fun K x x st f fd
  m : mg x = some (.ref f)
  k : PySem.W.keepIn K (.ref f) = true
  b : Binds K fd ps []
/-- an error's class with its __init__ -/
structure ClsT (K : PySem.W.Frag) (mg : Str → Option Value) (x : Str) (C fI : Addr) : Prop where
  m : mg x = some (.ref C)
  T : XCls K C fI
theorem RoomA.units {k : Nat} {A : Around} (r : RoomA k A) : A.units + 64 < cLine := by have z := r.un; omega
theorem RoomA.units1 {k : Nat} {A : Around} (r : RoomA k A) : A.units + 1 < cLine := by have z := r.un; omega
/-- what the classes of errors say of themselves -/
def xcB (K : PySem.W.Frag) (C : Addr) : Bool :=
  decide (PySem.W.findIn K (.ref C) "__getattribute__" = some (some (.builtin "BaseException.__getattribute__"))) && (decide (PySem.W.findIn K (.ref C) "__getattr__" = some none) && (decide (PySem.W.subIn K (.ref C) (.type "BaseException") = some true) &&
  (PySem.W.hasDictIn K C && (decide (PySem.W.findIn K (.ref C) "__class__" = some (some (.builtin "object.__class__"))) && (decide (PySem.W.specialIn K (.builtin "object.__class__") "__get__" = some (some (.builtin "getset_descriptor.__get__"))) &&
  (decide (PySem.W.takesIn K (.builtin "object.__class__") = some true) && (decide (PySem.W.mroIn K C (.type "object") = some true) && (decide (PySem.W.findIn K (.ref C) "__setattr__" = some (some (.builtin "object.__setattr__"))) &&
  (decide (PySem.W.typeIn K (.ref C) = some (.type "type")) && PySem.W.keepIn K (.ref C))))))))))
structure XcT (K : PySem.W.Frag) (C : Addr) : Prop where
  x : XfC K C
  e : ExcC K C
  sa : PySem.W.findIn K (.ref C) "__setattr__" = some (some (.builtin "object.__setattr__"))
  ty : PySem.W.typeIn K (.ref C) = some (.type "type")
  k : PySem.W.keepIn K (.ref C) = true
theorem xcB_ok {K : PySem.W.Frag} {C : Addr} (h : xcB K C = true) : XcT K C := by
  unfold xcB at h
  obtain ⟨h1, h⟩ := Bool.and_eq_true_iff.mp h
  obtain ⟨h2, h⟩ := Bool.and_eq_true_iff.mp h
  obtain ⟨h3, h⟩ := Bool.and_eq_true_iff.mp h
  obtain ⟨h4, h⟩ := Bool.and_eq_true_iff.mp h
  obtain ⟨h5, h⟩ := Bool.and_eq_true_iff.mp h
  obtain ⟨h6, h⟩ := Bool.and_eq_true_iff.mp h
  obtain ⟨h7, h⟩ := Bool.and_eq_true_iff.mp h
  obtain ⟨h8, h⟩ := Bool.and_eq_true_iff.mp h
  obtain ⟨h9, h⟩ := Bool.and_eq_true_iff.mp h
  obtain ⟨h10, h11⟩ := Bool.and_eq_true_iff.mp h
  have a1 := of_decide_eq_true h1
  have a2 := of_decide_eq_true h2
  have a3 := of_decide_eq_true h3
  exact ⟨⟨a1, a2, a3, h4⟩, ⟨a1, a2, a3, h4, of_decide_eq_true h5, of_decide_eq_true h6, of_decide_eq_true h7, of_decide_eq_true h8⟩, of_decide_eq_true h9, of_decide_eq_true h10, h11⟩
/-- the family: classes 0 .. n - 1 at cl; up c k: c is k or below it -/
def famB (K : PySem.W.Frag) (cl : Nat → Addr) (n : Nat) (up : Nat → Nat → Bool) : Bool := (List.range n).all fun c => xcB K (cl c) && (List.range n).all fun k =>
  decide (PySem.W.exmOne K (.ref (cl c)) (.ref (cl k)) = some (up c k)) && decide (PySem.W.kitOne K (.ref (cl c)) (.ref (cl k)) = some (up c k))
structure FamT (K : PySem.W.Frag) (cl : Nat → Addr) (n : Nat) (up : Nat → Nat → Bool) : Prop where
  x : ∀ c, c < n → XcT K (cl c)
  ex : ∀ c k, c < n → k < n → PySem.W.exmOne K (.ref (cl c)) (.ref (cl k)) = some (up c k)
  ki : ∀ c k, c < n → k < n → PySem.W.kitOne K (.ref (cl c)) (.ref (cl k)) = some (up c k)
theorem famB_ok {K : PySem.W.Frag} {cl : Nat → Addr} {n : Nat} {up : Nat → Nat → Bool} (h : famB K cl n up = true) : FamT K cl n up := by
  unfold famB at h
  rw [List.all_eq_true] at h
  have key : ∀ c, c < n → _ := fun c hc => Bool.and_eq_true_iff.mp (h c (List.mem_range.mpr hc))
  have k2 : ∀ c k, c < n → k < n → _ := fun c k hc hk => Bool.and_eq_true_iff.mp (List.all_eq_true.mp (key c hc).2 k (List.mem_range.mpr hk))
  exact ⟨fun c hc => xcB_ok (key c hc).1, fun c k hc hk => of_decide_eq_true (k2 c k hc hk).1, fun c k hc hk => of_decide_eq_true (k2 c k hc hk).2⟩
def subN (n : Nat) (up : Nat → Nat → Bool) : Nat → Nat → Option Bool := fun c k => if c < n ∧ k < n then some (up c k) else none
theorem FamT.sub {K : PySem.W.Frag} {cl : Nat → Addr} {n : Nat} {up : Nat → Nat → Bool} (T : FamT K cl n up) : ∀ c k b, subN n up c k = some b → PySem.W.exmOne K (.ref (cl c)) (.ref (cl k)) = some b := fun c k b h => by
  unfold subN at h
  split at h
  · rename_i z
    cases h
    exact T.ex c k z.1 z.2
  · cases h
theorem FamT.isx {K : PySem.W.Frag} {cl : Nat → Addr} {n : Nat} {up : Nat → Nat → Bool} (T : FamT K cl n up) (k : Nat) : ∀ c b, subN n up c k = some b → ExcC K (cl c) ∧ PySem.W.kitOne K (.ref (cl c)) (.ref (cl k)) = some b := fun c b h => by
  unfold subN at h
  split at h
  · rename_i z
    cases h
    exact ⟨(T.x c z.1).e, T.ki c k z.1 z.2⟩
  · cases h
end Fl
/-! Fl, part 14: a law's end. -/
namespace Fl
open PySem L2
/-- law's promise: a list of at most 63 ints that stays is handed in, True comes out -/
def spLaw (K : PySem.W.Frag) : Sp := fun vs H Q _ => ∃ (a : Addr) (ns : List Int), vs = [.ref a] ∧ SqF K H a (ns.map V.int) ∧ ns.length ≤ 63 ∧ ∀ H', Q (.bl true) H'
theorem law_ok {P : Program} {w : World} {K : PySem.W.Frag} {mg : Str → Option Value} {base : Heap} {k : Nat} {f : Addr} {fd : FuncData} {cl : Nat → Addr} {F : List D → IH → R D}
    (o : FnOk P w K mg base (L2.CX P w) k f fd ["script"] (spI K cl 1 F)) (yes : ∀ ns : List Int, ns.length ≤ 63 → ∃ h, F [.fls (ns.map D.int)] [] = .ok (.bl true) h) : FnOk P w K mg base (L2.CX P w) k f fd ["script"] (spLaw K) := by
  refine ⟨fun vs H Q E h => ?_, fun A outer s H args us vs Q E hr e0 hb r h => o.run A outer s H args us vs Q E hr e0 hb r ?_⟩
  · obtain ⟨a, ns, rfl, _⟩ := h
    rfl
  · obtain ⟨a, ns, rfl, hs, hl, q⟩ := h
    obtain ⟨h1, e⟩ := yes ns hl
    refine ⟨rfl, [], [], [.fls (ns.map D.int)], ⟨rfl, List.nodup_nil, fun n o a h => by simp at h⟩, ⟨_, [], rfl, ⟨a, _, rfl, hs, VRs.ints ns⟩, rfl⟩, ?_⟩
    rw [e]
    exact fun ws' H' v _ _ _ rv => by
      obtain rfl := (show v = .bl true from rv)
      exact q H'
theorem only_sq {K : PySem.W.Frag} {H : Hp} {a : Addr} {xs : List V} (o : Only H) (h : SqL K H a xs) : SqF K H a xs := by
  rcases h with (h | h) | h
  · rcases o a with z | ⟨o, ys, z⟩
    · rw [z] at h; cases h
    · rw [z] at h; cases h
  · exact .inl h
  · exact .inr h
theorem walkI {l : PySem.W.OpenLaw} {k : Nat} {q : Program} {loose : List Str} {XP : (Str → Option Value) → Heap → Prop} {YP : World → Heap → Prop} {d : DefRec} {K : Params → PySem.W.Frag} (hn : l.most = some 63) (hdf : d.params.defaults = []) (hr : Room k callerA)
    (hY : ∀ (w : World) (h : Heap), YP w h → (K w.params).In h)
    (F : ∀ (w : World) (mg : Str → Option Value) (fa : Addr) (h : Heap), (K w.params).In h → h.Ns mainGlobals mg → mg d.name = some (.ref fa) →
      ∃ fd : FuncData, (∀ (s : Shared) (u : Value), BindsTo s fd ⟨[u], []⟩ [("script", u)]) ∧ ∀ base : Heap, (K w.params).In base → base.Ns mainGlobals mg → FnOk l.prog w (K w.params) mg base (L2.CX l.prog w) k fa fd ["script"] (spLaw (K w.params))) :
    PySem.W.WalkO q loose XP YP l.row.toRowW d [] (fun f vs => PySem.call f vs) :=
  walk_of (n := 63) (k := k) (x := "script") (CX := fun w => L2.CX l.prog w) (sp := fun w => spLaw (K w.params)) hn (by decide) hdf hr hY F (fun _ _ a ns hl o hs => ⟨a, ns, rfl, only_sq o hs, hl, fun _ => rfl⟩)
    fun _ _ _ _ _ ⟨_, _, _, _, _, _, _, _, _, _, _, _, z⟩ => z.elim
end Fl
/-! Fl, part 15: how the plain functions are computed (rules for simp: only what is applied is opened, what stands behind waits). -/
namespace Fl
open PySem L2
def RS.sq (r : RS) (g : SS) : RS := match r with
  | .nx e h => g e h
  | r => r
section
variable {α β : Type} {a : α} {h h1 : IH} {e e1 : Lc} {c : Nat} {fs : List (Str × D)} {k : α → IH → R β} {ks : α → IH → RS} {g : SS} {d : D}
@[simp] theorem bind_ok : (R.ok a h).bind k = k a h := id rfl
@[simp] theorem bind_ex : (R.ex c fs h : R α).bind k = .ex c fs h := id rfl
@[simp] theorem bind_bad : (R.bad : R α).bind k = .bad := id rfl
@[simp] theorem bindN_ok : (R.ok a h).bindN k = k a h := id rfl
@[simp] theorem bindN_bad : (R.bad : R α).bindN k = .bad := id rfl
@[simp] theorem st_ok : (R.ok a h).st e ks = ks a h := id rfl
@[simp] theorem st_ex : (R.ex c fs h : R α).st e ks = .ex c fs e h := id rfl
@[simp] theorem st_bad : (R.bad : R α).st e ks = .bad := id rfl
@[simp] theorem sq_nx : (RS.nx e h).sq g = g e h := id rfl
@[simp] theorem sq_rt : (RS.rt d h).sq g = .rt d h := id rfl
@[simp] theorem sq_bk : (RS.bk e h).sq g = .bk e h := id rfl
@[simp] theorem sq_ct : (RS.ct e h).sq g = .ct e h := id rfl
@[simp] theorem sq_ex : (RS.ex c fs e h).sq g = .ex c fs e h := id rfl
@[simp] theorem sq_bad : RS.bad.sq g = .bad := id rfl
end
section
variable {h : IH} {e : Lc} {f g k : SE} {F G : D → D → IH → R D} {u v : ST} {s t : SS} {i j : Nat} {d : D} {as gs : SA} {Fn : List D → IH → R D} {Fm : D → List D → IH → R D} {ty : D → IH → Bool} {T U : Ty} {c n m : Nat} {fl : List Str} {ix : List Nat} {tg : Tg} {lo hi : SO} {src : Src} {x : Str}
@[simp] theorem eC_ap : eC d e h = .ok d h := id rfl
@[simp] theorem eV_ap : eV i e h = match e[i]? with
  | some (some d) => .ok d h
  | _ => .bad := id rfl
@[simp] theorem aNil_ap : aNil e h = .ok [] h := id rfl
theorem aCons_ap : aCons f as e h = (f e h).bind fun d h1 => (as e h1).bind fun ds h2 => .ok (d :: ds) h2 := id rfl
theorem eTup_ap : eTup as e h = (as e h).bind fun ds h1 => if ds.length ≤ sizeLine then .ok (.tup ds) h1 else .bad := id rfl
theorem eLst_ap : eLst as e h = (as e h).bind fun ds h1 => if ds.length ≤ sizeLine then .ok (.ref h1.length) (h1 ++ [.lst ds]) else .bad := id rfl
theorem eOp_ap : eOp F f g e h = (f e h).bind fun a h1 => (g e h1).bind fun b h2 => F a b h2 := id rfl
theorem tB_ap : tB f e h = (f e h).bind fun d h1 => match d with
  | .bl b => .ok b h1
  | _ => .bad := id rfl
theorem eNeg_ap : eNeg f e h = (f e h).bind fun a h1 => match a with
  | .int i => .ok (.int (-i)) h1
  | _ => .bad := id rfl
theorem tTr_ap : tTr f e h = (f e h).bind fun d h1 => match tru d h1 with
  | some b => .ok b h1
  | none => .bad := id rfl
theorem tNo_ap : tNo u e h = (u e h).bind fun b h1 => .ok (!b) h1 := id rfl
theorem tAn_ap : tAn u v e h = (u e h).bind fun b h1 => if b = true then v e h1 else .ok false h1 := id rfl
theorem tOr_ap : tOr' u v e h = (u e h).bind fun b h1 => if b = true then .ok true h1 else v e h1 := id rfl
theorem eAn_ap : eAn f g e h = (f e h).bind fun d h1 => match tru d h1 with
  | some true => g e h1
  | some false => .ok d h1
  | none => .bad := id rfl
theorem eOr_ap : eOr f g e h = (f e h).bind fun d h1 => match tru d h1 with
  | some true => .ok d h1
  | some false => g e h1
  | none => .bad := id rfl
theorem eNot_ap : eNot f e h = (f e h).bind fun d h1 => match tru d h1 with
  | some b => .ok (.bl (!b)) h1
  | none => .bad := id rfl
theorem eIf_ap : eIf u f g e h = (u e h).bind fun b h1 => if b = true then f e h1 else g e h1 := id rfl
theorem eCh_ap : eCh F G f g k e h = (f e h).bind fun a h1 => (g e h1).bind fun b h2 => (F a b h2).bind fun z h3 => match z with
  | .bl true => (k e h3).bind fun c h4 => G b c h4
  | .bl false => .ok (.bl false) h3
  | _ => .bad := id rfl
@[simp] theorem oN_ap : oN e h = .ok none h := id rfl
theorem oE_ap : oE f e h = (f e h).bind fun d h1 => match d with
  | .int i => .ok (some i) h1
  | _ => .bad := id rfl
theorem eSl_ap : eSl f lo hi e h = (f e h).bind fun a h1 => (lo e h1).bind fun l h2 => (hi e h2).bind fun u h3 => fSl l u a h3 := id rfl
theorem eB_ap : eB Fn as e h = (as e h).bind fun ds h1 => Fn ds h1 := id rfl
theorem eIsi_ap : eIsi T f e h = (f e h).bind fun d h1 => match tyD d h1 with
  | some t => .ok (.bl (isT t T)) h1
  | none => .bad := id rfl
theorem eIsi2_ap : eIsi2 T U f e h = (f e h).bind fun d h1 => match tyD d h1 with
  | some t => .ok (.bl (isT t T || isT t U)) h1
  | none => .bad := id rfl
theorem eMt_ap : eMt ty Fm f as e h = (f e h).bind fun d h1 => if ty d h1 = true then (as e h1).bind fun ds h2 => Fm d ds h2 else .bad := id rfl
@[simp] theorem sNx_ap : sNx e h = .nx e h := id rfl
@[simp] theorem sSeq_ap : sSeq s t e h = (s e h).sq t := id rfl
@[simp] theorem sBk_ap : sBk e h = .bk e h := id rfl
@[simp] theorem sCt_ap : sCt e h = .ct e h := id rfl
theorem sEx_ap : sEx f e h = (f e h).st e fun _ h1 => .nx e h1 := id rfl
theorem sRt_ap : sRt f e h = (f e h).st e fun d h1 => .rt d h1 := id rfl
@[simp] theorem sRtN_ap : sRtN e h = .rt .non h := id rfl
theorem sIf_ap : sIf u s t e h = (u e h).st e fun b h1 => if b = true then s e h1 else t e h1 := id rfl
theorem sAs_ap : sAs tg f e h = (f e h).st e fun d h1 => match tgS tg d e with
  | some e1 => .nx e1 h1
  | none => .bad := id rfl
theorem sPar_ap : sPar i j as e h = (as e h).st e fun ds h1 => match ds with
  | [a, b] => .nx ((e.set i (some a)).set j (some b)) h1
  | _ => .bad := id rfl
theorem sPut_ap : sPut f g k e h = (k e h).st e fun d h1 => (f e h1).st e fun o h2 => (g e h2).st e fun i h3 => match fPut o i d h3 with
  | some h4 => .nx e h4
  | none => .bad := id rfl
theorem iE_ap : iE f e h = (f e h).bind fun d h1 => match itS d h1 with
  | some p => .ok p h1
  | none => .bad := id rfl
theorem iR1_ap : iR1 as e h = (as e h).bind fun ds h1 => match ds with
  | [.int j] => if -(2 ^ 62) ≤ j ∧ j < 2 ^ 62 then .ok (rgD 0 j.toNat, (fun _ => True : IH → Prop)) h1 else .bad
  | _ => .bad := id rfl
theorem iR2_ap : iR2 as e h = (as e h).bind fun ds h1 => match ds with
  | [.int i, .int j] => if -(2 ^ 62) ≤ i ∧ i < 2 ^ 62 ∧ -(2 ^ 62) ≤ j ∧ j < 2 ^ 62 then .ok (rgD i (j - i).toNat, (fun _ => True : IH → Prop)) h1 else .bad
  | _ => .bad := id rfl
theorem sFor_ap : sFor tg src s e h = (src e h).st e fun p h1 => forGo p.2 tg s p.1 e h1 := id rfl
theorem eLc_ap {vs : List Nat} : eLc vs tg src u f e h = (src e h).bind fun p h1 => lcGo p.2 tg u f h1.length (wipeD e vs) p.1 (h1 ++ [.lst []]) := id rfl
@[simp] theorem tYe_ap : tYe e h = .ok true h := id rfl
theorem eXr_ap : eXr m x f e h = (f e h).bind fun d h1 => match d with
  | .ref k => (match h1[k]? with
    | some (.exc c fs) => if c < m then (match fs.lookup x with
      | some z => .ok z h1
      | none => .bad) else .bad
    | _ => .bad)
  | _ => .bad := id rfl
theorem eIsx_ap {isx : Nat → Option Bool} : eIsx isx f e h = (f e h).bind fun d h1 => match d with
  | .ref k => (match h1[k]? with
    | some (.exc c fs) => (match isx c with
      | some b => .ok (.bl b) h1
      | none => .bad)
    | _ => .bad)
  | _ => .bad := id rfl
theorem eXn_ap : eXn c n m fl ix as gs e h = (as e h).bind fun ds h1 => (gs e h1).bind fun zs h2 =>
  if ds.length = n ∧ zs.length = m ∧ (pick ix (ds ++ zs)).length = fl.length then .ok (.ref h2.length) (h2 ++ [.exc c (fl.zip (pick ix (ds ++ zs))).reverse]) else .bad := id rfl
theorem sXn_ap : sXn c n m fl ix as gs e h = ((as e h).bind fun ds h1 => (gs e h1).bind fun zs h2 =>
  if ds.length = n ∧ zs.length = m ∧ (pick ix (ds ++ zs)).length = fl.length then R.ex c (fl.zip (pick ix (ds ++ zs))).reverse h2 else (.bad : R D)).st e fun _ _ => .bad := id rfl
theorem sRs_ap : sRs c fl as e h = (as e h).st e fun ds h1 => if ds.length = fl.length ∧ fl.length ≤ 1000 then .ex c (fl.zip ds).reverse e h1 else .bad := id rfl
def sTr2 (sub : Nat → Nat → Option Bool) (hs : List (Nat × Option Nat × SS)) (r : RS) : RS := match r with
  | .ex c fs e1 h1 => hdGo sub c fs hs e1 h1
  | r => r
@[simp] theorem sTry_ap {sub : Nat → Nat → Option Bool} {hs : List (Nat × Option Nat × SS)} : sTry sub s hs e h = sTr2 sub hs (s e h) := id rfl
@[simp] theorem sTr2_ex {sub : Nat → Nat → Option Bool} {hs : List (Nat × Option Nat × SS)} {fs : List (Str × D)} : sTr2 sub hs (.ex c fs e h) = hdGo sub c fs hs e h := id rfl
@[simp] theorem sTr2_nx {sub : Nat → Nat → Option Bool} {hs : List (Nat × Option Nat × SS)} : sTr2 sub hs (.nx e h) = .nx e h := id rfl
@[simp] theorem sTr2_rt {sub : Nat → Nat → Option Bool} {hs : List (Nat × Option Nat × SS)} : sTr2 sub hs (.rt d h) = .rt d h := id rfl
@[simp] theorem pick_ap {α : Type} {l : List α} : pick ix l = ix.filterMap fun i => l[i]? := id rfl
@[simp] theorem tgS_n : tgS (.n i) d e = some (e.set i (some d)) := id rfl
@[simp] theorem tgS_t {l : List Nat} {ds : List D} : tgS (.t l) (.tup ds) e = if ds.length = l.length then some (setAll l ds e) else none := id rfl
def endS (r : RS) : R D := match r with
  | .nx _ h1 => .ok .non h1
  | .rt d h1 => .ok d h1
  | .ex c fs _ h1 => .ex c fs h1
  | _ => .bad
@[simp] theorem fnR_ap {ds : List D} : fnR n m s ds h = if ds.length = n then endS (s (ds.map some ++ List.replicate (m - ds.length) none) h) else .bad := id rfl
@[simp] theorem endS_nx : endS (.nx e h) = .ok .non h := id rfl
@[simp] theorem endS_rt : endS (.rt d h) = .ok d h := id rfl
@[simp] theorem endS_ex {fs : List (Str × D)} : endS (.ex c fs e h) = .ex c fs h := id rfl
@[simp] theorem endS_bad : endS .bad = .bad := id rfl
end
/-! the same by steps that have names (nothing is applied ahead of its turn) -/
section
variable {α β : Type}
def R.co1 (r : R D) (as : SA) (e : Lc) : R (List D) := r.bind fun d h1 => (as e h1).bind fun ds h2 => .ok (d :: ds) h2
def R.co2 (r : R (List D)) (d : D) : R (List D) := r.bind fun ds h2 => .ok (d :: ds) h2
def R.tup (r : R (List D)) : R D := r.bind fun ds h1 => if ds.length ≤ sizeLine then .ok (.tup ds) h1 else .bad
def R.lst (r : R (List D)) : R D := r.bind fun ds h1 => if ds.length ≤ sizeLine then .ok (.ref h1.length) (h1 ++ [.lst ds]) else .bad
def R.op1 (r : R D) (F : D → D → IH → R D) (g : SE) (e : Lc) : R D := r.bind fun a h1 => (g e h1).bind fun b h2 => F a b h2
def R.op2 (r : R D) (F : D → D → IH → R D) (a : D) : R D := r.bind fun b h2 => F a b h2
def R.tb (r : R D) : R Bool := r.bind fun d h1 => match d with
  | .bl b => .ok b h1
  | _ => .bad
def R.neg (r : R D) : R D := r.bind fun a h1 => match a with
  | .int i => .ok (.int (-i)) h1
  | _ => .bad
def trO (o : Option Bool) (h : IH) : R Bool := match o with
  | some b => .ok b h
  | none => .bad
def R.tr (r : R D) : R Bool := r.bind fun d h1 => trO (tru d h1) h1
def R.no (r : R Bool) : R Bool := r.bind fun b h1 => .ok (!b) h1
def R.an (r : R Bool) (v : ST) (e : Lc) : R Bool := r.bind fun b h1 => if b = true then v e h1 else .ok false h1
def R.or (r : R Bool) (v : ST) (e : Lc) : R Bool := r.bind fun b h1 => if b = true then .ok true h1 else v e h1
def anO (o : Option Bool) (d : D) (g : SE) (e : Lc) (h : IH) : R D := match o with
  | some true => g e h
  | some false => .ok d h
  | none => .bad
def orO (o : Option Bool) (d : D) (g : SE) (e : Lc) (h : IH) : R D := match o with
  | some true => .ok d h
  | some false => g e h
  | none => .bad
def ntO (o : Option Bool) (h : IH) : R D := match o with
  | some b => .ok (.bl (!b)) h
  | none => .bad
def R.ean (r : R D) (g : SE) (e : Lc) : R D := r.bind fun d h1 => anO (tru d h1) d g e h1
def R.eor (r : R D) (g : SE) (e : Lc) : R D := r.bind fun d h1 => orO (tru d h1) d g e h1
def R.ent (r : R D) : R D := r.bind fun d h1 => ntO (tru d h1) h1
def R.eif (r : R Bool) (f g : SE) (e : Lc) : R D := r.bind fun b h1 => if b = true then f e h1 else g e h1
def R.ch4 (r : R D) (G : D → D → IH → R D) (b : D) : R D := r.bind fun c h4 => G b c h4
def R.ch3 (r : R D) (G : D → D → IH → R D) (k : SE) (e : Lc) (b : D) : R D := r.bind fun z h3 => match z with
  | .bl true => (k e h3).ch4 G b
  | .bl false => .ok (.bl false) h3
  | _ => .bad
def R.ch2 (r : R D) (F G : D → D → IH → R D) (k : SE) (e : Lc) (a : D) : R D := r.bind fun b h2 => (F a b h2).ch3 G k e b
def R.ch1 (r : R D) (F G : D → D → IH → R D) (g k : SE) (e : Lc) : R D := r.bind fun a h1 => (g e h1).ch2 F G k e a
def R.oe (r : R D) : R (Option Int) := r.bind fun d h1 => match d with
  | .int i => .ok (some i) h1
  | _ => .bad
def R.sl3 (r : R (Option Int)) (a : D) (l : Option Int) : R D := r.bind fun u h3 => fSl l u a h3
def R.sl2 (r : R (Option Int)) (hi : SO) (e : Lc) (a : D) : R D := r.bind fun l h2 => (hi e h2).sl3 a l
def R.sl1 (r : R D) (lo hi : SO) (e : Lc) : R D := r.bind fun a h1 => (lo e h1).sl2 hi e a
def R.call (r : R (List D)) (F : List D → IH → R D) : R D := r.bind fun ds h1 => F ds h1
def isO (o : Option Ty) (T : Ty) (h : IH) : R D := match o with
  | some t => .ok (.bl (isT t T)) h
  | none => .bad
def isO2 (o : Option Ty) (T U : Ty) (h : IH) : R D := match o with
  | some t => .ok (.bl (isT t T || isT t U)) h
  | none => .bad
def R.isi (r : R D) (T : Ty) : R D := r.bind fun d h1 => isO (tyD d h1) T h1
def R.isi2 (r : R D) (T U : Ty) : R D := r.bind fun d h1 => isO2 (tyD d h1) T U h1
def R.mt2 (r : R (List D)) (F : D → List D → IH → R D) (d : D) : R D := r.bind fun ds h2 => F d ds h2
def R.mt1 (r : R D) (ty : D → IH → Bool) (F : D → List D → IH → R D) (as : SA) (e : Lc) : R D := r.bind fun d h1 => if ty d h1 = true then (as e h1).mt2 F d else .bad
def R.sx (r : R α) (e : Lc) : RS := r.st e fun _ h1 => .nx e h1
def R.rtn (r : R D) (e : Lc) : RS := r.st e fun d h1 => .rt d h1
def R.iff (r : R Bool) (s t : SS) (e : Lc) : RS := r.st e fun b h1 => if b = true then s e h1 else t e h1
def asO (o : Option Lc) (h : IH) : RS := match o with
  | some e1 => .nx e1 h
  | none => .bad
def R.asg (r : R D) (tg : Tg) (e : Lc) : RS := r.st e fun d h1 => asO (tgS tg d e) h1
def R.par (r : R (List D)) (i j : Nat) (e : Lc) : RS := r.st e fun ds h1 => match ds with
  | [a, b] => .nx ((e.set i (some a)).set j (some b)) h1
  | _ => .bad
def ptO (o : Option IH) (e : Lc) : RS := match o with
  | some h4 => .nx e h4
  | none => .bad
def R.put3 (r : R D) (e : Lc) (d o : D) : RS := r.st e fun i h3 => ptO (fPut o i d h3) e
def R.put2 (r : R D) (g : SE) (e : Lc) (d : D) : RS := r.st e fun o h2 => (g e h2).put3 e d o
def R.put1 (r : R D) (f g : SE) (e : Lc) : RS := r.st e fun d h1 => (f e h1).put2 g e d
def ieO (o : Option (List D × (IH → Prop))) (h : IH) : R (List D × (IH → Prop)) := match o with
  | some p => .ok p h
  | none => .bad
def R.ie (r : R D) : R (List D × (IH → Prop)) := r.bind fun d h1 => ieO (itS d h1) h1
def R.ir1 (r : R (List D)) : R (List D × (IH → Prop)) := r.bind fun ds h1 => match ds with
  | [.int j] => if -(2 ^ 62) ≤ j ∧ j < 2 ^ 62 then .ok (rgD 0 j.toNat, (fun _ => True : IH → Prop)) h1 else .bad
  | _ => .bad
def R.ir2 (r : R (List D)) : R (List D × (IH → Prop)) := r.bind fun ds h1 => match ds with
  | [.int i, .int j] => if -(2 ^ 62) ≤ i ∧ i < 2 ^ 62 ∧ -(2 ^ 62) ≤ j ∧ j < 2 ^ 62 then .ok (rgD i (j - i).toNat, (fun _ => True : IH → Prop)) h1 else .bad
  | _ => .bad
noncomputable def R.lp (r : R (List D × (IH → Prop))) (tg : Tg) (s : SS) (e : Lc) : RS := r.st e fun p h1 => forGo p.2 tg s p.1 e h1
noncomputable def R.lcp (r : R (List D × (IH → Prop))) (vs : List Nat) (tg : Tg) (u : ST) (f : SE) (e : Lc) : R D := r.bind fun p h1 => lcGo p.2 tg u f h1.length (wipeD e vs) p.1 (h1 ++ [.lst []])
def xfO (o : Option D) (h : IH) : R D := match o with
  | some z => .ok z h
  | none => .bad
def xrO (o : Option HB) (m : Nat) (x : Str) (h : IH) : R D := match o with
  | some (.exc c fs) => if c < m then xfO (fs.lookup x) h else .bad
  | _ => .bad
def R.xr (r : R D) (m : Nat) (x : Str) : R D := r.bind fun d h1 => match d with
  | .ref k => xrO h1[k]? m x h1
  | _ => .bad
def trD (o : Option Bool) (h : IH) : R D := match o with
  | some b => .ok (.bl b) h
  | none => .bad
def ixO (o : Option HB) (isx : Nat → Option Bool) (h : IH) : R D := match o with
  | some (.exc c fs) => trD (isx c) h
  | _ => .bad
def R.isx (r : R D) (isx : Nat → Option Bool) : R D := r.bind fun d h1 => match d with
  | .ref k => ixO h1[k]? isx h1
  | _ => .bad
def R.xn2 (r : R (List D)) (c n m : Nat) (fl : List Str) (ix : List Nat) (ds : List D) : R D := r.bind fun zs h2 => if ds.length = n ∧ zs.length = m ∧ (pick ix (ds ++ zs)).length = fl.length then .ok (.ref h2.length) (h2 ++ [.exc c (fl.zip (pick ix (ds ++ zs))).reverse]) else .bad
def R.xn1 (r : R (List D)) (c n m : Nat) (fl : List Str) (ix : List Nat) (gs : SA) (e : Lc) : R D := r.bind fun ds h1 => (gs e h1).xn2 c n m fl ix ds
def R.xs2 (r : R (List D)) (c n m : Nat) (fl : List Str) (ix : List Nat) (ds : List D) : R D := r.bind fun zs h2 => if ds.length = n ∧ zs.length = m ∧ (pick ix (ds ++ zs)).length = fl.length then R.ex c (fl.zip (pick ix (ds ++ zs))).reverse h2 else .bad
def R.xs1 (r : R (List D)) (c n m : Nat) (fl : List Str) (ix : List Nat) (gs : SA) (e : Lc) : R D := r.bind fun ds h1 => (gs e h1).xs2 c n m fl ix ds
def R.bd (r : R D) (e : Lc) : RS := r.st e fun _ _ => .bad
def R.rs (r : R (List D)) (c : Nat) (fl : List Str) (e : Lc) : RS := r.st e fun ds h1 => if ds.length = fl.length ∧ fl.length ≤ 1000 then .ex c (fl.zip ds).reverse e h1 else .bad
end
section
variable {α β : Type} {a b d o z : D} {h : IH} {e : Lc} {f g k : SE} {F G : D → D → IH → R D} {u v : ST} {s t : SS} {i j m n c : Nat} {as gs : SA} {ds zs : List D} {Fn : List D → IH → R D} {Fm : D → List D → IH → R D} {ty : D → IH → Bool} {T U : Ty} {fl : List Str} {ix vs : List Nat} {tg : Tg} {lo hi : SO} {src : Src} {x : Str} {cc : Nat} {fs : List (Str × D)} {isx : Nat → Option Bool} {q : Bool} {l w : Option Int} {y : Int} {aa : α} {p : List D × (IH → Prop)}
@[simp] theorem aCons_s : aCons f as e h = (f e h).co1 as e := id rfl
@[simp] theorem eTup_s : eTup as e h = (as e h).tup := id rfl
@[simp] theorem eLst_s : eLst as e h = (as e h).lst := id rfl
@[simp] theorem eOp_s : eOp F f g e h = (f e h).op1 F g e := id rfl
@[simp] theorem tB_s : tB f e h = (f e h).tb := id rfl
@[simp] theorem eNeg_s : eNeg f e h = (f e h).neg := id rfl
@[simp] theorem tTr_s : tTr f e h = (f e h).tr := id rfl
@[simp] theorem tNo_s : tNo u e h = (u e h).no := id rfl
@[simp] theorem tAn_s : tAn u v e h = (u e h).an v e := id rfl
@[simp] theorem tOr_s : tOr' u v e h = (u e h).or v e := id rfl
@[simp] theorem eAn_s : eAn f g e h = (f e h).ean g e := id rfl
@[simp] theorem eOr_s : eOr f g e h = (f e h).eor g e := id rfl
@[simp] theorem eNot_s : eNot f e h = (f e h).ent := id rfl
@[simp] theorem eIf_s : eIf u f g e h = (u e h).eif f g e := id rfl
@[simp] theorem eCh_s : eCh F G f g k e h = (f e h).ch1 F G g k e := id rfl
@[simp] theorem oE_s : oE f e h = (f e h).oe := id rfl
@[simp] theorem eSl_s : eSl f lo hi e h = (f e h).sl1 lo hi e := id rfl
@[simp] theorem eB_s : eB Fn as e h = (as e h).call Fn := id rfl
@[simp] theorem eIsi_s : eIsi T f e h = (f e h).isi T := id rfl
@[simp] theorem eIsi2_s : eIsi2 T U f e h = (f e h).isi2 T U := id rfl
@[simp] theorem eMt_s : eMt ty Fm f as e h = (f e h).mt1 ty Fm as e := id rfl
@[simp] theorem sEx_s : sEx f e h = (f e h).sx e := id rfl
@[simp] theorem sRt_s : sRt f e h = (f e h).rtn e := id rfl
@[simp] theorem sIf_s : sIf u s t e h = (u e h).iff s t e := id rfl
@[simp] theorem sAs_s : sAs tg f e h = (f e h).asg tg e := id rfl
@[simp] theorem sPar_s : sPar i j as e h = (as e h).par i j e := id rfl
@[simp] theorem sPut_s : sPut f g k e h = (k e h).put1 f g e := id rfl
@[simp] theorem iE_s : iE f e h = (f e h).ie := id rfl
@[simp] theorem iR1_s : iR1 as e h = (as e h).ir1 := id rfl
@[simp] theorem iR2_s : iR2 as e h = (as e h).ir2 := id rfl
@[simp] theorem sFor_s : sFor tg src s e h = (src e h).lp tg s e := id rfl
@[simp] theorem eLc_s : eLc vs tg src u f e h = (src e h).lcp vs tg u f e := id rfl
@[simp] theorem eXr_s : eXr m x f e h = (f e h).xr m x := id rfl
@[simp] theorem eIsx_s : eIsx isx f e h = (f e h).isx isx := id rfl
@[simp] theorem eXn_s : eXn c n m fl ix as gs e h = (as e h).xn1 c n m fl ix gs e := id rfl
@[simp] theorem sXn_s : sXn c n m fl ix as gs e h = ((as e h).xs1 c n m fl ix gs e).bd e := id rfl
@[simp] theorem sRs_s : sRs c fl as e h = (as e h).rs c fl e := id rfl
@[simp] theorem k_co1 : (R.ok d h).co1 as e = (as e h).co2 d := id rfl
@[simp] theorem k_co2 : (R.ok ds h).co2 d = .ok (d :: ds) h := id rfl
@[simp] theorem k_tup : (R.ok ds h).tup = if ds.length ≤ sizeLine then .ok (.tup ds) h else .bad := id rfl
@[simp] theorem k_lst : (R.ok ds h).lst = if ds.length ≤ sizeLine then .ok (.ref h.length) (h ++ [.lst ds]) else .bad := id rfl
@[simp] theorem k_op1 : (R.ok a h).op1 F g e = (g e h).op2 F a := id rfl
@[simp] theorem k_op2 : (R.ok b h).op2 F a = F a b h := id rfl
@[simp] theorem k_tb : (R.ok (.bl q) h).tb = .ok q h := id rfl
@[simp] theorem k_neg : (R.ok (.int y) h).neg = .ok (.int (-y)) h := id rfl
@[simp] theorem k_tr : (R.ok d h).tr = trO (tru d h) h := id rfl
@[simp] theorem k_no : (R.ok q h).no = .ok (!q) h := id rfl
@[simp] theorem k_an : (R.ok q h).an v e = if q = true then v e h else .ok false h := id rfl
@[simp] theorem k_or : (R.ok q h).or v e = if q = true then .ok true h else v e h := id rfl
@[simp] theorem k_ean : (R.ok d h).ean g e = anO (tru d h) d g e h := id rfl
@[simp] theorem k_eor : (R.ok d h).eor g e = orO (tru d h) d g e h := id rfl
@[simp] theorem k_ent : (R.ok d h).ent = ntO (tru d h) h := id rfl
@[simp] theorem k_eif : (R.ok q h).eif f g e = if q = true then f e h else g e h := id rfl
@[simp] theorem k_ch1 : (R.ok a h).ch1 F G g k e = (g e h).ch2 F G k e a := id rfl
@[simp] theorem k_ch2 : (R.ok b h).ch2 F G k e a = (F a b h).ch3 G k e b := id rfl
@[simp] theorem k_ch3t : (R.ok (.bl true) h).ch3 G k e b = (k e h).ch4 G b := id rfl
@[simp] theorem k_ch3f : (R.ok (.bl false) h).ch3 G k e b = .ok (.bl false) h := id rfl
@[simp] theorem k_ch4 : (R.ok d h).ch4 G b = G b d h := id rfl
@[simp] theorem k_oe : (R.ok (.int y) h).oe = .ok (some y) h := id rfl
@[simp] theorem k_sl1 : (R.ok a h).sl1 lo hi e = (lo e h).sl2 hi e a := id rfl
@[simp] theorem k_sl2 : (R.ok l h).sl2 hi e a = (hi e h).sl3 a l := id rfl
@[simp] theorem k_sl3 : (R.ok w h).sl3 a l = fSl l w a h := id rfl
@[simp] theorem k_call : (R.ok ds h).call Fn = Fn ds h := id rfl
@[simp] theorem k_isi : (R.ok d h).isi T = isO (tyD d h) T h := id rfl
@[simp] theorem k_isi2 : (R.ok d h).isi2 T U = isO2 (tyD d h) T U h := id rfl
@[simp] theorem k_mt1 : (R.ok d h).mt1 ty Fm as e = if ty d h = true then (as e h).mt2 Fm d else .bad := id rfl
@[simp] theorem k_mt2 : (R.ok ds h).mt2 Fm d = Fm d ds h := id rfl
@[simp] theorem k_sx : (R.ok aa h).sx e = .nx e h := id rfl
@[simp] theorem k_rtn : (R.ok d h).rtn e = .rt d h := id rfl
@[simp] theorem k_iff : (R.ok q h).iff s t e = if q = true then s e h else t e h := id rfl
@[simp] theorem k_asg : (R.ok d h).asg tg e = asO (tgS tg d e) h := id rfl
@[simp] theorem k_par : (R.ok [a, b] h).par i j e = .nx ((e.set i (some a)).set j (some b)) h := id rfl
@[simp] theorem k_put1 : (R.ok d h).put1 f g e = (f e h).put2 g e d := id rfl
@[simp] theorem k_put2 : (R.ok o h).put2 g e d = (g e h).put3 e d o := id rfl
@[simp] theorem k_put3 : (R.ok z h).put3 e d o = ptO (fPut o z d h) e := id rfl
@[simp] theorem k_ie : (R.ok d h).ie = ieO (itS d h) h := id rfl
@[simp] theorem k_ir1 : (R.ok [.int y] h).ir1 = if -(2 ^ 62) ≤ y ∧ y < 2 ^ 62 then .ok (rgD 0 y.toNat, (fun _ => True : IH → Prop)) h else .bad := id rfl
@[simp] theorem k_lp : (R.ok p h).lp tg s e = forGo p.2 tg s p.1 e h := id rfl
@[simp] theorem k_lcp : (R.ok p h).lcp vs tg u f e = lcGo p.2 tg u f h.length (wipeD e vs) p.1 (h ++ [.lst []]) := id rfl
@[simp] theorem k_xr : (R.ok (.ref i) h).xr m x = xrO h[i]? m x h := id rfl
@[simp] theorem k_isx : (R.ok (.ref i) h).isx isx = ixO h[i]? isx h := id rfl
@[simp] theorem k_xn1 : (R.ok ds h).xn1 c n m fl ix gs e = (gs e h).xn2 c n m fl ix ds := id rfl
@[simp] theorem k_xn2 : (R.ok zs h).xn2 c n m fl ix ds = if ds.length = n ∧ zs.length = m ∧ (pick ix (ds ++ zs)).length = fl.length then .ok (.ref h.length) (h ++ [.exc c (fl.zip (pick ix (ds ++ zs))).reverse]) else .bad := id rfl
@[simp] theorem k_xs1 : (R.ok ds h).xs1 c n m fl ix gs e = (gs e h).xs2 c n m fl ix ds := id rfl
@[simp] theorem k_xs2 : (R.ok zs h).xs2 c n m fl ix ds = if ds.length = n ∧ zs.length = m ∧ (pick ix (ds ++ zs)).length = fl.length then R.ex c (fl.zip (pick ix (ds ++ zs))).reverse h else .bad := id rfl
@[simp] theorem k_rs : (R.ok ds h).rs c fl e = if ds.length = fl.length ∧ fl.length ≤ 1000 then .ex c (fl.zip ds).reverse e h else .bad := id rfl
@[simp] theorem x_co1 : (R.ex cc fs h).co1 as e = .ex cc fs h := id rfl
@[simp] theorem x_co2 : (R.ex cc fs h).co2 d = .ex cc fs h := id rfl
@[simp] theorem x_tup : (R.ex cc fs h).tup  = .ex cc fs h := id rfl
@[simp] theorem x_lst : (R.ex cc fs h).lst  = .ex cc fs h := id rfl
@[simp] theorem x_op1 : (R.ex cc fs h).op1 F g e = .ex cc fs h := id rfl
@[simp] theorem x_op2 : (R.ex cc fs h).op2 F a = .ex cc fs h := id rfl
@[simp] theorem x_tb : (R.ex cc fs h).tb  = .ex cc fs h := id rfl
@[simp] theorem x_tr : (R.ex cc fs h).tr  = .ex cc fs h := id rfl
@[simp] theorem x_call : (R.ex cc fs h).call Fn = .ex cc fs h := id rfl
@[simp] theorem x_no : (R.ex cc fs h).no  = .ex cc fs h := id rfl
@[simp] theorem x_an : (R.ex cc fs h).an v e = .ex cc fs h := id rfl
@[simp] theorem x_or : (R.ex cc fs h).or v e = .ex cc fs h := id rfl
@[simp] theorem x_mt1 : (R.ex cc fs h).mt1 ty Fm as e = .ex cc fs h := id rfl
@[simp] theorem x_mt2 : (R.ex cc fs h).mt2 Fm d = .ex cc fs h := id rfl
@[simp] theorem x_eif : (R.ex cc fs h).eif f g e = .ex cc fs h := id rfl
@[simp] theorem x_rtn : (R.ex cc fs h).rtn e = .ex cc fs e h := id rfl
@[simp] theorem x_iff : (R.ex cc fs h).iff s t e = .ex cc fs e h := id rfl
@[simp] theorem x_asg : (R.ex cc fs h).asg tg e = .ex cc fs e h := id rfl
@[simp] theorem x_par : (R.ex cc fs h).par i j e = .ex cc fs e h := id rfl
@[simp] theorem x_bd : (R.ex cc fs h).bd e = .ex cc fs e h := id rfl
@[simp] theorem x_rs : (R.ex cc fs h).rs c fl e = .ex cc fs e h := id rfl
@[simp] theorem x_lp : (R.ex cc fs h).lp tg s e = .ex cc fs e h := id rfl
@[simp] theorem x_put1 : (R.ex cc fs h).put1 f g e = .ex cc fs e h := id rfl
@[simp] theorem x_sx : (R.ex cc fs h : R α).sx e = .ex cc fs e h := id rfl
@[simp] theorem trO_s : trO (some q) h = .ok q h := id rfl
@[simp] theorem anO_t : anO (some true) d g e h = g e h := id rfl
@[simp] theorem anO_f : anO (some false) d g e h = .ok d h := id rfl
@[simp] theorem orO_t : orO (some true) d g e h = .ok d h := id rfl
@[simp] theorem orO_f : orO (some false) d g e h = g e h := id rfl
@[simp] theorem ntO_s : ntO (some q) h = .ok (.bl (!q)) h := id rfl
@[simp] theorem isO_s {t : Ty} : isO (some t) T h = .ok (.bl (isT t T)) h := id rfl
@[simp] theorem isO2_s {t : Ty} : isO2 (some t) T U h = .ok (.bl (isT t T || isT t U)) h := id rfl
@[simp] theorem asO_s {e1 : Lc} : asO (some e1) h = .nx e1 h := id rfl
@[simp] theorem ptO_s {h4 : IH} : ptO (some h4) e = .nx e h4 := id rfl
@[simp] theorem ieO_s : ieO (some p) h = .ok p h := id rfl
@[simp] theorem xfO_s : xfO (some d) h = .ok d h := id rfl
@[simp] theorem xrO_s : xrO (some (.exc c fs)) m x h = if c < m then xfO (fs.lookup x) h else .bad := id rfl
@[simp] theorem ixO_s : ixO (some (.exc c fs)) isx h = trD (isx c) h := id rfl
@[simp] theorem trD_s : trD (some q) h = .ok (.bl q) h := id rfl
end
/-! values -/
section
variable {h : IH} {neg : Bool} {i j : Int} {a b : Str} {p q : Bool}
@[simp] theorem fEq_int : fEq neg (.int i) (.int j) h = .ok (.bl (neg != decide (i = j))) h := id rfl
@[simp] theorem fEq_str : fEq neg (.str a) (.str b) h = .ok (.bl (neg != decide (a = b))) h := id rfl
@[simp] theorem fEq_bl : fEq neg (.bl p) (.bl q) h = .ok (.bl (neg != decide (p = q))) h := id rfl
@[simp] theorem fEq_non : fEq neg .non .non h = .ok (.bl (neg != true)) h := id rfl
@[simp] theorem fEq_ni : fEq neg .non (.int i) h = .ok (.bl neg) h := id rfl
@[simp] theorem fEq_in : fEq neg (.int i) .non h = .ok (.bl neg) h := id rfl
@[simp] theorem fEq_ns : fEq neg .non (.str a) h = .ok (.bl neg) h := id rfl
@[simp] theorem fEq_sn : fEq neg (.str a) .non h = .ok (.bl neg) h := id rfl
@[simp] theorem fLt_int : fLt (.int i) (.int j) h = .ok (.bl (decide (i < j))) h := id rfl
@[simp] theorem fLe_int : fLe (.int i) (.int j) h = .ok (.bl (decide (i ≤ j))) h := id rfl
@[simp] theorem fGt_int : fGt (.int i) (.int j) h = .ok (.bl (decide (i > j))) h := id rfl
@[simp] theorem fGe_int : fGe (.int i) (.int j) h = .ok (.bl (decide (i ≥ j))) h := id rfl
@[simp] theorem fAdd_int : fAdd (.int i) (.int j) h = .ok (.int (i + j)) h := id rfl
@[simp] theorem fSub_int : fSub (.int i) (.int j) h = .ok (.int (i - j)) h := id rfl
@[simp] theorem fMul_int : fMul (.int i) (.int j) h = if MulOk i j then .ok (.int (i * j)) h else .bad := id rfl
@[simp] theorem fMod_int : fMod (.int i) (.int j) h = if 0 < j then .ok (.int (i % j)) h else .bad := id rfl
@[simp] theorem fDiv_int : fDiv (.int i) (.int j) h = if 0 < j ∧ j < 1073741824 then .ok (.int (i / j)) h else .bad := id rfl
@[simp] theorem fPow_int : fPow (.int i) (.int j) h = if 0 ≤ j ∧ j ≤ 1000000 ∧ i.natAbs < 2 ^ 64 then .ok (.int (i ^ j.toNat)) h else .bad := id rfl
@[simp] theorem fIs_non {d : D} : fIs neg d .non h = .ok (.bl (neg != isN d)) h := by cases d <;> rfl
@[simp] theorem bInt_int : bInt [.int i] h = .ok (.int i) h := id rfl
@[simp] theorem bLen_tup {l : List D} : bLen [.tup l] h = .ok (.int l.length) h := id rfl
@[simp] theorem fIx_tup {l : List D} : fIx (.tup l) (.int i) h = match atI l i with
    | some d => .ok d h
    | none => .bad := id rfl
@[simp] theorem fIx_ref {n : Nat} : fIx (.ref n) (.int i) h = match h[n]? with
    | some (.lst l) => (match atI l i with
      | some d => .ok d h
      | none => .bad)
    | _ => .bad := id rfl
theorem atI_nat {α : Type} {l : List α} {n : Nat} : atI l (n : Int) = l[n]? := by
  unfold L2.atI L2.ixN
  by_cases hn : n < l.length
  · simp [hn]
  · simp [hn]
@[simp] theorem atI_0 {α : Type} {l : List α} : atI l 0 = l[0]? := atI_nat (n := 0)
@[simp] theorem atI_1 {α : Type} {l : List α} : atI l 1 = l[1]? := atI_nat (n := 1)
@[simp] theorem atI_2 {α : Type} {l : List α} : atI l 2 = l[2]? := atI_nat (n := 2)
@[simp] theorem atI_3 {α : Type} {l : List α} : atI l 3 = l[3]? := atI_nat (n := 3)
@[simp] theorem atI_4 {α : Type} {l : List α} : atI l 4 = l[4]? := atI_nat (n := 4)
@[simp] theorem atI_n {α : Type} {l : List α} {n : Nat} : atI l (n : Int) = l[n]? := atI_nat
@[simp] theorem sl_le {n : Nat} : (n ≤ sizeLine) = (n ≤ 16777216) := by rw [sizeLine_eq]
end
end Fl
/-! Fl, part 16: loops by an invariant. -/
namespace Fl
open PySem L2
section
variable {c : IH → Prop} {t : Tg} {b : SS} {ds : List D} {e : Lc} {h : IH}
theorem forGo_cons {d : D} {e1 : Lc} (hc : c h) (ht : tgS t d e = some e1) : forGo c t b (d :: ds) e h = match b e1 h with
    | .nx e2 h2 => forGo c t b ds e2 h2
    | .ct e2 h2 => forGo c t b ds e2 h2
    | .bk e2 h2 => .nx e2 h2
    | r => r := by
  rw [forGo, if_pos hc, ht]
  try rfl
theorem for_from (I : Nat → Lc → IH → Prop) (P : RS → Prop) (l : List D)
    (step : ∀ (i : Nat) (d : D) (e : Lc) (h : IH), l[i]? = some d → I i e h → c h ∧ ∃ e1, tgS t d e = some e1 ∧ ((∃ e2 h2, (b e1 h = .nx e2 h2 ∨ b e1 h = .ct e2 h2) ∧ I (i + 1) e2 h2) ∨ (∃ e2 h2, b e1 h = .bk e2 h2 ∧ P (.nx e2 h2)) ∨ (∃ d h2, b e1 h = .rt d h2 ∧ P (.rt d h2))))
    (fin : ∀ e h, I l.length e h → c h ∧ P (.nx e h)) : ∀ (ds : List D) (j : Nat) (e : Lc) (h : IH), l.drop j = ds → j ≤ l.length → I j e h → P (forGo c t b ds e h)
  | [], j, e, h, hd, hj, i0 => by
    have e1 : j = l.length := by
      have z := congrArg List.length hd
      simp at z
      omega
    subst e1
    obtain ⟨q, r⟩ := fin e h i0
    rw [forGo, if_pos q]
    exact r
  | d :: ds, j, e, h, hd, hj, i0 => by
    have hlt : j < l.length := by
      have z := congrArg List.length hd
      simp at z
      omega
    rw [List.drop_eq_getElem_cons hlt] at hd
    obtain ⟨h1, h2⟩ := List.cons.inj hd
    obtain ⟨q, e1, ht, s⟩ := step j d e h (by rw [List.getElem?_eq_getElem hlt, h1]) i0
    rw [forGo_cons q ht]
    rcases s with ⟨e2, h3, z, i1⟩ | ⟨e2, h3, z, p⟩ | ⟨d, h3, z, p⟩
    · rcases z with z | z
      · rw [z]
        exact for_from I P l step fin ds (j + 1) e2 h3 h2 hlt i1
      · rw [z]
        exact for_from I P l step fin ds (j + 1) e2 h3 h2 hlt i1
    · rw [z]
      exact p
    · rw [z]
      exact p
theorem for_run (I : Nat → Lc → IH → Prop) (P : RS → Prop)
    (step : ∀ (i : Nat) (d : D) (e : Lc) (h : IH), ds[i]? = some d → I i e h → c h ∧ ∃ e1, tgS t d e = some e1 ∧ ((∃ e2 h2, (b e1 h = .nx e2 h2 ∨ b e1 h = .ct e2 h2) ∧ I (i + 1) e2 h2) ∨ (∃ e2 h2, b e1 h = .bk e2 h2 ∧ P (.nx e2 h2)) ∨ (∃ d h2, b e1 h = .rt d h2 ∧ P (.rt d h2))))
    (fin : ∀ e h, I ds.length e h → c h ∧ P (.nx e h)) (i0 : I 0 e h) : P (forGo c t b ds e h) := for_from I P ds step fin ds 0 e h rfl (Nat.zero_le _) i0
/-- [f for t in ..], f a plain reading -/
theorem lc_from {h1 : IH} {f : SE} (l ys : List D) (hl : l.length = ys.length) (hc : ∀ acc, c (h1 ++ [.lst acc])) (small : ys.length ≤ sizeLine)
    (step : ∀ (i : Nat) (d y : D), l[i]? = some d → ys[i]? = some y → ∃ e1, tgS t d e = some e1 ∧ ∀ acc, f e1 (h1 ++ [.lst acc]) = .ok y (h1 ++ [.lst acc])) :
    ∀ (ds : List D) (j : Nat), l.drop j = ds → j ≤ l.length → lcGo c t tYe f h1.length e ds (h1 ++ [.lst (ys.take j)]) = .ok (.ref h1.length) (h1 ++ [.lst ys])
  | [], j, hd, hj => by
    have e1 : j = l.length := by
      have z := congrArg List.length hd
      simp at z
      omega
    rw [lcGo, if_pos (hc _), e1, hl, List.take_length]
  | d :: ds, j, hd, hj => by
    have hlt : j < l.length := by
      have z := congrArg List.length hd
      simp at z
      omega
    have hlt2 : j < ys.length := by omega
    rw [List.drop_eq_getElem_cons hlt] at hd
    obtain ⟨q1, q2⟩ := List.cons.inj hd
    obtain ⟨e1, ht, s⟩ := step j d ys[j] (by rw [List.getElem?_eq_getElem hlt, q1]) (List.getElem?_eq_getElem hlt2)
    have at1 : (h1 ++ [HB.lst (ys.take j)])[h1.length]? = some (.lst (ys.take j)) := by simp
    have sm : (ys.take j).length < sizeLine := by
      rw [List.length_take]
      omega
    have st : (h1 ++ [HB.lst (ys.take j)]).set h1.length (.lst (ys.take j ++ [ys[j]])) = h1 ++ [.lst (ys.take (j + 1))] := by
      rw [List.take_succ_eq_append_getElem hlt2]
      simp
    rw [lcGo, if_pos (hc _), ht]
    show (R.ok true (h1 ++ [HB.lst (ys.take j)])).bindN _ = _
    rw [bindN_ok, if_pos rfl, s, bindN_ok, at1]
    dsimp only
    rw [if_pos sm, st]
    exact lc_from l ys hl hc small step ds (j + 1) q2 hlt
theorem lc_map {h1 : IH} {f : SE} {ys : List D} (hl : ds.length = ys.length) (hc : ∀ acc, c (h1 ++ [.lst acc])) (small : ys.length ≤ sizeLine)
    (step : ∀ (i : Nat) (d y : D), ds[i]? = some d → ys[i]? = some y → ∃ e1, tgS t d e = some e1 ∧ ∀ acc, f e1 (h1 ++ [.lst acc]) = .ok y (h1 ++ [.lst acc])) :
    lcGo c t tYe f h1.length e ds (h1 ++ [.lst []]) = .ok (.ref h1.length) (h1 ++ [.lst ys]) := lc_from ds ys hl hc small step ds 0 rfl (Nat.zero_le _)
end
theorem rgD_len {lo : Int} {n : Nat} : (rgD lo n).length = n := by simp [rgD]
theorem rgD_get {lo : Int} {n i : Nat} {d : D} (h : (rgD lo n)[i]? = some d) : i < n ∧ d = .int (lo + i) := by
  unfold rgD at h
  rw [List.getElem?_map] at h
  by_cases hi : i < n
  · rw [List.getElem?_range hi] at h
    exact ⟨hi, (Option.some.inj h).symm⟩
  · rw [List.getElem?_eq_none (by simpa using hi)] at h
    cases h
end Fl
namespace K98
open PySem L2 Fl
def top (i : Nat) : Stmt := PySem.Challenge.pw_firstandlast_k98_errors.main.body.getD i (.Pass ⟨0, 0, 0, 0⟩)
abbrev NC : Nat := 14
/- classes: LastError: 0; DataError: 1; CallError: 2; TextError: 3; ShopError: 4; BadTree: 5; BadProgram: 6; BadNetwork: 7; BadWishes: 8; BadStep: 9; BadText: 10; BadCommand: 11; NoSuch: 12; Taken: 13 -/
/-- c is k or a class below it -/
def upC (c k : Nat) : Bool := match c with
  | 0 => [0].contains k
  | 1 => [1, 0].contains k
  | 2 => [2, 0].contains k
  | 3 => [3, 0].contains k
  | 4 => [4, 0].contains k
  | 5 => [5, 1, 0].contains k
  | 6 => [6, 1, 0].contains k
  | 7 => [7, 1, 0].contains k
  | 8 => [8, 1, 0].contains k
  | 9 => [9, 2, 0].contains k
  | 10 => [10, 3, 0].contains k
  | 11 => [11, 3, 0].contains k
  | 12 => [12, 4, 0].contains k
  | 13 => [13, 4, 0].contains k
  | _ => false
structure Txt (K : PySem.W.Frag) (mg : Str → Option Value) (cl ini : Nat → Addr) (ifd : Nat → FuncData) (fa : Nat → Addr) (ffd : Nat → FuncData) : Prop where
  f0 : DefT K mg "_law_sieve" (top 16) ["script"] (fa 0) (ffd 0)
  f1 : DefT K mg "_law_sift" (top 17) ["sieve", "many"] (fa 1) (ffd 1)
  f2 : DefT K mg "_law_same" (top 18) ["told", "due"] (fa 2) (ffd 2)
  f3 : DefT K mg "_law_value" (top 19) ["sieve"] (fa 3) (ffd 3)
  f4 : DefT K mg "_law_made" (top 20) ["which", "one", "other", "way"] (fa 4) (ffd 4)
  f5 : DefT K mg "_law_fields" (top 21) ["which", "error"] (fa 5) (ffd 5)
  f6 : DefT K mg "_law_raised" (top 22) ["which", "one", "other"] (fa 6) (ffd 6)
  f7 : DefT K mg "_law_family" (top 23) ["which", "one", "other"] (fa 7) (ffd 7)
  f8 : DefT K mg "_law_own" (top 24) ["which", "one", "other"] (fa 8) (ffd 8)
  f9 : DefT K mg "_law_ahead" (top 25) ["which", "one", "other"] (fa 9) (ffd 9)
  f10 : DefT K mg "_law_any" (top 26) ["which", "one", "other"] (fa 10) (ffd 10)
  f11 : DefT K mg "_law_kinds" (top 27) ["error"] (fa 11) (ffd 11)
  f12 : DefT K mg "_law_asked" (top 28) ["sieve", "which", "way"] (fa 12) (ffd 12)
  f13 : DefT K mg "_law_very" (top 29) ["sieve", "which"] (fa 13) (ffd 13)
  f14 : DefT K mg "law" (top 30) ["script"] (fa 14) (ffd 14)
  m_LastError : mg "LastError" = some (.ref (cl 0))
  m_DataError : mg "DataError" = some (.ref (cl 1))
  m_CallError : mg "CallError" = some (.ref (cl 2))
  m_TextError : mg "TextError" = some (.ref (cl 3))
  m_ShopError : mg "ShopError" = some (.ref (cl 4))
  m_BadTree : mg "BadTree" = some (.ref (cl 5))
  c_BadTree : ClsT K mg "BadTree" (cl 5) (ini 5)
  x_BadTree : Fun K "__init__" "BadTree.__init__" (inClass (top 6) 0) (ini 5) (ifd 5)
  xb_BadTree : Binds K (ifd 5) ["self", "word"] []
  m_BadProgram : mg "BadProgram" = some (.ref (cl 6))
  c_BadProgram : ClsT K mg "BadProgram" (cl 6) (ini 6)
  x_BadProgram : Fun K "__init__" "BadProgram.__init__" (inClass (top 7) 0) (ini 6) (ifd 6)
  xb_BadProgram : Binds K (ifd 6) ["self", "word", "name"] []
  m_BadNetwork : mg "BadNetwork" = some (.ref (cl 7))
  c_BadNetwork : ClsT K mg "BadNetwork" (cl 7) (ini 7)
  x_BadNetwork : Fun K "__init__" "BadNetwork.__init__" (inClass (top 8) 0) (ini 7) (ifd 7)
  xb_BadNetwork : Binds K (ifd 7) ["self", "at", "word"] []
  m_BadWishes : mg "BadWishes" = some (.ref (cl 8))
  c_BadWishes : ClsT K mg "BadWishes" (cl 8) (ini 8)
  x_BadWishes : Fun K "__init__" "BadWishes.__init__" (inClass (top 9) 0) (ini 8) (ifd 8)
  xb_BadWishes : Binds K (ifd 8) ["self", "at", "word"] []
  m_BadStep : mg "BadStep" = some (.ref (cl 9))
  c_BadStep : ClsT K mg "BadStep" (cl 9) (ini 9)
  x_BadStep : Fun K "__init__" "BadStep.__init__" (inClass (top 10) 0) (ini 9) (ifd 9)
  xb_BadStep : Binds K (ifd 9) ["self", "word"] []
  m_BadText : mg "BadText" = some (.ref (cl 10))
  c_BadText : ClsT K mg "BadText" (cl 10) (ini 10)
  x_BadText : Fun K "__init__" "BadText.__init__" (inClass (top 11) 0) (ini 10) (ifd 10)
  xb_BadText : Binds K (ifd 10) ["self", "line", "word"] []
  m_BadCommand : mg "BadCommand" = some (.ref (cl 11))
  c_BadCommand : ClsT K mg "BadCommand" (cl 11) (ini 11)
  x_BadCommand : Fun K "__init__" "BadCommand.__init__" (inClass (top 12) 0) (ini 11) (ifd 11)
  xb_BadCommand : Binds K (ifd 11) ["self", "line"] []
  m_NoSuch : mg "NoSuch" = some (.ref (cl 12))
  c_NoSuch : ClsT K mg "NoSuch" (cl 12) (ini 12)
  x_NoSuch : Fun K "__init__" "NoSuch.__init__" (inClass (top 13) 0) (ini 12) (ifd 12)
  xb_NoSuch : Binds K (ifd 12) ["self", "word", "name"] []
  m_Taken : mg "Taken" = some (.ref (cl 13))
  c_Taken : ClsT K mg "Taken" (cl 13) (ini 13)
  x_Taken : Fun K "__init__" "Taken.__init__" (inClass (top 14) 0) (ini 13) (ifd 13)
  xb_Taken : Binds K (ifd 13) ["self", "name"] []
  fam : FamT K cl NC upC
  isv : ∀ c b, (if c < NC then some true else none) = some b → ExcC K (cl c) ∧ PySem.W.kitOne K (.ref (cl c)) (.type "ValueError") = some b
  no_at : ∀ c, c < NC → PySem.W.findIn K (.ref (cl c)) "at" = some none
  no_line : ∀ c, c < NC → PySem.W.findIn K (.ref (cl c)) "line" = some none
  no_name : ∀ c, c < NC → PySem.W.findIn K (.ref (cl c)) "name" = some none
  no_word : ∀ c, c < NC → PySem.W.findIn K (.ref (cl c)) "word" = some none
  n_ValueError : mg "ValueError" = none
  n_bool : mg "bool" = none
  n_int : mg "int" = none
  n_isinstance : mg "isinstance" = none
  n_len : mg "len" = none
  n_list : mg "list" = none
  n_range : mg "range" = none
  n_str : mg "str" = none
  n_tuple : mg "tuple" = none
variable {P : Program} {w : World} {K : PySem.W.Frag} {mg : Str → Option Value} {base : Heap} {cl ini : Nat → Addr} {ifd ffd : Nat → FuncData} {fa : Nat → Addr}
theorem Txt.xat_at (T : Txt K mg cl ini ifd fa ffd) : ∀ c, c < NC → XfC K (cl c) ∧ PySem.W.findIn K (.ref (cl c)) "at" = some none := fun c hc => ⟨(T.fam.x c hc).x, T.no_at c hc⟩
theorem Txt.xat_line (T : Txt K mg cl ini ifd fa ffd) : ∀ c, c < NC → XfC K (cl c) ∧ PySem.W.findIn K (.ref (cl c)) "line" = some none := fun c hc => ⟨(T.fam.x c hc).x, T.no_line c hc⟩
theorem Txt.xat_name (T : Txt K mg cl ini ifd fa ffd) : ∀ c, c < NC → XfC K (cl c) ∧ PySem.W.findIn K (.ref (cl c)) "name" = some none := fun c hc => ⟨(T.fam.x c hc).x, T.no_name c hc⟩
theorem Txt.xat_word (T : Txt K mg cl ini ifd fa ffd) : ∀ c, c < NC → XfC K (cl c) ∧ PySem.W.findIn K (.ref (cl c)) "word" = some none := fun c hc => ⟨(T.fam.x c hc).x, T.no_word c hc⟩
theorem sx_BadTree : FnScope ["self", "word"] ["self", "word"] (defScope (inClass (top 6) 0)) := ⟨rfl, rfl, rfl, by decide +kernel, rfl, by decide +kernel, by decide +kernel⟩
theorem Txt.xo_BadTree (T : Txt K mg cl ini ifd fa ffd) : FnOk P w K mg base CX0 1 (ini 5) (ifd 5) ["self", "word"] (spX (cl 5) ["word"]) :=
  ok_x1 T.x_BadTree sx_BadTree T.c_BadTree.T.T (T.no_word 5 (by decide)) fun cdv A outer z H E => by
    exact (pss_one (ps_ost (pv 0) (pv 1)))
theorem sx_BadProgram : FnScope ["self", "word", "name"] ["self", "word", "name"] (defScope (inClass (top 7) 0)) := ⟨rfl, rfl, rfl, by decide +kernel, rfl, by decide +kernel, by decide +kernel⟩
theorem Txt.xo_BadProgram (T : Txt K mg cl ini ifd fa ffd) : FnOk P w K mg base CX0 1 (ini 6) (ifd 6) ["self", "word", "name"] (spX (cl 6) ["word", "name"]) :=
  ok_x2 T.x_BadProgram sx_BadProgram T.c_BadProgram.T.T (T.no_word 6 (by decide)) (T.no_name 6 (by decide)) fun cdv A outer z H E => by
    exact (pss_cons (ps_ost (pv 0) (pv 1)) (pss_one (ps_ost (pv 0) (pv 2))))
theorem sx_BadNetwork : FnScope ["self", "at", "word"] ["self", "at", "word"] (defScope (inClass (top 8) 0)) := ⟨rfl, rfl, rfl, by decide +kernel, rfl, by decide +kernel, by decide +kernel⟩
theorem Txt.xo_BadNetwork (T : Txt K mg cl ini ifd fa ffd) : FnOk P w K mg base CX0 1 (ini 7) (ifd 7) ["self", "at", "word"] (spX (cl 7) ["at", "word"]) :=
  ok_x2 T.x_BadNetwork sx_BadNetwork T.c_BadNetwork.T.T (T.no_at 7 (by decide)) (T.no_word 7 (by decide)) fun cdv A outer z H E => by
    exact (pss_cons (ps_ost (pv 0) (pv 1)) (pss_one (ps_ost (pv 0) (pv 2))))
theorem sx_BadWishes : FnScope ["self", "at", "word"] ["self", "at", "word"] (defScope (inClass (top 9) 0)) := ⟨rfl, rfl, rfl, by decide +kernel, rfl, by decide +kernel, by decide +kernel⟩
theorem Txt.xo_BadWishes (T : Txt K mg cl ini ifd fa ffd) : FnOk P w K mg base CX0 1 (ini 8) (ifd 8) ["self", "at", "word"] (spX (cl 8) ["at", "word"]) :=
  ok_x2 T.x_BadWishes sx_BadWishes T.c_BadWishes.T.T (T.no_at 8 (by decide)) (T.no_word 8 (by decide)) fun cdv A outer z H E => by
    exact (pss_cons (ps_ost (pv 0) (pv 1)) (pss_one (ps_ost (pv 0) (pv 2))))
theorem sx_BadStep : FnScope ["self", "word"] ["self", "word"] (defScope (inClass (top 10) 0)) := ⟨rfl, rfl, rfl, by decide +kernel, rfl, by decide +kernel, by decide +kernel⟩
theorem Txt.xo_BadStep (T : Txt K mg cl ini ifd fa ffd) : FnOk P w K mg base CX0 1 (ini 9) (ifd 9) ["self", "word"] (spX (cl 9) ["word"]) :=
  ok_x1 T.x_BadStep sx_BadStep T.c_BadStep.T.T (T.no_word 9 (by decide)) fun cdv A outer z H E => by
    exact (pss_one (ps_ost (pv 0) (pv 1)))
theorem sx_BadText : FnScope ["self", "line", "word"] ["self", "line", "word"] (defScope (inClass (top 11) 0)) := ⟨rfl, rfl, rfl, by decide +kernel, rfl, by decide +kernel, by decide +kernel⟩
theorem Txt.xo_BadText (T : Txt K mg cl ini ifd fa ffd) : FnOk P w K mg base CX0 1 (ini 10) (ifd 10) ["self", "line", "word"] (spX (cl 10) ["line", "word"]) :=
  ok_x2 T.x_BadText sx_BadText T.c_BadText.T.T (T.no_line 10 (by decide)) (T.no_word 10 (by decide)) fun cdv A outer z H E => by
    exact (pss_cons (ps_ost (pv 0) (pv 1)) (pss_one (ps_ost (pv 0) (pv 2))))
theorem sx_BadCommand : FnScope ["self", "line"] ["self", "line"] (defScope (inClass (top 12) 0)) := ⟨rfl, rfl, rfl, by decide +kernel, rfl, by decide +kernel, by decide +kernel⟩
theorem Txt.xo_BadCommand (T : Txt K mg cl ini ifd fa ffd) : FnOk P w K mg base CX0 1 (ini 11) (ifd 11) ["self", "line"] (spX (cl 11) ["line"]) :=
  ok_x1 T.x_BadCommand sx_BadCommand T.c_BadCommand.T.T (T.no_line 11 (by decide)) fun cdv A outer z H E => by
    exact (pss_one (ps_ost (pv 0) (pv 1)))
theorem sx_NoSuch : FnScope ["self", "word", "name"] ["self", "word", "name"] (defScope (inClass (top 13) 0)) := ⟨rfl, rfl, rfl, by decide +kernel, rfl, by decide +kernel, by decide +kernel⟩
theorem Txt.xo_NoSuch (T : Txt K mg cl ini ifd fa ffd) : FnOk P w K mg base CX0 1 (ini 12) (ifd 12) ["self", "word", "name"] (spX (cl 12) ["word", "name"]) :=
  ok_x2 T.x_NoSuch sx_NoSuch T.c_NoSuch.T.T (T.no_word 12 (by decide)) (T.no_name 12 (by decide)) fun cdv A outer z H E => by
    exact (pss_cons (ps_ost (pv 0) (pv 1)) (pss_one (ps_ost (pv 0) (pv 2))))
theorem sx_Taken : FnScope ["self", "name"] ["self", "name"] (defScope (inClass (top 14) 0)) := ⟨rfl, rfl, rfl, by decide +kernel, rfl, by decide +kernel, by decide +kernel⟩
theorem Txt.xo_Taken (T : Txt K mg cl ini ifd fa ffd) : FnOk P w K mg base CX0 1 (ini 13) (ifd 13) ["self", "name"] (spX (cl 13) ["name"]) :=
  ok_x1 T.x_Taken sx_Taken T.c_Taken.T.T (T.no_name 13 (by decide)) fun cdv A outer z H E => by
    exact (pss_one (ps_ost (pv 0) (pv 1)))
theorem Txt.kb0 (T : Txt K mg cl ini ifd fa ffd) : KBn K (ifd 5) ["self", "word"] (1 + 1) [] (gP [0]) (gP [0]) :=
  kbx T.x_BadTree fun _ _ _ _ _ _ us ws l1 l2 => match us, l1, ws, l2 with | [_, _], _, [], _ => rfl
theorem Txt.kb1 (T : Txt K mg cl ini ifd fa ffd) : KBn K (ifd 5) ["self", "word"] (0 + 1) ["word"] (gP [0]) (gP [0]) :=
  kbx T.x_BadTree fun _ _ _ _ _ _ us ws l1 l2 => match us, l1, ws, l2 with | [_], _, [_], _ => rfl
theorem Txt.kb2 (T : Txt K mg cl ini ifd fa ffd) : KBn K (ifd 6) ["self", "word", "name"] (0 + 1) ["name", "word"] (gP [1, 0]) (gP [1, 0]) :=
  kbx T.x_BadProgram fun _ _ _ _ _ _ us ws l1 l2 => match us, l1, ws, l2 with | [_], _, [_, _], _ => rfl
theorem Txt.kb3 (T : Txt K mg cl ini ifd fa ffd) : KBn K (ifd 6) ["self", "word", "name"] (0 + 1) ["word", "name"] (gP [0, 1]) (gP [0, 1]) :=
  kbx T.x_BadProgram fun _ _ _ _ _ _ us ws l1 l2 => match us, l1, ws, l2 with | [_], _, [_, _], _ => rfl
theorem Txt.kb4 (T : Txt K mg cl ini ifd fa ffd) : KBn K (ifd 6) ["self", "word", "name"] (2 + 1) [] (gP [0, 1]) (gP [0, 1]) :=
  kbx T.x_BadProgram fun _ _ _ _ _ _ us ws l1 l2 => match us, l1, ws, l2 with | [_, _, _], _, [], _ => rfl
theorem Txt.kb5 (T : Txt K mg cl ini ifd fa ffd) : KBn K (ifd 7) ["self", "at", "word"] (0 + 1) ["word", "at"] (gP [1, 0]) (gP [1, 0]) :=
  kbx T.x_BadNetwork fun _ _ _ _ _ _ us ws l1 l2 => match us, l1, ws, l2 with | [_], _, [_, _], _ => rfl
theorem Txt.kb6 (T : Txt K mg cl ini ifd fa ffd) : KBn K (ifd 7) ["self", "at", "word"] (0 + 1) ["at", "word"] (gP [0, 1]) (gP [0, 1]) :=
  kbx T.x_BadNetwork fun _ _ _ _ _ _ us ws l1 l2 => match us, l1, ws, l2 with | [_], _, [_, _], _ => rfl
theorem Txt.kb7 (T : Txt K mg cl ini ifd fa ffd) : KBn K (ifd 7) ["self", "at", "word"] (2 + 1) [] (gP [0, 1]) (gP [0, 1]) :=
  kbx T.x_BadNetwork fun _ _ _ _ _ _ us ws l1 l2 => match us, l1, ws, l2 with | [_, _, _], _, [], _ => rfl
theorem Txt.kb8 (T : Txt K mg cl ini ifd fa ffd) : KBn K (ifd 8) ["self", "at", "word"] (0 + 1) ["word", "at"] (gP [1, 0]) (gP [1, 0]) :=
  kbx T.x_BadWishes fun _ _ _ _ _ _ us ws l1 l2 => match us, l1, ws, l2 with | [_], _, [_, _], _ => rfl
theorem Txt.kb9 (T : Txt K mg cl ini ifd fa ffd) : KBn K (ifd 8) ["self", "at", "word"] (0 + 1) ["at", "word"] (gP [0, 1]) (gP [0, 1]) :=
  kbx T.x_BadWishes fun _ _ _ _ _ _ us ws l1 l2 => match us, l1, ws, l2 with | [_], _, [_, _], _ => rfl
theorem Txt.kb10 (T : Txt K mg cl ini ifd fa ffd) : KBn K (ifd 8) ["self", "at", "word"] (2 + 1) [] (gP [0, 1]) (gP [0, 1]) :=
  kbx T.x_BadWishes fun _ _ _ _ _ _ us ws l1 l2 => match us, l1, ws, l2 with | [_, _, _], _, [], _ => rfl
theorem Txt.kb11 (T : Txt K mg cl ini ifd fa ffd) : KBn K (ifd 9) ["self", "word"] (1 + 1) [] (gP [0]) (gP [0]) :=
  kbx T.x_BadStep fun _ _ _ _ _ _ us ws l1 l2 => match us, l1, ws, l2 with | [_, _], _, [], _ => rfl
theorem Txt.kb12 (T : Txt K mg cl ini ifd fa ffd) : KBn K (ifd 9) ["self", "word"] (0 + 1) ["word"] (gP [0]) (gP [0]) :=
  kbx T.x_BadStep fun _ _ _ _ _ _ us ws l1 l2 => match us, l1, ws, l2 with | [_], _, [_], _ => rfl
theorem Txt.kb13 (T : Txt K mg cl ini ifd fa ffd) : KBn K (ifd 10) ["self", "line", "word"] (0 + 1) ["word", "line"] (gP [1, 0]) (gP [1, 0]) :=
  kbx T.x_BadText fun _ _ _ _ _ _ us ws l1 l2 => match us, l1, ws, l2 with | [_], _, [_, _], _ => rfl
theorem Txt.kb14 (T : Txt K mg cl ini ifd fa ffd) : KBn K (ifd 10) ["self", "line", "word"] (0 + 1) ["line", "word"] (gP [0, 1]) (gP [0, 1]) :=
  kbx T.x_BadText fun _ _ _ _ _ _ us ws l1 l2 => match us, l1, ws, l2 with | [_], _, [_, _], _ => rfl
theorem Txt.kb15 (T : Txt K mg cl ini ifd fa ffd) : KBn K (ifd 10) ["self", "line", "word"] (2 + 1) [] (gP [0, 1]) (gP [0, 1]) :=
  kbx T.x_BadText fun _ _ _ _ _ _ us ws l1 l2 => match us, l1, ws, l2 with | [_, _, _], _, [], _ => rfl
theorem Txt.kb16 (T : Txt K mg cl ini ifd fa ffd) : KBn K (ifd 11) ["self", "line"] (1 + 1) [] (gP [0]) (gP [0]) :=
  kbx T.x_BadCommand fun _ _ _ _ _ _ us ws l1 l2 => match us, l1, ws, l2 with | [_, _], _, [], _ => rfl
theorem Txt.kb17 (T : Txt K mg cl ini ifd fa ffd) : KBn K (ifd 11) ["self", "line"] (0 + 1) ["line"] (gP [0]) (gP [0]) :=
  kbx T.x_BadCommand fun _ _ _ _ _ _ us ws l1 l2 => match us, l1, ws, l2 with | [_], _, [_], _ => rfl
theorem Txt.kb18 (T : Txt K mg cl ini ifd fa ffd) : KBn K (ifd 12) ["self", "word", "name"] (0 + 1) ["name", "word"] (gP [1, 0]) (gP [1, 0]) :=
  kbx T.x_NoSuch fun _ _ _ _ _ _ us ws l1 l2 => match us, l1, ws, l2 with | [_], _, [_, _], _ => rfl
theorem Txt.kb19 (T : Txt K mg cl ini ifd fa ffd) : KBn K (ifd 12) ["self", "word", "name"] (0 + 1) ["word", "name"] (gP [0, 1]) (gP [0, 1]) :=
  kbx T.x_NoSuch fun _ _ _ _ _ _ us ws l1 l2 => match us, l1, ws, l2 with | [_], _, [_, _], _ => rfl
theorem Txt.kb20 (T : Txt K mg cl ini ifd fa ffd) : KBn K (ifd 12) ["self", "word", "name"] (2 + 1) [] (gP [0, 1]) (gP [0, 1]) :=
  kbx T.x_NoSuch fun _ _ _ _ _ _ us ws l1 l2 => match us, l1, ws, l2 with | [_, _, _], _, [], _ => rfl
theorem Txt.kb21 (T : Txt K mg cl ini ifd fa ffd) : KBn K (ifd 13) ["self", "name"] (1 + 1) [] (gP [0]) (gP [0]) :=
  kbx T.x_Taken fun _ _ _ _ _ _ us ws l1 l2 => match us, l1, ws, l2 with | [_, _], _, [], _ => rfl
theorem Txt.kb22 (T : Txt K mg cl ini ifd fa ffd) : KBn K (ifd 13) ["self", "name"] (0 + 1) ["name"] (gP [0]) (gP [0]) :=
  kbx T.x_Taken fun _ _ _ _ _ _ us ws l1 l2 => match us, l1, ws, l2 with | [_], _, [_], _ => rfl
theorem Txt.kb23 (T : Txt K mg cl ini ifd fa ffd) : KBn K (ifd 8) ["self", "at", "word"] (1 + 1) ["word"] (gP [0, 1]) (gP [0, 1]) :=
  kbx T.x_BadWishes fun _ _ _ _ _ _ us ws l1 l2 => match us, l1, ws, l2 with | [_, _], _, [_], _ => rfl
noncomputable def S_law_sieve : SS :=
  (sSeq (sPar 1 2 (aCons (eLst aNil) (aCons (eC (.int 22098)) aNil)))
  (sSeq (sFor (.n 3) (iE (eSl (eV 0) oN (oE (eC (.int 55))))) (sSeq (sAs (.n 4) (eOp fMod (eB bInt (aCons (eV 3) aNil)) (eOp fPow (eC (.int 10)) (eC (.int 46)))))
  (sSeq (sAs (.n 2) (eOp fMod (eOp fAdd (eOp fAdd (eOp fMul (eV 2) (eC (.int 181))) (eOp fMod (eV 4) (eC (.int 999613)))) (eC (.int 41))) (eC (.int 10299991))))
  (sFor (.n 5) (iR1 (aCons (eC (.int 16)) aNil)) (sSeq (sEx (eMt isLst mAppend (eV 1) (aCons (eOp fMod (eV 4) (eC (.int 953))) aNil)))
  (sSeq (sAs (.n 4) (eOp fDiv (eV 4) (eC (.int 953))))
  (sIf (tB (eOp (fEq false) (eV 4) (eC (.int 0)))) sBk sNx)))))))
  (sRt (eLst (aCons (eOr (eV 1) (eLst (aCons (eC (.int 1)) aNil))) (aCons (eV 2) (aCons (eC (.int 0)) aNil)))))))
noncomputable def F_law_sieve : List D → IH → R D := fnR 1 6 S_law_sieve
noncomputable def S_law_sift : SS :=
  (sSeq (sAs (.n 2) (eOp fIx (eV 0) (eC (.int 2))))
  (sSeq (sPut (eV 0) (eC (.int 2)) (eOp fAdd (eV 2) (eC (.int 1))))
  (sSeq (sAs (.n 3) (eOp fMod (eB bInt (aCons (eOp fMul (eOp fAdd (eOp fIx (eV 0) (eC (.int 1))) (eOp fMul (eV 2) (eC (.int 1913)))) (eOp fAdd (eOp fMul (eV 2) (eC (.int 23))) (eC (.int 3001)))) aNil)) (eC (.int 10299991))))
  (sRt (eOp fMod (eB bInt (aCons (eOp fAdd (eOp fIx (eOp fIx (eV 0) (eC (.int 0))) (eOp fMod (eB bInt (aCons (eV 2) aNil)) (eB bLen (aCons (eOp fIx (eV 0) (eC (.int 0))) aNil)))) (eOp fDiv (eV 3) (eC (.int 19)))) aNil)) (eV 1))))))
noncomputable def F_law_sift : List D → IH → R D := fnR 2 4 S_law_sift
noncomputable def S_law_same : SS :=
  (sSeq (sAs (.n 2) (eLst (aCons (eTup (aCons (eV 0) (aCons (eV 1) aNil))) aNil)))
  (sSeq (sFor (.n 3) (iR1 (aCons (eC (.int 3000)) aNil)) (sSeq (sIf (tB (eOp (fEq false) (eV 2) (eLst aNil))) (sRt (eC (.bl true))) sNx)
  (sSeq (sAs (.t [4, 5]) (eMt isLst mPop (eV 2) aNil))
  (sIf (tTr (eIsi2 .tuple .list (eV 5))) (sSeq (sIf (tOr' (tB (eOp (fEq true) (eIsi .list (eV 4)) (eIsi .list (eV 5)))) (tOr' (tB (eOp (fEq true) (eIsi .tuple (eV 4)) (eIsi .tuple (eV 5)))) (tB (eOp (fEq true) (eB bLen (aCons (eV 4) aNil)) (eB bLen (aCons (eV 5) aNil)))))) (sRt (eC (.bl false))) sNx)
  (sEx (eMt isLst mExtend (eV 2) (aCons (eLc [6] (.n 6) (iR1 (aCons (eB bLen (aCons (eV 5) aNil)) aNil)) tYe (eTup (aCons (eOp fIx (eV 4) (eV 6)) (aCons (eOp fIx (eV 5) (eV 6)) aNil)))) aNil)))) (sIf (tOr' (tB (eOp (fIs false) (eV 5) (eC .non))) (tTr (eIsi .bool (eV 5)))) (sIf (tOr' (tB (eOp (fEq true) (eOp (fIs false) (eV 4) (eC .non)) (eOp (fIs false) (eV 5) (eC .non)))) (tOr' (tB (eOp (fEq true) (eIsi .bool (eV 4)) (eIsi .bool (eV 5)))) (tB (eOp (fEq true) (eV 4) (eV 5))))) (sRt (eC (.bl false))) sNx) (sIf (tTr (eIsi .str (eV 5))) (sIf (tOr' (tNo (tTr (eIsi .str (eV 4)))) (tB (eOp (fEq true) (eV 4) (eV 5)))) (sRt (eC (.bl false))) sNx) (sIf (tOr' (tNo (tTr (eIsi .int (eV 4)))) (tOr' (tTr (eIsi .bool (eV 4))) (tB (eOp (fEq true) (eV 4) (eV 5))))) (sRt (eC (.bl false))) sNx)))))))
  (sRt (eC (.bl false)))))
noncomputable def F_law_same : List D → IH → R D := fnR 2 7 S_law_same
noncomputable def S_law_value : SS :=
  (sSeq (sAs (.n 1) (eB F_law_sift (aCons (eV 0) (aCons (eC (.int 9)) aNil))))
  (sSeq (sIf (tB (eOp (fEq false) (eV 1) (eC (.int 0)))) (sRt (eOp fSub (eB F_law_sift (aCons (eV 0) (aCons (eC (.int 1000)) aNil))) (eC (.int 7)))) sNx)
  (sSeq (sIf (tB (eOp (fEq false) (eV 1) (eC (.int 1)))) (sRt (eOp fIx (eTup (aCons (eC .non) (aCons (eC (.bl true)) (aCons (eC (.bl false)) (aCons (eC (.int 0)) (aCons (eOp fPow (eC (.int 10)) (eC (.int 50))) (aCons (eNeg (eC (.int 1))) aNil))))))) (eB F_law_sift (aCons (eV 0) (aCons (eC (.int 6)) aNil))))) sNx)
  (sSeq (sIf (tB (eOp fLt (eV 1) (eC (.int 5)))) (sRt (eOp fIx (eTup (aCons (eC (.str "")) (aCons (eC (.str "word")) (aCons (eC (.str "name")) (aCons (eC (.str "a b")) (aCons (eC (.str "gone")) (aCons (eC (.str "2")) (aCons (eC (.str "first")) aNil)))))))) (eB F_law_sift (aCons (eV 0) (aCons (eC (.int 7)) aNil))))) sNx)
  (sSeq (sIf (tB (eOp (fEq false) (eV 1) (eC (.int 5)))) (sRt (eTup (aCons (eB F_law_sift (aCons (eV 0) (aCons (eC (.int 9)) aNil))) (aCons (eTup (aCons (eC (.str "x")) (aCons (eC .non) aNil))) (aCons (eTup aNil) aNil))))) sNx)
  (sSeq (sIf (tB (eOp (fEq false) (eV 1) (eC (.int 6)))) (sRt (eLst (aCons (eB F_law_sift (aCons (eV 0) (aCons (eC (.int 9)) aNil))) (aCons (eLst (aCons (eC (.bl true)) aNil)) (aCons (eC (.str "y")) aNil))))) sNx)
  (sRt (eOp fIx (eTup (aCons (eTup aNil) (aCons (eLst aNil) (aCons (eTup (aCons (eTup (aCons (eC (.int 1)) (aCons (eC (.int 2)) aNil))) (aCons (eLst (aCons (eC (.int 3)) aNil)) aNil))) (aCons (eC (.str "-1")) aNil))))) (eB F_law_sift (aCons (eV 0) (aCons (eC (.int 4)) aNil)))))))))))
noncomputable def F_law_value : List D → IH → R D := fnR 1 2 S_law_value
noncomputable def S_law_made : SS :=
  (sSeq (sIf (tB (eOp (fEq false) (eV 0) (eC (.int 0)))) (sRt (eIf (tB (eOp (fEq false) (eV 3) (eC (.int 0)))) (eXn 5 1 0 ["word"] [0] (aCons (eV 1) aNil) aNil) (eXn 5 0 1 ["word"] [0] aNil (aCons (eV 1) aNil)))) sNx)
  (sSeq (sIf (tB (eOp (fEq false) (eV 0) (eC (.int 1)))) (sRt (eOp fIx (eTup (aCons (eXn 6 2 0 ["word", "name"] [0, 1] (aCons (eV 1) (aCons (eV 2) aNil)) aNil) (aCons (eXn 6 0 2 ["word", "name"] [0, 1] aNil (aCons (eV 1) (aCons (eV 2) aNil))) (aCons (eXn 6 0 2 ["word", "name"] [1, 0] aNil (aCons (eV 2) (aCons (eV 1) aNil))) aNil)))) (eV 3))) sNx)
  (sSeq (sIf (tB (eOp (fEq false) (eV 0) (eC (.int 2)))) (sRt (eOp fIx (eTup (aCons (eXn 7 2 0 ["at", "word"] [0, 1] (aCons (eV 1) (aCons (eV 2) aNil)) aNil) (aCons (eXn 7 0 2 ["at", "word"] [0, 1] aNil (aCons (eV 1) (aCons (eV 2) aNil))) (aCons (eXn 7 0 2 ["at", "word"] [1, 0] aNil (aCons (eV 2) (aCons (eV 1) aNil))) aNil)))) (eV 3))) sNx)
  (sSeq (sIf (tB (eOp (fEq false) (eV 0) (eC (.int 3)))) (sRt (eOp fIx (eTup (aCons (eXn 8 2 0 ["at", "word"] [0, 1] (aCons (eV 1) (aCons (eV 2) aNil)) aNil) (aCons (eXn 8 0 2 ["at", "word"] [0, 1] aNil (aCons (eV 1) (aCons (eV 2) aNil))) (aCons (eXn 8 0 2 ["at", "word"] [1, 0] aNil (aCons (eV 2) (aCons (eV 1) aNil))) aNil)))) (eV 3))) sNx)
  (sSeq (sIf (tB (eOp (fEq false) (eV 0) (eC (.int 4)))) (sRt (eIf (tB (eOp (fEq false) (eV 3) (eC (.int 0)))) (eXn 9 1 0 ["word"] [0] (aCons (eV 1) aNil) aNil) (eXn 9 0 1 ["word"] [0] aNil (aCons (eV 1) aNil)))) sNx)
  (sSeq (sIf (tB (eOp (fEq false) (eV 0) (eC (.int 5)))) (sRt (eOp fIx (eTup (aCons (eXn 10 2 0 ["line", "word"] [0, 1] (aCons (eV 1) (aCons (eV 2) aNil)) aNil) (aCons (eXn 10 0 2 ["line", "word"] [0, 1] aNil (aCons (eV 1) (aCons (eV 2) aNil))) (aCons (eXn 10 0 2 ["line", "word"] [1, 0] aNil (aCons (eV 2) (aCons (eV 1) aNil))) aNil)))) (eV 3))) sNx)
  (sSeq (sIf (tB (eOp (fEq false) (eV 0) (eC (.int 6)))) (sRt (eIf (tB (eOp (fEq false) (eV 3) (eC (.int 0)))) (eXn 11 1 0 ["line"] [0] (aCons (eV 1) aNil) aNil) (eXn 11 0 1 ["line"] [0] aNil (aCons (eV 1) aNil)))) sNx)
  (sSeq (sIf (tB (eOp (fEq false) (eV 0) (eC (.int 7)))) (sRt (eOp fIx (eTup (aCons (eXn 12 2 0 ["word", "name"] [0, 1] (aCons (eV 1) (aCons (eV 2) aNil)) aNil) (aCons (eXn 12 0 2 ["word", "name"] [0, 1] aNil (aCons (eV 1) (aCons (eV 2) aNil))) (aCons (eXn 12 0 2 ["word", "name"] [1, 0] aNil (aCons (eV 2) (aCons (eV 1) aNil))) aNil)))) (eV 3))) sNx)
  (sRt (eIf (tB (eOp (fEq false) (eV 3) (eC (.int 0)))) (eXn 13 1 0 ["name"] [0] (aCons (eV 1) aNil) aNil) (eXn 13 0 1 ["name"] [0] aNil (aCons (eV 1) aNil))))))))))))
noncomputable def F_law_made : List D → IH → R D := fnR 4 4 S_law_made
noncomputable def S_law_fields : SS :=
  (sSeq (sIf (tOr' (tB (eOp (fEq false) (eV 0) (eC (.int 0)))) (tB (eOp (fEq false) (eV 0) (eC (.int 4))))) (sRt (eTup (aCons (eXr NC "word" (eV 1)) aNil))) sNx)
  (sSeq (sIf (tOr' (tB (eOp (fEq false) (eV 0) (eC (.int 1)))) (tB (eOp (fEq false) (eV 0) (eC (.int 7))))) (sRt (eTup (aCons (eXr NC "word" (eV 1)) (aCons (eXr NC "name" (eV 1)) aNil)))) sNx)
  (sSeq (sIf (tOr' (tB (eOp (fEq false) (eV 0) (eC (.int 2)))) (tB (eOp (fEq false) (eV 0) (eC (.int 3))))) (sRt (eTup (aCons (eXr NC "at" (eV 1)) (aCons (eXr NC "word" (eV 1)) aNil)))) sNx)
  (sSeq (sIf (tB (eOp (fEq false) (eV 0) (eC (.int 5)))) (sRt (eTup (aCons (eXr NC "line" (eV 1)) (aCons (eXr NC "word" (eV 1)) aNil)))) sNx)
  (sRt (eIf (tB (eOp (fEq false) (eV 0) (eC (.int 6)))) (eTup (aCons (eXr NC "line" (eV 1)) aNil)) (eTup (aCons (eXr NC "name" (eV 1)) aNil))))))))
noncomputable def F_law_fields : List D → IH → R D := fnR 2 2 S_law_fields
noncomputable def S_law_raised : SS :=
  (sSeq (sIf (tB (eOp (fEq false) (eV 0) (eC (.int 0)))) (sRs 5 ["word"] (aCons (eV 1) aNil)) sNx)
  (sSeq (sIf (tB (eOp (fEq false) (eV 0) (eC (.int 1)))) (sRs 6 ["word", "name"] (aCons (eV 1) (aCons (eV 2) aNil))) sNx)
  (sSeq (sIf (tB (eOp (fEq false) (eV 0) (eC (.int 2)))) (sXn 7 0 2 ["at", "word"] [0, 1] aNil (aCons (eV 1) (aCons (eV 2) aNil))) sNx)
  (sSeq (sIf (tB (eOp (fEq false) (eV 0) (eC (.int 3)))) (sXn 8 1 1 ["at", "word"] [0, 1] (aCons (eV 1) aNil) (aCons (eV 2) aNil)) sNx)
  (sSeq (sIf (tB (eOp (fEq false) (eV 0) (eC (.int 4)))) (sXn 9 0 1 ["word"] [0] aNil (aCons (eV 1) aNil)) sNx)
  (sSeq (sIf (tB (eOp (fEq false) (eV 0) (eC (.int 5)))) (sRs 10 ["line", "word"] (aCons (eV 1) (aCons (eV 2) aNil))) sNx)
  (sSeq (sIf (tB (eOp (fEq false) (eV 0) (eC (.int 6)))) (sRs 11 ["line"] (aCons (eV 1) aNil)) sNx)
  (sSeq (sIf (tB (eOp (fEq false) (eV 0) (eC (.int 7)))) (sXn 12 0 2 ["word", "name"] [1, 0] aNil (aCons (eV 2) (aCons (eV 1) aNil))) sNx)
  (sXn 13 0 1 ["name"] [0] aNil (aCons (eV 1) aNil))))))))))
noncomputable def F_law_raised : List D → IH → R D := fnR 3 3 S_law_raised
noncomputable def S_law_family : SS :=
  (sSeq (sTry (subN NC upC) (sEx (eB F_law_raised (aCons (eV 0) (aCons (eV 1) (aCons (eV 2) aNil))))) [(1, some 3, (sRt (eTup (aCons (eC (.int 0)) (aCons (eB F_law_fields (aCons (eV 0) (aCons (eV 3) aNil))) aNil))))), (2, some 3, (sRt (eTup (aCons (eC (.int 1)) (aCons (eB F_law_fields (aCons (eV 0) (aCons (eV 3) aNil))) aNil))))), (3, some 3, (sRt (eTup (aCons (eC (.int 2)) (aCons (eB F_law_fields (aCons (eV 0) (aCons (eV 3) aNil))) aNil))))), (4, some 3, (sRt (eTup (aCons (eC (.int 3)) (aCons (eB F_law_fields (aCons (eV 0) (aCons (eV 3) aNil))) aNil))))), (0, none, (sRt (eTup (aCons (eC (.int 4)) (aCons (eTup aNil) aNil)))))])
  (sRt (eTup (aCons (eC (.int 5)) (aCons (eTup aNil) aNil)))))
noncomputable def F_law_family : List D → IH → R D := fnR 3 4 S_law_family
noncomputable def S_law_own : SS :=
  (sSeq (sTry (subN NC upC) (sEx (eB F_law_raised (aCons (eV 0) (aCons (eV 1) (aCons (eV 2) aNil))))) [(13, none, (sRt (eC (.int 8)))), (12, none, (sRt (eC (.int 7)))), (11, none, (sRt (eC (.int 6)))), (10, none, (sRt (eC (.int 5)))), (9, none, (sRt (eC (.int 4)))), (8, none, (sRt (eC (.int 3)))), (7, none, (sRt (eC (.int 2)))), (6, none, (sRt (eC (.int 1)))), (5, none, (sRt (eC (.int 0)))), (0, none, (sRt (eC (.int 9))))])
  (sRt (eC (.int 10))))
noncomputable def F_law_own : List D → IH → R D := fnR 3 3 S_law_own
noncomputable def S_law_ahead : SS :=
  (sSeq (sTry (subN NC upC) (sEx (eB F_law_raised (aCons (eV 0) (aCons (eV 1) (aCons (eV 2) aNil))))) [(5, none, (sRt (eC (.int 0)))), (6, none, (sRt (eC (.int 1)))), (7, none, (sRt (eC (.int 2)))), (8, none, (sRt (eC (.int 3)))), (9, none, (sRt (eC (.int 4)))), (10, none, (sRt (eC (.int 5)))), (11, none, (sRt (eC (.int 6)))), (12, none, (sRt (eC (.int 7)))), (13, none, (sRt (eC (.int 8)))), (0, none, (sRt (eC (.int 9))))])
  (sRt (eC (.int 10))))
noncomputable def F_law_ahead : List D → IH → R D := fnR 3 3 S_law_ahead
noncomputable def S_law_any : SS :=
  (sSeq (sTry (subN NC upC) (sEx (eB F_law_raised (aCons (eV 0) (aCons (eV 1) (aCons (eV 2) aNil))))) [(0, none, (sRt (eC (.bl true))))])
  (sRt (eC (.bl false))))
noncomputable def F_law_any : List D → IH → R D := fnR 3 3 S_law_any
noncomputable def S_law_kinds : SS :=
  (sSeq (sAs (.n 1) (eLst (aCons (eIsx (fun c => subN NC upC c 5) (eV 0)) (aCons (eIsx (fun c => subN NC upC c 6) (eV 0)) (aCons (eIsx (fun c => subN NC upC c 7) (eV 0)) (aCons (eIsx (fun c => subN NC upC c 8) (eV 0)) (aCons (eIsx (fun c => subN NC upC c 9) (eV 0)) aNil)))))))
  (sSeq (sAs (.n 1) (eOp fAdd (eV 1) (eLst (aCons (eIsx (fun c => subN NC upC c 10) (eV 0)) (aCons (eIsx (fun c => subN NC upC c 11) (eV 0)) (aCons (eIsx (fun c => subN NC upC c 12) (eV 0)) (aCons (eIsx (fun c => subN NC upC c 13) (eV 0)) aNil)))))))
  (sRt (eTup (aCons (eV 1) (aCons (eLst (aCons (eIsx (fun c => subN NC upC c 1) (eV 0)) (aCons (eIsx (fun c => subN NC upC c 2) (eV 0)) (aCons (eIsx (fun c => subN NC upC c 3) (eV 0)) (aCons (eIsx (fun c => subN NC upC c 4) (eV 0)) aNil))))) aNil))))))
noncomputable def F_law_kinds : List D → IH → R D := fnR 1 2 S_law_kinds
noncomputable def S_law_asked : SS :=
  (sSeq (sPar 3 4 (aCons (eB F_law_value (aCons (eV 0) aNil)) (aCons (eB F_law_value (aCons (eV 0) aNil)) aNil)))
  (sSeq (sAs (.n 5) (eB F_law_made (aCons (eV 1) (aCons (eV 3) (aCons (eV 4) (aCons (eV 2) aNil))))))
  (sSeq (sAs (.n 6) (eIf (tB (eOp (fIn false) (eV 1) (eTup (aCons (eC (.int 1)) (aCons (eC (.int 2)) (aCons (eC (.int 3)) (aCons (eC (.int 5)) (aCons (eC (.int 7)) aNil)))))))) (eTup (aCons (eV 3) (aCons (eV 4) aNil))) (eTup (aCons (eV 3) aNil))))
  (sSeq (sIf (tNo (tTr (eB F_law_same (aCons (eB F_law_fields (aCons (eV 1) (aCons (eV 5) aNil))) (aCons (eV 6) aNil))))) (sRt (eC (.bl false))) sNx)
  (sSeq (sAs (.n 7) (eOp fIx (eTup (aCons (eC (.int 0)) (aCons (eC (.int 0)) (aCons (eC (.int 0)) (aCons (eC (.int 0)) (aCons (eC (.int 1)) (aCons (eC (.int 2)) (aCons (eC (.int 2)) (aCons (eC (.int 3)) (aCons (eC (.int 3)) aNil)))))))))) (eV 1)))
  (sSeq (sAs (.t [8, 9]) (eB F_law_kinds (aCons (eV 5) aNil)))
  (sSeq (sIf (tOr' (tB (eOp (fEq true) (eV 8) (eLc [10] (.n 10) (iR1 (aCons (eC (.int 9)) aNil)) tYe (eOp (fEq false) (eV 10) (eV 1))))) (tB (eOp (fEq true) (eV 9) (eLc [10] (.n 10) (iR1 (aCons (eC (.int 4)) aNil)) tYe (eOp (fEq false) (eV 10) (eV 7)))))) (sRt (eC (.bl false))) sNx)
  (sSeq (sIf (tOr' (tNo (tTr (eIsx (fun c => subN NC upC c 0) (eV 5)))) (tNo (tTr (eIsx (fun c => if c < NC then some true else none) (eV 5))))) (sRt (eC (.bl false))) sNx)
  (sSeq (sAs (.t [11, 12]) (eB F_law_family (aCons (eV 1) (aCons (eV 3) (aCons (eV 4) aNil)))))
  (sSeq (sIf (tOr' (tB (eOp (fEq true) (eV 11) (eV 7))) (tOr' (tNo (tTr (eB F_law_same (aCons (eV 12) (aCons (eV 6) aNil))))) (tNo (tTr (eB F_law_any (aCons (eV 1) (aCons (eV 3) (aCons (eV 4) aNil)))))))) (sRt (eC (.bl false))) sNx)
  (sRt (eAn (eOp (fEq false) (eB F_law_own (aCons (eV 1) (aCons (eV 3) (aCons (eV 4) aNil)))) (eV 1)) (eOp (fEq false) (eB F_law_ahead (aCons (eV 1) (aCons (eV 3) (aCons (eV 4) aNil)))) (eV 1))))))))))))))
noncomputable def F_law_asked : List D → IH → R D := fnR 3 13 S_law_asked
noncomputable def S_law_very : SS :=
  (sSeq (sPar 2 3 (aCons (eLst (aCons (eB F_law_sift (aCons (eV 0) (aCons (eC (.int 99)) aNil))) aNil)) (aCons (eLst (aCons (eC (.str "x")) aNil)) aNil)))
  (sSeq (sAs (.n 4) (eB F_law_made (aCons (eV 1) (aCons (eV 2) (aCons (eV 3) (aCons (eB F_law_sift (aCons (eV 0) (aCons (eC (.int 3)) aNil))) aNil))))))
  (sSeq (sAs (.n 5) (eB F_law_sift (aCons (eV 0) (aCons (eC (.int 1000)) aNil))))
  (sSeq (sEx (eMt isLst mAppend (eV 2) (aCons (eV 5) aNil)))
  (sSeq (sEx (eMt isLst mAppend (eV 3) (aCons (eTup (aCons (eV 5) (aCons (eC .non) aNil))) aNil)))
  (sSeq (sAs (.n 6) (eB F_law_fields (aCons (eV 1) (aCons (eV 4) aNil))))
  (sSeq (sIf (tOr' (tB (eOp (fEq true) (eB bLen (aCons (eOp fIx (eV 6) (eC (.int 0))) aNil)) (eC (.int 2)))) (tNo (tTr (eB F_law_same (aCons (eOp fIx (eOp fIx (eV 6) (eC (.int 0))) (eC (.int 1))) (aCons (eV 5) aNil)))))) (sRt (eC (.bl false))) sNx)
  (sRt (eOr (eOp (fEq false) (eB bLen (aCons (eV 6) aNil)) (eC (.int 1))) (eB F_law_same (aCons (eOp fIx (eV 6) (eC (.int 1))) (aCons (eLst (aCons (eC (.str "x")) (aCons (eTup (aCons (eV 5) (aCons (eC .non) aNil))) aNil))) aNil))))))))))))
noncomputable def F_law_very : List D → IH → R D := fnR 2 7 S_law_very
noncomputable def Slaw : SS :=
  (sSeq (sAs (.n 1) (eB F_law_sieve (aCons (eV 0) aNil)))
  (sSeq (sFor (.n 2) (iR1 (aCons (eC (.int 9)) aNil)) (sSeq (sFor (.n 3) (iR1 (aCons (eC (.int 3)) aNil)) (sIf (tNo (tTr (eB F_law_asked (aCons (eV 1) (aCons (eV 2) (aCons (eV 3) aNil)))))) (sRt (eC (.bl false))) sNx))
  (sIf (tNo (tTr (eB F_law_very (aCons (eV 1) (aCons (eV 2) aNil))))) (sRt (eC (.bl false))) sNx)))
  (sSeq (sPar 4 5 (aCons (eB F_law_made (aCons (eC (.int 1)) (aCons (eC (.str "twice")) (aCons (eC (.str "a")) (aCons (eC (.int 0)) aNil))))) (aCons (eB F_law_made (aCons (eC (.int 1)) (aCons (eC (.str "again")) (aCons (eC (.str "b")) (aCons (eC (.int 0)) aNil))))) aNil)))
  (sRt (eB F_law_same (aCons (eTup (aCons (eXr NC "word" (eV 4)) (aCons (eXr NC "name" (eV 4)) (aCons (eXr NC "word" (eV 5)) (aCons (eXr NC "name" (eV 5)) aNil))))) (aCons (eTup (aCons (eC (.str "twice")) (aCons (eC (.str "a")) (aCons (eC (.str "again")) (aCons (eC (.str "b")) aNil))))) aNil)))))))
noncomputable def Flaw : List D → IH → R D := fnR 1 6 Slaw
theorem sc_law_sieve : FnScope ["script", "grains", "stirred", "cell", "size", "lap"] ["script"] (defScope (top 16)) := ⟨rfl, rfl, rfl, by decide +kernel, rfl, by decide +kernel, by decide +kernel⟩
theorem ok_law_sieve (T : Txt K mg cl ini ifd fa ffd) : FnOk P w K mg base (L2.CX P w) 1 (fa 0) (ffd 0) ["script"] (spI K cl 1 F_law_sieve) :=
  ok_fn T.f0.F sc_law_sieve fun cdv A outer s H E hr => by
    exact (dss_cons (ds_par 1 2 rfl sc_law_sieve.nd (da_cons (de_lst da_nil) (da_cons de_int da_nil)))
  (dss_cons (ds_for (passes_of rfl) rfl (di_e (de_sl (de_v 0) do_n (do_e de_int))) (dg_n 3 sc_law_sieve.nd) (dss_cons (ds_set 4 sc_law_sieve.nd (de_op op_fMod (de_ty b_int rfl T.n_int (by decide +kernel) (da_cons (de_v 3) da_nil)) (de_op op_fPow de_int de_int)))
  (dss_cons (ds_set 2 sc_law_sieve.nd (de_op op_fMod (de_op op_fAdd (de_op op_fAdd (de_op op_fMul (de_v 2) de_int) (de_op op_fMod (de_v 4) de_int)) de_int) de_int))
  (dss_one (ds_for (passes_of rfl) rfl (di_r1 rfl T.n_range (da_cons de_int da_nil)) (dg_n 5 sc_law_sieve.nd) (dss_cons (ds_expr (de_mt PySem.F.plainAttrs_list PySem.F.slot_list_append PySem.F.type_list_append m_append ty_list (de_v 1) (da_cons (de_op op_fMod (de_v 4) de_int) da_nil)))
  (dss_cons (ds_set 4 sc_law_sieve.nd (de_op op_fDiv (de_v 4) de_int))
  (dss_one (ds_if (dt_cmp (op_fEq hr.units) (de_v 4) de_int rfl) (dss_one ds_break) dss_nil)))))))))
  (dss_one (ds_ret (de_lst (da_cons (de_or (de_v 1) (de_one (de_lst (da_cons de_int da_nil)))) (da_cons (de_v 2) (da_cons de_int da_nil))))))))
theorem sc_law_sift : FnScope ["sieve", "many", "turn", "mixed"] ["sieve", "many"] (defScope (top 17)) := ⟨rfl, rfl, rfl, by decide +kernel, rfl, by decide +kernel, by decide +kernel⟩
theorem ok_law_sift (T : Txt K mg cl ini ifd fa ffd) : FnOk P w K mg base (L2.CX P w) 1 (fa 1) (ffd 1) ["sieve", "many"] (spI K cl 2 F_law_sift) :=
  ok_fn T.f1.F sc_law_sift fun cdv A outer s H E hr => by
    exact (dss_cons (ds_set 2 sc_law_sift.nd (de_ix (de_v 0) de_int))
  (dss_cons (ds_put (de_op op_fAdd (de_v 2) de_int) (de_v 0) de_int)
  (dss_cons (ds_set 3 sc_law_sift.nd (de_op op_fMod (de_ty b_int rfl T.n_int (by decide +kernel) (da_cons (de_op op_fMul (de_op op_fAdd (de_ix (de_v 0) de_int) (de_op op_fMul (de_v 2) de_int)) (de_op op_fAdd (de_op op_fMul (de_v 2) de_int) de_int)) da_nil)) de_int))
  (dss_one (ds_ret (de_op op_fMod (de_ty b_int rfl T.n_int (by decide +kernel) (da_cons (de_op op_fAdd (de_ix (de_ix (de_v 0) de_int) (de_op op_fMod (de_ty b_int rfl T.n_int (by decide +kernel) (da_cons (de_v 2) da_nil)) (de_b b_len rfl T.n_len (by decide +kernel) (da_cons (de_ix (de_v 0) de_int) da_nil)))) (de_op op_fDiv (de_v 3) de_int)) da_nil)) (de_v 1)))))))
theorem sc_law_same : FnScope ["told", "due", "heap", "lap", "one", "other", "at"] ["told", "due"] (defScope (top 18)) := ⟨rfl, rfl, rfl, by decide +kernel, rfl, by decide +kernel, by decide +kernel⟩
theorem ok_law_same (T : Txt K mg cl ini ifd fa ffd) : FnOk P w K mg base (L2.CX P w) 1 (fa 2) (ffd 2) ["told", "due"] (spI K cl 2 F_law_same) :=
  ok_fn T.f2.F sc_law_same fun cdv A outer s H E hr => by
    exact (dss_cons (ds_set 2 sc_law_same.nd (de_lst (da_cons (de_tup (da_cons (de_v 0) (da_cons (de_v 1) da_nil))) da_nil)))
  (dss_cons (ds_for (passes_of rfl) rfl (di_r1 rfl T.n_range (da_cons de_int da_nil)) (dg_n 3 sc_law_same.nd) (dss_cons (ds_if (dt_cmp (op_fEq hr.units) (de_v 2) (de_lst da_nil) rfl) (dss_one (ds_ret de_bl)) dss_nil)
  (dss_cons (ds_as (de_mt0 PySem.F.plainAttrs_list PySem.F.slot_list_pop PySem.F.type_list_pop m_pop ty_list (de_v 2)) (dg_t rfl (dgs_cons (dg_n 4 sc_law_same.nd) (dgs_cons (dg_n 5 sc_law_same.nd) dgs_nil))))
  (dss_one (ds_if (dt_tr (de_isi2 .tuple .list rfl T.n_isinstance rfl T.n_tuple (by decide +kernel) rfl T.n_list (by decide +kernel) (de_v 5))) (dss_cons (ds_if (DW.t (dw_or (dt_cmp (op_fNe hr.units) (de_isi .list rfl T.n_isinstance rfl T.n_list (by decide +kernel) (de_v 4)) (de_isi .list rfl T.n_isinstance rfl T.n_list (by decide +kernel) (de_v 5)) rfl) (dw_or (dt_cmp (op_fNe hr.units) (de_isi .tuple rfl T.n_isinstance rfl T.n_tuple (by decide +kernel) (de_v 4)) (de_isi .tuple rfl T.n_isinstance rfl T.n_tuple (by decide +kernel) (de_v 5)) rfl) (dw_or1 (dt_cmp (op_fNe hr.units) (de_b b_len rfl T.n_len (by decide +kernel) (da_cons (de_v 4) da_nil)) (de_b b_len rfl T.n_len (by decide +kernel) (da_cons (de_v 5) da_nil)) rfl))))) (dss_one (ds_ret de_bl)) dss_nil)
  (dss_one (ds_expr (de_mt PySem.F.plainAttrs_list PySem.F.slot_list_extend PySem.F.type_list_extend m_extend ty_list (de_v 2) (da_cons (de_lc rfl sc_law_same.nd (di_r1 rfl T.n_range (da_cons (de_b b_len rfl T.n_len (by decide +kernel) (da_cons (de_v 5) da_nil)) da_nil)) (own := [("at", 6)]) (show BlkOk ["told", "due", "heap", "lap", "one", "other", "at"] (defScope (top 18)) _ _ from ⟨by rfl, by decide +kernel, by decide +kernel, by decide +kernel, by decide +kernel⟩) (fun _ _ _ _ _ => (dg_n 6 sc_law_same.nd)) (fun _ _ _ _ _ => dts_nil) (fun _ _ _ _ _ => (de_tup (da_cons (de_ix (de_v 4) (de_v 6)) (da_cons (de_ix (de_v 5) (de_v 6)) da_nil))))) da_nil))))) (dss_one (ds_if (DW.t (dw_or (dt_cmp op_fIs (de_v 5) de_non rfl) (dw_or1 (dt_tr (de_isi .bool rfl T.n_isinstance rfl T.n_bool (by decide +kernel) (de_v 5)))))) (dss_one (ds_if (DW.t (dw_or (dt_cmp (op_fNe hr.units) (de_cmp op_fIs (de_v 4) de_non rfl) (de_cmp op_fIs (de_v 5) de_non rfl) rfl) (dw_or (dt_cmp (op_fNe hr.units) (de_isi .bool rfl T.n_isinstance rfl T.n_bool (by decide +kernel) (de_v 4)) (de_isi .bool rfl T.n_isinstance rfl T.n_bool (by decide +kernel) (de_v 5)) rfl) (dw_or1 (dt_cmp (op_fNe hr.units) (de_v 4) (de_v 5) rfl))))) (dss_one (ds_ret de_bl)) dss_nil)) (dss_one (ds_if (dt_tr (de_isi .str rfl T.n_isinstance rfl T.n_str (by decide +kernel) (de_v 5))) (dss_one (ds_if (DW.t (dw_or (dt_not (dt_tr (de_isi .str rfl T.n_isinstance rfl T.n_str (by decide +kernel) (de_v 4)))) (dw_or1 (dt_cmp (op_fNe hr.units) (de_v 4) (de_v 5) rfl)))) (dss_one (ds_ret de_bl)) dss_nil)) (dss_one (ds_if (DW.t (dw_or (dt_not (dt_tr (de_isi .int rfl T.n_isinstance rfl T.n_int (by decide +kernel) (de_v 4)))) (dw_or (dt_tr (de_isi .bool rfl T.n_isinstance rfl T.n_bool (by decide +kernel) (de_v 4))) (dw_or1 (dt_cmp (op_fNe hr.units) (de_v 4) (de_v 5) rfl))))) (dss_one (ds_ret de_bl)) dss_nil)))))))))))
  (dss_one (ds_ret de_bl))))
theorem sc_law_value : FnScope ["sieve", "way"] ["sieve"] (defScope (top 19)) := ⟨rfl, rfl, rfl, by decide +kernel, rfl, by decide +kernel, by decide +kernel⟩
theorem ok_law_value (T : Txt K mg cl ini ifd fa ffd) : FnOk P w K mg base (L2.CX P w) 2 (fa 3) (ffd 3) ["sieve"] (spI K cl 1 F_law_value) :=
  ok_fn T.f3.F sc_law_value fun cdv A outer s H E hr => by
    exact (dss_cons (ds_set 1 sc_law_value.nd (de_call (ok_law_sift T) fnR_ar (hr.mono (by decide)) (takes_of rfl rfl rfl rfl) T.f1.m T.f1.k T.f1.b (da_cons (de_v 0) (da_cons de_int da_nil))))
  (dss_cons (ds_if (dt_cmp (op_fEq hr.units) (de_v 1) de_int rfl) (dss_one (ds_ret (de_op op_fSub (de_call (ok_law_sift T) fnR_ar (hr.mono (by decide)) (takes_of rfl rfl rfl rfl) T.f1.m T.f1.k T.f1.b (da_cons (de_v 0) (da_cons de_int da_nil))) de_int))) dss_nil)
  (dss_cons (ds_if (dt_cmp (op_fEq hr.units) (de_v 1) de_int rfl) (dss_one (ds_ret (de_ix (de_tup (da_cons de_non (da_cons de_bl (da_cons de_bl (da_cons de_int (da_cons (de_op op_fPow de_int de_int) (da_cons (de_neg de_int) da_nil))))))) (de_call (ok_law_sift T) fnR_ar (hr.mono (by decide)) (takes_of rfl rfl rfl rfl) T.f1.m T.f1.k T.f1.b (da_cons (de_v 0) (da_cons de_int da_nil)))))) dss_nil)
  (dss_cons (ds_if (dt_cmp op_fLt (de_v 1) de_int rfl) (dss_one (ds_ret (de_ix (de_tup (da_cons de_str (da_cons de_str (da_cons de_str (da_cons de_str (da_cons de_str (da_cons de_str (da_cons de_str da_nil)))))))) (de_call (ok_law_sift T) fnR_ar (hr.mono (by decide)) (takes_of rfl rfl rfl rfl) T.f1.m T.f1.k T.f1.b (da_cons (de_v 0) (da_cons de_int da_nil)))))) dss_nil)
  (dss_cons (ds_if (dt_cmp (op_fEq hr.units) (de_v 1) de_int rfl) (dss_one (ds_ret (de_tup (da_cons (de_call (ok_law_sift T) fnR_ar (hr.mono (by decide)) (takes_of rfl rfl rfl rfl) T.f1.m T.f1.k T.f1.b (da_cons (de_v 0) (da_cons de_int da_nil))) (da_cons (de_tup (da_cons de_str (da_cons de_non da_nil))) (da_cons (de_tup da_nil) da_nil)))))) dss_nil)
  (dss_cons (ds_if (dt_cmp (op_fEq hr.units) (de_v 1) de_int rfl) (dss_one (ds_ret (de_lst (da_cons (de_call (ok_law_sift T) fnR_ar (hr.mono (by decide)) (takes_of rfl rfl rfl rfl) T.f1.m T.f1.k T.f1.b (da_cons (de_v 0) (da_cons de_int da_nil))) (da_cons (de_lst (da_cons de_bl da_nil)) (da_cons de_str da_nil)))))) dss_nil)
  (dss_one (ds_ret (de_ix (de_tup (da_cons (de_tup da_nil) (da_cons (de_lst da_nil) (da_cons (de_tup (da_cons (de_tup (da_cons de_int (da_cons de_int da_nil))) (da_cons (de_lst (da_cons de_int da_nil)) da_nil))) (da_cons de_str da_nil))))) (de_call (ok_law_sift T) fnR_ar (hr.mono (by decide)) (takes_of rfl rfl rfl rfl) T.f1.m T.f1.k T.f1.b (da_cons (de_v 0) (da_cons de_int da_nil))))))))))))
theorem sc_law_made : FnScope ["which", "one", "other", "way"] ["which", "one", "other", "way"] (defScope (top 20)) := ⟨rfl, rfl, rfl, by decide +kernel, rfl, by decide +kernel, by decide +kernel⟩
theorem ok_law_made (T : Txt K mg cl ini ifd fa ffd) : FnOk P w K mg base (L2.CX P w) 3 (fa 4) (ffd 4) ["which", "one", "other", "way"] (spI K cl 4 F_law_made) :=
  ok_fn T.f4.F sc_law_made fun cdv A outer s H E hr => by
    exact (dss_cons (ds_if (dt_cmp (op_fEq hr.units) (de_v 0) de_int rfl) (dss_one (ds_ret (de_if (dt_cmp (op_fEq hr.units) (de_v 3) de_int rfl) (de_xn T.c_BadTree.T T.xo_BadTree (hr.mono (by decide)) T.kb0 (by decide) T.c_BadTree.m (da_cons (de_v 1) da_nil)) (de_xnK0 (ks := ["word"]) T.c_BadTree.T T.xo_BadTree (hr.mono (by decide)) T.kb1 T.c_BadTree.m (dk_cons (de_v 1) dk_nil))))) dss_nil)
  (dss_cons (ds_if (dt_cmp (op_fEq hr.units) (de_v 0) de_int rfl) (dss_one (ds_ret (de_ix (de_tup (da_cons (de_xn T.c_BadProgram.T T.xo_BadProgram (hr.mono (by decide)) T.kb4 (by decide) T.c_BadProgram.m (da_cons (de_v 1) (da_cons (de_v 2) da_nil))) (da_cons (de_xnK0 (ks := ["word", "name"]) T.c_BadProgram.T T.xo_BadProgram (hr.mono (by decide)) T.kb3 T.c_BadProgram.m (dk_cons (de_v 1) (dk_cons (de_v 2) dk_nil))) (da_cons (de_xnK0 (ks := ["name", "word"]) T.c_BadProgram.T T.xo_BadProgram (hr.mono (by decide)) T.kb2 T.c_BadProgram.m (dk_cons (de_v 2) (dk_cons (de_v 1) dk_nil))) da_nil)))) (de_v 3)))) dss_nil)
  (dss_cons (ds_if (dt_cmp (op_fEq hr.units) (de_v 0) de_int rfl) (dss_one (ds_ret (de_ix (de_tup (da_cons (de_xn T.c_BadNetwork.T T.xo_BadNetwork (hr.mono (by decide)) T.kb7 (by decide) T.c_BadNetwork.m (da_cons (de_v 1) (da_cons (de_v 2) da_nil))) (da_cons (de_xnK0 (ks := ["at", "word"]) T.c_BadNetwork.T T.xo_BadNetwork (hr.mono (by decide)) T.kb6 T.c_BadNetwork.m (dk_cons (de_v 1) (dk_cons (de_v 2) dk_nil))) (da_cons (de_xnK0 (ks := ["word", "at"]) T.c_BadNetwork.T T.xo_BadNetwork (hr.mono (by decide)) T.kb5 T.c_BadNetwork.m (dk_cons (de_v 2) (dk_cons (de_v 1) dk_nil))) da_nil)))) (de_v 3)))) dss_nil)
  (dss_cons (ds_if (dt_cmp (op_fEq hr.units) (de_v 0) de_int rfl) (dss_one (ds_ret (de_ix (de_tup (da_cons (de_xn T.c_BadWishes.T T.xo_BadWishes (hr.mono (by decide)) T.kb10 (by decide) T.c_BadWishes.m (da_cons (de_v 1) (da_cons (de_v 2) da_nil))) (da_cons (de_xnK0 (ks := ["at", "word"]) T.c_BadWishes.T T.xo_BadWishes (hr.mono (by decide)) T.kb9 T.c_BadWishes.m (dk_cons (de_v 1) (dk_cons (de_v 2) dk_nil))) (da_cons (de_xnK0 (ks := ["word", "at"]) T.c_BadWishes.T T.xo_BadWishes (hr.mono (by decide)) T.kb8 T.c_BadWishes.m (dk_cons (de_v 2) (dk_cons (de_v 1) dk_nil))) da_nil)))) (de_v 3)))) dss_nil)
  (dss_cons (ds_if (dt_cmp (op_fEq hr.units) (de_v 0) de_int rfl) (dss_one (ds_ret (de_if (dt_cmp (op_fEq hr.units) (de_v 3) de_int rfl) (de_xn T.c_BadStep.T T.xo_BadStep (hr.mono (by decide)) T.kb11 (by decide) T.c_BadStep.m (da_cons (de_v 1) da_nil)) (de_xnK0 (ks := ["word"]) T.c_BadStep.T T.xo_BadStep (hr.mono (by decide)) T.kb12 T.c_BadStep.m (dk_cons (de_v 1) dk_nil))))) dss_nil)
  (dss_cons (ds_if (dt_cmp (op_fEq hr.units) (de_v 0) de_int rfl) (dss_one (ds_ret (de_ix (de_tup (da_cons (de_xn T.c_BadText.T T.xo_BadText (hr.mono (by decide)) T.kb15 (by decide) T.c_BadText.m (da_cons (de_v 1) (da_cons (de_v 2) da_nil))) (da_cons (de_xnK0 (ks := ["line", "word"]) T.c_BadText.T T.xo_BadText (hr.mono (by decide)) T.kb14 T.c_BadText.m (dk_cons (de_v 1) (dk_cons (de_v 2) dk_nil))) (da_cons (de_xnK0 (ks := ["word", "line"]) T.c_BadText.T T.xo_BadText (hr.mono (by decide)) T.kb13 T.c_BadText.m (dk_cons (de_v 2) (dk_cons (de_v 1) dk_nil))) da_nil)))) (de_v 3)))) dss_nil)
  (dss_cons (ds_if (dt_cmp (op_fEq hr.units) (de_v 0) de_int rfl) (dss_one (ds_ret (de_if (dt_cmp (op_fEq hr.units) (de_v 3) de_int rfl) (de_xn T.c_BadCommand.T T.xo_BadCommand (hr.mono (by decide)) T.kb16 (by decide) T.c_BadCommand.m (da_cons (de_v 1) da_nil)) (de_xnK0 (ks := ["line"]) T.c_BadCommand.T T.xo_BadCommand (hr.mono (by decide)) T.kb17 T.c_BadCommand.m (dk_cons (de_v 1) dk_nil))))) dss_nil)
  (dss_cons (ds_if (dt_cmp (op_fEq hr.units) (de_v 0) de_int rfl) (dss_one (ds_ret (de_ix (de_tup (da_cons (de_xn T.c_NoSuch.T T.xo_NoSuch (hr.mono (by decide)) T.kb20 (by decide) T.c_NoSuch.m (da_cons (de_v 1) (da_cons (de_v 2) da_nil))) (da_cons (de_xnK0 (ks := ["word", "name"]) T.c_NoSuch.T T.xo_NoSuch (hr.mono (by decide)) T.kb19 T.c_NoSuch.m (dk_cons (de_v 1) (dk_cons (de_v 2) dk_nil))) (da_cons (de_xnK0 (ks := ["name", "word"]) T.c_NoSuch.T T.xo_NoSuch (hr.mono (by decide)) T.kb18 T.c_NoSuch.m (dk_cons (de_v 2) (dk_cons (de_v 1) dk_nil))) da_nil)))) (de_v 3)))) dss_nil)
  (dss_one (ds_ret (de_if (dt_cmp (op_fEq hr.units) (de_v 3) de_int rfl) (de_xn T.c_Taken.T T.xo_Taken (hr.mono (by decide)) T.kb21 (by decide) T.c_Taken.m (da_cons (de_v 1) da_nil)) (de_xnK0 (ks := ["name"]) T.c_Taken.T T.xo_Taken (hr.mono (by decide)) T.kb22 T.c_Taken.m (dk_cons (de_v 1) dk_nil)))))))))))))
theorem sc_law_fields : FnScope ["which", "error"] ["which", "error"] (defScope (top 21)) := ⟨rfl, rfl, rfl, by decide +kernel, rfl, by decide +kernel, by decide +kernel⟩
theorem okA_law_fields (T : Txt K mg cl ini ifd fa ffd) : FnA P w K mg base 1 (fa 5) (ffd 5) ["which", "error"] (spI K cl 2 F_law_fields) :=
  ok_fnA T.f5.F sc_law_fields fun cdv A outer s H E hr => by
    exact (dss_cons (ds_if (DW.t (dw_or (dt_cmp (op_fEq hr.units) (de_v 0) de_int rfl) (dw_or1 (dt_cmp (op_fEq hr.units) (de_v 0) de_int rfl)))) (dss_one (ds_ret (de_tup (da_cons (de_xr (T.xat_word) (de_v 1)) da_nil)))) dss_nil)
  (dss_cons (ds_if (DW.t (dw_or (dt_cmp (op_fEq hr.units) (de_v 0) de_int rfl) (dw_or1 (dt_cmp (op_fEq hr.units) (de_v 0) de_int rfl)))) (dss_one (ds_ret (de_tup (da_cons (de_xr (T.xat_word) (de_v 1)) (da_cons (de_xr (T.xat_name) (de_v 1)) da_nil))))) dss_nil)
  (dss_cons (ds_if (DW.t (dw_or (dt_cmp (op_fEq hr.units) (de_v 0) de_int rfl) (dw_or1 (dt_cmp (op_fEq hr.units) (de_v 0) de_int rfl)))) (dss_one (ds_ret (de_tup (da_cons (de_xr (T.xat_at) (de_v 1)) (da_cons (de_xr (T.xat_word) (de_v 1)) da_nil))))) dss_nil)
  (dss_cons (ds_if (dt_cmp (op_fEq hr.units) (de_v 0) de_int rfl) (dss_one (ds_ret (de_tup (da_cons (de_xr (T.xat_line) (de_v 1)) (da_cons (de_xr (T.xat_word) (de_v 1)) da_nil))))) dss_nil)
  (dss_one (ds_ret (de_if (dt_cmp (op_fEq hr.units) (de_v 0) de_int rfl) (de_tup (da_cons (de_xr (T.xat_line) (de_v 1)) da_nil)) (de_tup (da_cons (de_xr (T.xat_name) (de_v 1)) da_nil)))))))))
theorem ok_law_fields (T : Txt K mg cl ini ifd fa ffd) : FnOk P w K mg base (L2.CX P w) 1 (fa 5) (ffd 5) ["which", "error"] (spI K cl 2 F_law_fields) := (okA_law_fields T).ok
theorem sc_law_raised : FnScope ["which", "one", "other"] ["which", "one", "other"] (defScope (top 22)) := ⟨rfl, rfl, rfl, by decide +kernel, rfl, by decide +kernel, by decide +kernel⟩
theorem ok_law_raised (T : Txt K mg cl ini ifd fa ffd) : FnOk P w K mg base (L2.CX P w) 3 (fa 6) (ffd 6) ["which", "one", "other"] (spI K cl 3 F_law_raised) :=
  ok_fn T.f6.F sc_law_raised fun cdv A outer s H E hr => by
    exact (dss_cons (ds_if (dt_cmp (op_fEq hr.units) (de_v 0) de_int rfl) (dss_one (ds_raise rfl T.c_BadTree.T T.xo_BadTree (hr.mono (by decide)) T.xb_BadTree T.c_BadTree.m (takes_of rfl rfl rfl rfl) (da_cons (de_v 1) da_nil))) dss_nil)
  (dss_cons (ds_if (dt_cmp (op_fEq hr.units) (de_v 0) de_int rfl) (dss_one (ds_raise rfl T.c_BadProgram.T T.xo_BadProgram (hr.mono (by decide)) T.xb_BadProgram T.c_BadProgram.m (takes_of rfl rfl rfl rfl) (da_cons (de_v 1) (da_cons (de_v 2) da_nil)))) dss_nil)
  (dss_cons (ds_if (dt_cmp (op_fEq hr.units) (de_v 0) de_int rfl) (dss_one (ds_xrK0 (ks := ["at", "word"]) rfl (takes_of rfl rfl rfl rfl) T.c_BadNetwork.T T.xo_BadNetwork (hr.mono (by decide)) T.kb6 T.c_BadNetwork.m (dk_cons (de_v 1) (dk_cons (de_v 2) dk_nil)))) dss_nil)
  (dss_cons (ds_if (dt_cmp (op_fEq hr.units) (de_v 0) de_int rfl) (dss_one (ds_xrK (ks := ["word"]) rfl (takes_of rfl rfl rfl rfl) T.c_BadWishes.T T.xo_BadWishes (hr.mono (by decide)) T.kb23 (by decide) T.c_BadWishes.m (da_cons (de_v 1) da_nil) (dk_cons (de_v 2) dk_nil))) dss_nil)
  (dss_cons (ds_if (dt_cmp (op_fEq hr.units) (de_v 0) de_int rfl) (dss_one (ds_xrK0 (ks := ["word"]) rfl (takes_of rfl rfl rfl rfl) T.c_BadStep.T T.xo_BadStep (hr.mono (by decide)) T.kb12 T.c_BadStep.m (dk_cons (de_v 1) dk_nil))) dss_nil)
  (dss_cons (ds_if (dt_cmp (op_fEq hr.units) (de_v 0) de_int rfl) (dss_one (ds_raise rfl T.c_BadText.T T.xo_BadText (hr.mono (by decide)) T.xb_BadText T.c_BadText.m (takes_of rfl rfl rfl rfl) (da_cons (de_v 1) (da_cons (de_v 2) da_nil)))) dss_nil)
  (dss_cons (ds_if (dt_cmp (op_fEq hr.units) (de_v 0) de_int rfl) (dss_one (ds_raise rfl T.c_BadCommand.T T.xo_BadCommand (hr.mono (by decide)) T.xb_BadCommand T.c_BadCommand.m (takes_of rfl rfl rfl rfl) (da_cons (de_v 1) da_nil))) dss_nil)
  (dss_cons (ds_if (dt_cmp (op_fEq hr.units) (de_v 0) de_int rfl) (dss_one (ds_xrK0 (ks := ["name", "word"]) rfl (takes_of rfl rfl rfl rfl) T.c_NoSuch.T T.xo_NoSuch (hr.mono (by decide)) T.kb18 T.c_NoSuch.m (dk_cons (de_v 2) (dk_cons (de_v 1) dk_nil)))) dss_nil)
  (dss_one (ds_xrK0 (ks := ["name"]) rfl (takes_of rfl rfl rfl rfl) T.c_Taken.T T.xo_Taken (hr.mono (by decide)) T.kb22 T.c_Taken.m (dk_cons (de_v 1) dk_nil)))))))))))
theorem sc_law_family : FnScope ["which", "one", "other", "error"] ["which", "one", "other"] (defScope (top 23)) := ⟨rfl, rfl, rfl, by decide +kernel, rfl, by decide +kernel, by decide +kernel⟩
theorem ok_law_family (T : Txt K mg cl ini ifd fa ffd) : FnOk P w K mg base (L2.CX P w) 4 (fa 7) (ffd 7) ["which", "one", "other"] (spI K cl 3 F_law_family) :=
  ok_fn T.f7.F sc_law_family fun cdv A outer s H E hr => by
    exact (dss_cons (ds_try T.fam.sub sc_law_family.nd (takes_of rfl rfl rfl rfl) (fun W2 pn xe t2 po => (dss_one (ds_expr (de_call (ok_law_raised T) fnR_ar (hr.mono (by decide)) t2 T.f6.m T.f6.k T.f6.b (da_cons (de_v 0) (da_cons (de_v 1) (da_cons (de_v 2) da_nil))))))) (DHds.cons ⟨rfl, by decide, Or.inl T.m_DataError⟩ ⟨rfl, rfl⟩ (fun a pn => (dss_one (ds_ret (de_tup (da_cons de_int (da_cons (de_callA (okA_law_fields T) fnR_ar (RoomA.hot (hr.mono (by decide)) _ _) T.f5.m T.f5.k T.f5.b (da_cons (de_v 0) (da_cons (de_v 3) da_nil))) da_nil)))))) (DHds.cons ⟨rfl, by decide, Or.inl T.m_CallError⟩ ⟨rfl, rfl⟩ (fun a pn => (dss_one (ds_ret (de_tup (da_cons de_int (da_cons (de_callA (okA_law_fields T) fnR_ar (RoomA.hot (hr.mono (by decide)) _ _) T.f5.m T.f5.k T.f5.b (da_cons (de_v 0) (da_cons (de_v 3) da_nil))) da_nil)))))) (DHds.cons ⟨rfl, by decide, Or.inl T.m_TextError⟩ ⟨rfl, rfl⟩ (fun a pn => (dss_one (ds_ret (de_tup (da_cons de_int (da_cons (de_callA (okA_law_fields T) fnR_ar (RoomA.hot (hr.mono (by decide)) _ _) T.f5.m T.f5.k T.f5.b (da_cons (de_v 0) (da_cons (de_v 3) da_nil))) da_nil)))))) (DHds.cons ⟨rfl, by decide, Or.inl T.m_ShopError⟩ ⟨rfl, rfl⟩ (fun a pn => (dss_one (ds_ret (de_tup (da_cons de_int (da_cons (de_callA (okA_law_fields T) fnR_ar (RoomA.hot (hr.mono (by decide)) _ _) T.f5.m T.f5.k T.f5.b (da_cons (de_v 0) (da_cons (de_v 3) da_nil))) da_nil)))))) (DHds.cons ⟨rfl, by decide, Or.inl T.m_LastError⟩ True.intro (fun a pn => (dss_one (ds_ret (de_tup (da_cons de_int (da_cons (de_tup da_nil) da_nil)))))) DHds.nil))))))
  (dss_one (ds_ret (de_tup (da_cons de_int (da_cons (de_tup da_nil) da_nil))))))
theorem sc_law_own : FnScope ["which", "one", "other"] ["which", "one", "other"] (defScope (top 24)) := ⟨rfl, rfl, rfl, by decide +kernel, rfl, by decide +kernel, by decide +kernel⟩
theorem ok_law_own (T : Txt K mg cl ini ifd fa ffd) : FnOk P w K mg base (L2.CX P w) 4 (fa 8) (ffd 8) ["which", "one", "other"] (spI K cl 3 F_law_own) :=
  ok_fn T.f8.F sc_law_own fun cdv A outer s H E hr => by
    exact (dss_cons (ds_try T.fam.sub sc_law_own.nd (takes_of rfl rfl rfl rfl) (fun W2 pn xe t2 po => (dss_one (ds_expr (de_call (ok_law_raised T) fnR_ar (hr.mono (by decide)) t2 T.f6.m T.f6.k T.f6.b (da_cons (de_v 0) (da_cons (de_v 1) (da_cons (de_v 2) da_nil))))))) (DHds.cons ⟨rfl, by decide, Or.inl T.m_Taken⟩ True.intro (fun a pn => (dss_one (ds_ret de_int))) (DHds.cons ⟨rfl, by decide, Or.inl T.m_NoSuch⟩ True.intro (fun a pn => (dss_one (ds_ret de_int))) (DHds.cons ⟨rfl, by decide, Or.inl T.m_BadCommand⟩ True.intro (fun a pn => (dss_one (ds_ret de_int))) (DHds.cons ⟨rfl, by decide, Or.inl T.m_BadText⟩ True.intro (fun a pn => (dss_one (ds_ret de_int))) (DHds.cons ⟨rfl, by decide, Or.inl T.m_BadStep⟩ True.intro (fun a pn => (dss_one (ds_ret de_int))) (DHds.cons ⟨rfl, by decide, Or.inl T.m_BadWishes⟩ True.intro (fun a pn => (dss_one (ds_ret de_int))) (DHds.cons ⟨rfl, by decide, Or.inl T.m_BadNetwork⟩ True.intro (fun a pn => (dss_one (ds_ret de_int))) (DHds.cons ⟨rfl, by decide, Or.inl T.m_BadProgram⟩ True.intro (fun a pn => (dss_one (ds_ret de_int))) (DHds.cons ⟨rfl, by decide, Or.inl T.m_BadTree⟩ True.intro (fun a pn => (dss_one (ds_ret de_int))) (DHds.cons ⟨rfl, by decide, Or.inl T.m_LastError⟩ True.intro (fun a pn => (dss_one (ds_ret de_int))) DHds.nil)))))))))))
  (dss_one (ds_ret de_int)))
theorem sc_law_ahead : FnScope ["which", "one", "other"] ["which", "one", "other"] (defScope (top 25)) := ⟨rfl, rfl, rfl, by decide +kernel, rfl, by decide +kernel, by decide +kernel⟩
theorem ok_law_ahead (T : Txt K mg cl ini ifd fa ffd) : FnOk P w K mg base (L2.CX P w) 4 (fa 9) (ffd 9) ["which", "one", "other"] (spI K cl 3 F_law_ahead) :=
  ok_fn T.f9.F sc_law_ahead fun cdv A outer s H E hr => by
    exact (dss_cons (ds_try T.fam.sub sc_law_ahead.nd (takes_of rfl rfl rfl rfl) (fun W2 pn xe t2 po => (dss_one (ds_expr (de_call (ok_law_raised T) fnR_ar (hr.mono (by decide)) t2 T.f6.m T.f6.k T.f6.b (da_cons (de_v 0) (da_cons (de_v 1) (da_cons (de_v 2) da_nil))))))) (DHds.cons ⟨rfl, by decide, Or.inl T.m_BadTree⟩ True.intro (fun a pn => (dss_one (ds_ret de_int))) (DHds.cons ⟨rfl, by decide, Or.inl T.m_BadProgram⟩ True.intro (fun a pn => (dss_one (ds_ret de_int))) (DHds.cons ⟨rfl, by decide, Or.inl T.m_BadNetwork⟩ True.intro (fun a pn => (dss_one (ds_ret de_int))) (DHds.cons ⟨rfl, by decide, Or.inl T.m_BadWishes⟩ True.intro (fun a pn => (dss_one (ds_ret de_int))) (DHds.cons ⟨rfl, by decide, Or.inl T.m_BadStep⟩ True.intro (fun a pn => (dss_one (ds_ret de_int))) (DHds.cons ⟨rfl, by decide, Or.inl T.m_BadText⟩ True.intro (fun a pn => (dss_one (ds_ret de_int))) (DHds.cons ⟨rfl, by decide, Or.inl T.m_BadCommand⟩ True.intro (fun a pn => (dss_one (ds_ret de_int))) (DHds.cons ⟨rfl, by decide, Or.inl T.m_NoSuch⟩ True.intro (fun a pn => (dss_one (ds_ret de_int))) (DHds.cons ⟨rfl, by decide, Or.inl T.m_Taken⟩ True.intro (fun a pn => (dss_one (ds_ret de_int))) (DHds.cons ⟨rfl, by decide, Or.inl T.m_LastError⟩ True.intro (fun a pn => (dss_one (ds_ret de_int))) DHds.nil)))))))))))
  (dss_one (ds_ret de_int)))
theorem sc_law_any : FnScope ["which", "one", "other"] ["which", "one", "other"] (defScope (top 26)) := ⟨rfl, rfl, rfl, by decide +kernel, rfl, by decide +kernel, by decide +kernel⟩
theorem ok_law_any (T : Txt K mg cl ini ifd fa ffd) : FnOk P w K mg base (L2.CX P w) 4 (fa 10) (ffd 10) ["which", "one", "other"] (spI K cl 3 F_law_any) :=
  ok_fn T.f10.F sc_law_any fun cdv A outer s H E hr => by
    exact (dss_cons (ds_try T.fam.sub sc_law_any.nd (takes_of rfl rfl rfl rfl) (fun W2 pn xe t2 po => (dss_one (ds_expr (de_call (ok_law_raised T) fnR_ar (hr.mono (by decide)) t2 T.f6.m T.f6.k T.f6.b (da_cons (de_v 0) (da_cons (de_v 1) (da_cons (de_v 2) da_nil))))))) (DHds.cons ⟨rfl, by decide, Or.inl T.m_LastError⟩ True.intro (fun a pn => (dss_one (ds_ret de_bl))) DHds.nil))
  (dss_one (ds_ret de_bl)))
theorem sc_law_kinds : FnScope ["error", "some"] ["error"] (defScope (top 27)) := ⟨rfl, rfl, rfl, by decide +kernel, rfl, by decide +kernel, by decide +kernel⟩
theorem ok_law_kinds (T : Txt K mg cl ini ifd fa ffd) : FnOk P w K mg base (L2.CX P w) 1 (fa 11) (ffd 11) ["error"] (spI K cl 1 F_law_kinds) :=
  ok_fn T.f11.F sc_law_kinds fun cdv A outer s H E hr => by
    exact (dss_cons (ds_set 1 sc_law_kinds.nd (de_lst (da_cons (de_isx (v := .ref (cl 5)) (T.fam.isx 5) (fun _ r => r) (pe_glob rfl T.m_BadTree rfl) rfl T.n_isinstance (de_v 0)) (da_cons (de_isx (v := .ref (cl 6)) (T.fam.isx 6) (fun _ r => r) (pe_glob rfl T.m_BadProgram rfl) rfl T.n_isinstance (de_v 0)) (da_cons (de_isx (v := .ref (cl 7)) (T.fam.isx 7) (fun _ r => r) (pe_glob rfl T.m_BadNetwork rfl) rfl T.n_isinstance (de_v 0)) (da_cons (de_isx (v := .ref (cl 8)) (T.fam.isx 8) (fun _ r => r) (pe_glob rfl T.m_BadWishes rfl) rfl T.n_isinstance (de_v 0)) (da_cons (de_isx (v := .ref (cl 9)) (T.fam.isx 9) (fun _ r => r) (pe_glob rfl T.m_BadStep rfl) rfl T.n_isinstance (de_v 0)) da_nil)))))))
  (dss_cons (ds_set 1 sc_law_kinds.nd (de_op op_fAdd (de_v 1) (de_lst (da_cons (de_isx (v := .ref (cl 10)) (T.fam.isx 10) (fun _ r => r) (pe_glob rfl T.m_BadText rfl) rfl T.n_isinstance (de_v 0)) (da_cons (de_isx (v := .ref (cl 11)) (T.fam.isx 11) (fun _ r => r) (pe_glob rfl T.m_BadCommand rfl) rfl T.n_isinstance (de_v 0)) (da_cons (de_isx (v := .ref (cl 12)) (T.fam.isx 12) (fun _ r => r) (pe_glob rfl T.m_NoSuch rfl) rfl T.n_isinstance (de_v 0)) (da_cons (de_isx (v := .ref (cl 13)) (T.fam.isx 13) (fun _ r => r) (pe_glob rfl T.m_Taken rfl) rfl T.n_isinstance (de_v 0)) da_nil)))))))
  (dss_one (ds_ret (de_tup (da_cons (de_v 1) (da_cons (de_lst (da_cons (de_isx (v := .ref (cl 1)) (T.fam.isx 1) (fun _ r => r) (pe_glob rfl T.m_DataError rfl) rfl T.n_isinstance (de_v 0)) (da_cons (de_isx (v := .ref (cl 2)) (T.fam.isx 2) (fun _ r => r) (pe_glob rfl T.m_CallError rfl) rfl T.n_isinstance (de_v 0)) (da_cons (de_isx (v := .ref (cl 3)) (T.fam.isx 3) (fun _ r => r) (pe_glob rfl T.m_TextError rfl) rfl T.n_isinstance (de_v 0)) (da_cons (de_isx (v := .ref (cl 4)) (T.fam.isx 4) (fun _ r => r) (pe_glob rfl T.m_ShopError rfl) rfl T.n_isinstance (de_v 0)) da_nil))))) da_nil)))))))
theorem sc_law_asked : FnScope ["sieve", "which", "way", "one", "other", "error", "due", "family", "own", "families", "at", "told", "fields"] ["sieve", "which", "way"] (defScope (top 28)) := ⟨rfl, rfl, rfl, by decide +kernel, rfl, by decide +kernel, by decide +kernel⟩
theorem ok_law_asked (T : Txt K mg cl ini ifd fa ffd) : FnOk P w K mg base (L2.CX P w) 5 (fa 12) (ffd 12) ["sieve", "which", "way"] (spI K cl 3 F_law_asked) :=
  ok_fn T.f12.F sc_law_asked fun cdv A outer s H E hr => by
    exact (dss_cons (ds_par 3 4 rfl sc_law_asked.nd (da_cons (de_call (ok_law_value T) fnR_ar (hr.mono (by decide)) (takes_of rfl rfl rfl rfl) T.f3.m T.f3.k T.f3.b (da_cons (de_v 0) da_nil)) (da_cons (de_call (ok_law_value T) fnR_ar (hr.mono (by decide)) (takes_of rfl rfl rfl rfl) T.f3.m T.f3.k T.f3.b (da_cons (de_v 0) da_nil)) da_nil)))
  (dss_cons (ds_set 5 sc_law_asked.nd (de_call (ok_law_made T) fnR_ar (hr.mono (by decide)) (takes_of rfl rfl rfl rfl) T.f4.m T.f4.k T.f4.b (da_cons (de_v 1) (da_cons (de_v 3) (da_cons (de_v 4) (da_cons (de_v 2) da_nil))))))
  (dss_cons (ds_set 6 sc_law_asked.nd (de_if (dt_cmp (op_fIn (hu_of hr)) (de_v 1) (de_tup (da_cons de_int (da_cons de_int (da_cons de_int (da_cons de_int (da_cons de_int da_nil)))))) rfl) (de_tup (da_cons (de_v 3) (da_cons (de_v 4) da_nil))) (de_tup (da_cons (de_v 3) da_nil))))
  (dss_cons (ds_if (dt_not (dt_tr (de_call (ok_law_same T) fnR_ar (hr.mono (by decide)) (takes_of rfl rfl rfl rfl) T.f2.m T.f2.k T.f2.b (da_cons (de_call (ok_law_fields T) fnR_ar (hr.mono (by decide)) (takes_of rfl rfl rfl rfl) T.f5.m T.f5.k T.f5.b (da_cons (de_v 1) (da_cons (de_v 5) da_nil))) (da_cons (de_v 6) da_nil))))) (dss_one (ds_ret de_bl)) dss_nil)
  (dss_cons (ds_set 7 sc_law_asked.nd (de_ix (de_tup (da_cons de_int (da_cons de_int (da_cons de_int (da_cons de_int (da_cons de_int (da_cons de_int (da_cons de_int (da_cons de_int (da_cons de_int da_nil)))))))))) (de_v 1)))
  (dss_cons (ds_as (de_call (ok_law_kinds T) fnR_ar (hr.mono (by decide)) (takes_of rfl rfl rfl rfl) T.f11.m T.f11.k T.f11.b (da_cons (de_v 5) da_nil)) (dg_t rfl (dgs_cons (dg_n 8 sc_law_asked.nd) (dgs_cons (dg_n 9 sc_law_asked.nd) dgs_nil))))
  (dss_cons (ds_if (DW.t (dw_or (dt_cmp (op_fNe hr.units) (de_v 8) (de_lc rfl sc_law_asked.nd (di_r1 rfl T.n_range (da_cons de_int da_nil)) (own := [("at", 10)]) (show BlkOk ["sieve", "which", "way", "one", "other", "error", "due", "family", "own", "families", "at", "told", "fields"] (defScope (top 28)) _ _ from ⟨by rfl, by decide +kernel, by decide +kernel, by decide +kernel, by decide +kernel⟩) (fun _ _ _ _ _ => (dg_n 10 sc_law_asked.nd)) (fun _ _ _ _ _ => dts_nil) (fun _ _ _ _ _ => (de_cmp (op_fEq hr.units) (de_v 10) (de_v 1) rfl))) rfl) (dw_or1 (dt_cmp (op_fNe hr.units) (de_v 9) (de_lc rfl sc_law_asked.nd (di_r1 rfl T.n_range (da_cons de_int da_nil)) (own := [("at", 10)]) (show BlkOk ["sieve", "which", "way", "one", "other", "error", "due", "family", "own", "families", "at", "told", "fields"] (defScope (top 28)) _ _ from ⟨by rfl, by decide +kernel, by decide +kernel, by decide +kernel, by decide +kernel⟩) (fun _ _ _ _ _ => (dg_n 10 sc_law_asked.nd)) (fun _ _ _ _ _ => dts_nil) (fun _ _ _ _ _ => (de_cmp (op_fEq hr.units) (de_v 10) (de_v 7) rfl))) rfl)))) (dss_one (ds_ret de_bl)) dss_nil)
  (dss_cons (ds_if (DW.t (dw_or (dt_not (dt_tr (de_isx (v := .ref (cl 0)) (T.fam.isx 0) (fun _ r => r) (pe_glob rfl T.m_LastError rfl) rfl T.n_isinstance (de_v 5)))) (dw_or1 (dt_not (dt_tr (de_isx (v := .ty "ValueError") T.isv (fun _ r => r) (pe_bltn rfl T.n_ValueError (by decide +kernel) rfl) rfl T.n_isinstance (de_v 5))))))) (dss_one (ds_ret de_bl)) dss_nil)
  (dss_cons (ds_as (de_call (ok_law_family T) fnR_ar (hr.mono (by decide)) (takes_of rfl rfl rfl rfl) T.f7.m T.f7.k T.f7.b (da_cons (de_v 1) (da_cons (de_v 3) (da_cons (de_v 4) da_nil)))) (dg_t rfl (dgs_cons (dg_n 11 sc_law_asked.nd) (dgs_cons (dg_n 12 sc_law_asked.nd) dgs_nil))))
  (dss_cons (ds_if (DW.t (dw_or (dt_cmp (op_fNe hr.units) (de_v 11) (de_v 7) rfl) (dw_or (dt_not (dt_tr (de_call (ok_law_same T) fnR_ar (hr.mono (by decide)) (takes_of rfl rfl rfl rfl) T.f2.m T.f2.k T.f2.b (da_cons (de_v 12) (da_cons (de_v 6) da_nil))))) (dw_or1 (dt_not (dt_tr (de_call (ok_law_any T) fnR_ar (hr.mono (by decide)) (takes_of rfl rfl rfl rfl) T.f10.m T.f10.k T.f10.b (da_cons (de_v 1) (da_cons (de_v 3) (da_cons (de_v 4) da_nil)))))))))) (dss_one (ds_ret de_bl)) dss_nil)
  (dss_one (ds_ret (de_and (de_cmp (op_fEq hr.units) (de_call (ok_law_own T) fnR_ar (hr.mono (by decide)) (takes_of rfl rfl rfl rfl) T.f8.m T.f8.k T.f8.b (da_cons (de_v 1) (da_cons (de_v 3) (da_cons (de_v 4) da_nil)))) (de_v 1) rfl) (de_one (de_cmp (op_fEq hr.units) (de_call (ok_law_ahead T) fnR_ar (hr.mono (by decide)) (takes_of rfl rfl rfl rfl) T.f9.m T.f9.k T.f9.b (da_cons (de_v 1) (da_cons (de_v 3) (da_cons (de_v 4) da_nil)))) (de_v 1) rfl)))))))))))))))
theorem sc_law_very : FnScope ["sieve", "which", "box", "case", "error", "more", "fields"] ["sieve", "which"] (defScope (top 29)) := ⟨rfl, rfl, rfl, by decide +kernel, rfl, by decide +kernel, by decide +kernel⟩
theorem ok_law_very (T : Txt K mg cl ini ifd fa ffd) : FnOk P w K mg base (L2.CX P w) 4 (fa 13) (ffd 13) ["sieve", "which"] (spI K cl 2 F_law_very) :=
  ok_fn T.f13.F sc_law_very fun cdv A outer s H E hr => by
    exact (dss_cons (ds_par 2 3 rfl sc_law_very.nd (da_cons (de_lst (da_cons (de_call (ok_law_sift T) fnR_ar (hr.mono (by decide)) (takes_of rfl rfl rfl rfl) T.f1.m T.f1.k T.f1.b (da_cons (de_v 0) (da_cons de_int da_nil))) da_nil)) (da_cons (de_lst (da_cons de_str da_nil)) da_nil)))
  (dss_cons (ds_set 4 sc_law_very.nd (de_call (ok_law_made T) fnR_ar (hr.mono (by decide)) (takes_of rfl rfl rfl rfl) T.f4.m T.f4.k T.f4.b (da_cons (de_v 1) (da_cons (de_v 2) (da_cons (de_v 3) (da_cons (de_call (ok_law_sift T) fnR_ar (hr.mono (by decide)) (takes_of rfl rfl rfl rfl) T.f1.m T.f1.k T.f1.b (da_cons (de_v 0) (da_cons de_int da_nil))) da_nil))))))
  (dss_cons (ds_set 5 sc_law_very.nd (de_call (ok_law_sift T) fnR_ar (hr.mono (by decide)) (takes_of rfl rfl rfl rfl) T.f1.m T.f1.k T.f1.b (da_cons (de_v 0) (da_cons de_int da_nil))))
  (dss_cons (ds_expr (de_mt PySem.F.plainAttrs_list PySem.F.slot_list_append PySem.F.type_list_append m_append ty_list (de_v 2) (da_cons (de_v 5) da_nil)))
  (dss_cons (ds_expr (de_mt PySem.F.plainAttrs_list PySem.F.slot_list_append PySem.F.type_list_append m_append ty_list (de_v 3) (da_cons (de_tup (da_cons (de_v 5) (da_cons de_non da_nil))) da_nil)))
  (dss_cons (ds_set 6 sc_law_very.nd (de_call (ok_law_fields T) fnR_ar (hr.mono (by decide)) (takes_of rfl rfl rfl rfl) T.f5.m T.f5.k T.f5.b (da_cons (de_v 1) (da_cons (de_v 4) da_nil))))
  (dss_cons (ds_if (DW.t (dw_or (dt_cmp (op_fNe hr.units) (de_b b_len rfl T.n_len (by decide +kernel) (da_cons (de_ix (de_v 6) de_int) da_nil)) de_int rfl) (dw_or1 (dt_not (dt_tr (de_call (ok_law_same T) fnR_ar (hr.mono (by decide)) (takes_of rfl rfl rfl rfl) T.f2.m T.f2.k T.f2.b (da_cons (de_ix (de_ix (de_v 6) de_int) de_int) (da_cons (de_v 5) da_nil)))))))) (dss_one (ds_ret de_bl)) dss_nil)
  (dss_one (ds_ret (de_or (de_cmp (op_fEq hr.units) (de_b b_len rfl T.n_len (by decide +kernel) (da_cons (de_v 6) da_nil)) de_int rfl) (de_one (de_call (ok_law_same T) fnR_ar (hr.mono (by decide)) (takes_of rfl rfl rfl rfl) T.f2.m T.f2.k T.f2.b (da_cons (de_ix (de_v 6) de_int) (da_cons (de_lst (da_cons de_str (da_cons (de_tup (da_cons (de_v 5) (da_cons de_non da_nil))) da_nil))) da_nil))))))))))))))
theorem sclaw : FnScope ["script", "sieve", "which", "way", "first", "other"] ["script"] (defScope (top 30)) := ⟨rfl, rfl, rfl, by decide +kernel, rfl, by decide +kernel, by decide +kernel⟩
theorem oklaw (T : Txt K mg cl ini ifd fa ffd) : FnOk P w K mg base (L2.CX P w) 6 (fa 14) (ffd 14) ["script"] (spI K cl 1 Flaw) :=
  ok_fn T.f14.F sclaw fun cdv A outer s H E hr => by
    exact (dss_cons (ds_set 1 sclaw.nd (de_call (ok_law_sieve T) fnR_ar (hr.mono (by decide)) (takes_of rfl rfl rfl rfl) T.f0.m T.f0.k T.f0.b (da_cons (de_v 0) da_nil)))
  (dss_cons (ds_for (passes_of rfl) rfl (di_r1 rfl T.n_range (da_cons de_int da_nil)) (dg_n 2 sclaw.nd) (dss_cons (ds_for (passes_of rfl) rfl (di_r1 rfl T.n_range (da_cons de_int da_nil)) (dg_n 3 sclaw.nd) (dss_one (ds_if (dt_not (dt_tr (de_call (ok_law_asked T) fnR_ar (hr.mono (by decide)) (takes_of rfl rfl rfl rfl) T.f12.m T.f12.k T.f12.b (da_cons (de_v 1) (da_cons (de_v 2) (da_cons (de_v 3) da_nil)))))) (dss_one (ds_ret de_bl)) dss_nil)))
  (dss_one (ds_if (dt_not (dt_tr (de_call (ok_law_very T) fnR_ar (hr.mono (by decide)) (takes_of rfl rfl rfl rfl) T.f13.m T.f13.k T.f13.b (da_cons (de_v 1) (da_cons (de_v 2) da_nil))))) (dss_one (ds_ret de_bl)) dss_nil))))
  (dss_cons (ds_par 4 5 rfl sclaw.nd (da_cons (de_call (ok_law_made T) fnR_ar (hr.mono (by decide)) (takes_of rfl rfl rfl rfl) T.f4.m T.f4.k T.f4.b (da_cons de_int (da_cons de_str (da_cons de_str (da_cons de_int da_nil))))) (da_cons (de_call (ok_law_made T) fnR_ar (hr.mono (by decide)) (takes_of rfl rfl rfl rfl) T.f4.m T.f4.k T.f4.b (da_cons de_int (da_cons de_str (da_cons de_str (da_cons de_int da_nil))))) da_nil)))
  (dss_one (ds_ret (de_call (ok_law_same T) fnR_ar (hr.mono (by decide)) (takes_of rfl rfl rfl rfl) T.f2.m T.f2.k T.f2.b (da_cons (de_tup (da_cons (de_xr (T.xat_word) (de_v 4)) (da_cons (de_xr (T.xat_name) (de_v 4)) (da_cons (de_xr (T.xat_word) (de_v 5)) (da_cons (de_xr (T.xat_name) (de_v 5)) da_nil))))) (da_cons (de_tup (da_cons de_str (da_cons de_str (da_cons de_str (da_cons de_str da_nil))))) da_nil))))))))
end K98
namespace K98
open Fl PySem
/-- the fields of an error of the w-th kind -/
def flds (w : Nat) (a b : D) : List (Str × D) := match w with
  | 0 => [("word", a)] | 1 => [("name", b), ("word", a)] | 2 => [("word", b), ("at", a)] | 3 => [("word", b), ("at", a)] | 4 => [("word", a)] | 5 => [("word", b), ("line", a)] | 6 => [("line", a)] | 7 => [("name", b), ("word", a)] | _ => [("name", a)]
theorem sn1 : ((("word" : Str) == "name") = false) ∧ ((("name" : Str) == "word") = false) ∧ ((("at" : Str) == "word") = false) ∧ ((("word" : Str) == "at") = false) ∧ ((("word" : Str) == "line") = false) ∧ ((("line" : Str) == "word") = false) := by decide
theorem nine {w : Nat} (hw : w < 9) : w = 0 ∨ w = 1 ∨ w = 2 ∨ w = 3 ∨ w = 4 ∨ w = 5 ∨ w = 6 ∨ w = 7 ∨ w = 8 := by omega
theorem raised {w : Nat} (hw : w < 9) (a b : D) (h : IH) : F_law_raised [.int w, a, b] h = .ex (w + 5) (flds w a b) h := by
  unfold F_law_raised S_law_raised
  rcases nine hw with rfl | rfl | rfl | rfl | rfl | rfl | rfl | rfl | rfl <;> simp [fEq, flds]
/-! ### the heap grows -/
def Ex (h h' : IH) : Prop := ∀ (n : Nat) (o : HB), h[n]? = some o → h'[n]? = some o
def ExS (s : Nat) (h h' : IH) : Prop := ∀ (n : Nat) (o : HB), n ≠ s → h[n]? = some o → h'[n]? = some o
theorem Ex.refl (h : IH) : Ex h h := fun _ _ e => e
theorem Ex.trans {a b c : IH} (p : Ex a b) (q : Ex b c) : Ex a c := fun n o e => q n o (p n o e)
theorem Ex.app (h l : IH) : Ex h (h ++ l) := fun n o e => by
  rw [List.getElem?_append_left (List.getElem?_eq_some_iff.mp e).1]
  exact e
theorem Ex.s {s : Nat} {a b : IH} (p : Ex a b) : ExS s a b := fun n o _ e => p n o e
theorem ExS.trans {s : Nat} {a b c : IH} (p : ExS s a b) (q : ExS s b c) : ExS s a c := fun n o ne e => q n o ne (p n o ne e)
theorem Ex.len {a b : IH} (p : Ex a b) : a.length ≤ b.length := by
  cases h : a.length with
  | zero => omega
  | succ n =>
    have hn : n < a.length := by omega
    have := p n _ (List.getElem?_eq_getElem hn)
    have := (List.getElem?_eq_some_iff.mp this).1
    omega
theorem made {w y : Nat} (hw : w < 9) (hy : y < 3) (a b : D) (h : IH) : ∃ k h', F_law_made [.int w, a, b, .int y] h = .ok (.ref k) h' ∧ h'[k]? = some (.exc (w + 5) (flds w a b)) ∧ Ex h h' ∧ h.length ≤ k := by
  unfold F_law_made S_law_made
  have hy3 : y = 0 ∨ y = 1 ∨ y = 2 := by omega
  rcases nine hw with rfl | rfl | rfl | rfl | rfl | rfl | rfl | rfl | rfl <;> rcases hy3 with rfl | rfl | rfl <;> simp [flds] <;> (refine ⟨_, _, ⟨rfl, rfl⟩, ?_⟩) <;> simp [List.getElem?_append, Ex.app] <;>
    exact ⟨by rw [List.getElem_append_right (by omega)]; simp [show ∀ n : Nat, n + 1 + 1 - n = 2 by intro n; omega], by omega⟩
theorem fields {w k : Nat} (hw : w < 9) (a b : D) (h : IH) (e : h[k]? = some (.exc (w + 5) (flds w a b))) :
    F_law_fields [.int w, .ref k] h = .ok (.tup (if w = 1 ∨ w = 2 ∨ w = 3 ∨ w = 5 ∨ w = 7 then [a, b] else [a])) h := by
  unfold F_law_fields S_law_fields
  rcases nine hw with rfl | rfl | rfl | rfl | rfl | rfl | rfl | rfl | rfl <;> simp [e, flds, NC, List.lookup, sn1]
end K98
namespace K98
open Fl PySem
/-- the family of an error -/
theorem dfam (w : Nat) (a b : D) : (flds w a b).length ≤ 2 := by
  unfold flds
  split <;> simp
theorem upC_tab : ∀ w k : Nat, w < 9 → k < 14 → subN NC upC (w + 5) k = some (upC (w + 5) k) := fun w k hw hk => by
  unfold subN
  rw [if_pos ⟨by show w + 5 < 14; omega, hk⟩]
def fam (w : Nat) : Nat := match w with
  | 0 => 0 | 1 => 0 | 2 => 0 | 3 => 0 | 4 => 1 | 5 => 2 | 6 => 2 | _ => 3
def due (w : Nat) (a b : D) : List D := if w = 1 ∨ w = 2 ∨ w = 3 ∨ w = 5 ∨ w = 7 then [a, b] else [a]
theorem family {w : Nat} (hw : w < 9) (a b : D) (h : IH) : F_law_family [.int w, a, b] h = .ok (.tup [.int (fam w), .tup (due w a b)]) (h ++ [.exc (w + 5) (flds w a b)]) := by
  unfold F_law_family S_law_family
  rw [fnR_ap]
  simp only [List.length_cons, List.length_nil, if_pos, sSeq_ap, sTry_ap, sEx_ap, eB_ap, aCons_ap, eV_ap, aNil_ap, List.map_cons, List.map_nil, List.replicate, List.cons_append, List.nil_append, List.getElem?_cons_zero, List.getElem?_cons_succ, bind_ok, raised hw, st_ex, sTr2_ex]
  have e : (h ++ [.exc (w + 5) (flds w a b)])[h.length]? = some (.exc (w + 5) (flds w a b)) := by simp
  have fl := fields hw a b _ e
  rcases nine hw with rfl | rfl | rfl | rfl | rfl | rfl | rfl | rfl | rfl <;> simp at fl <;> simp [hdGo, subN, upC, NC, unS, fl, fam, due]
theorem any {w : Nat} (hw : w < 9) (a b : D) (h : IH) : ∃ h', F_law_any [.int w, a, b] h = .ok (.bl true) h' ∧ Ex h h' := by
  refine ⟨h ++ [.exc (w + 5) (flds w a b)], ?_, Ex.app _ _⟩
  unfold F_law_any S_law_any
  rw [fnR_ap]
  have r := raised hw a b h
  rcases nine hw with rfl | rfl | rfl | rfl | rfl | rfl | rfl | rfl | rfl <;> simp at r <;> simp [r, hdGo, subN, upC, NC, unS]
theorem own {w : Nat} (hw : w < 9) (a b : D) (h : IH) : ∃ h', F_law_own [.int w, a, b] h = .ok (.int w) h' ∧ Ex h h' := by
  refine ⟨h ++ [.exc (w + 5) (flds w a b)], ?_, Ex.app _ _⟩
  unfold F_law_own S_law_own
  rw [fnR_ap]
  have r := raised hw a b h
  rcases nine hw with rfl | rfl | rfl | rfl | rfl | rfl | rfl | rfl | rfl <;> simp at r <;> simp [r, hdGo, subN, upC, NC, unS]
theorem ahead {w : Nat} (hw : w < 9) (a b : D) (h : IH) : ∃ h', F_law_ahead [.int w, a, b] h = .ok (.int w) h' ∧ Ex h h' := by
  refine ⟨h ++ [.exc (w + 5) (flds w a b)], ?_, Ex.app _ _⟩
  unfold F_law_ahead S_law_ahead
  rw [fnR_ap]
  have r := raised hw a b h
  rcases nine hw with rfl | rfl | rfl | rfl | rfl | rfl | rfl | rfl | rfl <;> simp at r <;> simp [r, hdGo, subN, upC, NC, unS]
theorem at_app (h l : IH) (n : Nat) : (h ++ l)[h.length + n]? = l[n]? := by
  rw [List.getElem?_append_right (Nat.le_add_right _ _), Nat.add_sub_cancel_left]
theorem kinds {w k : Nat} (hw : w < 9) (a b : D) (h : IH) (e : h[k]? = some (.exc (w + 5) (flds w a b))) : ∃ p q h', F_law_kinds [.ref k] h = .ok (.tup [.ref p, .ref q]) h' ∧ Ex h h' ∧
    h'[p]? = some (.lst ((List.range 9).map fun i => .bl (decide (i = w)))) ∧ h'[q]? = some (.lst ((List.range 4).map fun i => .bl (decide (i = fam w)))) := by
  have ex : ∀ l : IH, (h ++ l)[k]? = some (.exc (w + 5) (flds w a b)) := fun l => Ex.app h l _ _ e
  unfold F_law_kinds S_law_kinds
  simp only [fnR_ap]
  rcases nine hw with rfl | rfl | rfl | rfl | rfl | rfl | rfl | rfl | rfl <;> simp at e ex <;> simp [e, ex, subN, upC, NC, fAdd, fam]
  all_goals exact ⟨_, _, _, ⟨⟨rfl, rfl⟩, rfl⟩, Ex.app _ _, (at_app _ _ 2).trans rfl, (at_app _ _ 3).trans rfl⟩
end K98
namespace K98
open Fl PySem
/-! ### the sieve -/
/-- the list of grains, the stirred number, how often it was asked -/
structure Sv (h : IH) (s : Nat) (n : Nat) : Prop where
  e : ∃ (g : Nat) (gs : List Int) (st : Int) (t : Nat), h[s]? = some (.lst [.ref g, .int st, .int t]) ∧ h[g]? = some (.lst (gs.map D.int)) ∧ gs ≠ [] ∧ g ≠ s ∧ t ≤ n
theorem Sv.ex {h h' : IH} {s n : Nat} (S : Sv h s n) (e : Ex h h') : Sv h' s n := by
  obtain ⟨g, gs, st, t, a, b, c⟩ := S.e
  exact ⟨g, gs, st, t, e _ _ a, e _ _ b, c⟩
theorem mulok {i j : Int} (h : -(2 ^ 64) < j ∧ j < 2 ^ 64) : Fl.MulOk i j := .inr h
theorem getD_map {gs : List Int} {n : Nat} (h : n < gs.length) : (gs.map D.int)[n]? = some (.int gs[n]) := by simp [h]
theorem sift {h : IH} {s n : Nat} (S : Sv h s n) (hn : n ≤ 1000000) {m : Int} (hm : 0 < m) : ∃ (v : Int) (h' : IH), F_law_sift [.ref s, .int m] h = .ok (.int v) h' ∧ 0 ≤ v ∧ v < m ∧ Sv h' s (n + 1) ∧ ExS s h h' ∧ h.length = h'.length := by
  obtain ⟨g, gs, st, t, e1, e2, ne, gn, tl⟩ := S.e
  have hs := (List.getElem?_eq_some_iff.mp e1).1
  have z : ∀ d, (h.set s d)[s]? = some d := fun d => List.getElem?_set_self hs
  have z2 : ∀ d, (h.set s d)[g]? = some (.lst (gs.map D.int)) := fun d => by rw [List.getElem?_set_ne (Ne.symm gn)]; exact e2
  have hl : 0 < gs.length := List.length_pos_iff.mpr ne
  have i1 : (0 : Int) ≤ (t : Int) % (gs.length : Int) := Int.emod_nonneg _ (by omega)
  have i2 : (t : Int) % (gs.length : Int) < gs.length := Int.emod_lt_of_pos _ (by omega)
  obtain ⟨k, hk⟩ := Int.eq_ofNat_of_zero_le i1
  have hk2 : k < gs.length := by omega
  unfold F_law_sift S_law_sift
  refine ⟨(gs[k] + ((st + t * 1913) * (t * 23 + 3001)) % 10299991 / 19) % m, h.set s (.lst [.ref g, .int st, .int (t + 1)]), ?_, ?_, ?_, ⟨g, gs, st, t + 1, ?_, z2 _, ne, gn, by omega⟩, fun n o hne e => ?_, by simp⟩
  · have m1 : Fl.MulOk (t : Int) 1913 := mulok (by omega)
    have m2 : Fl.MulOk (t : Int) 23 := mulok (by omega)
    have m3 : Fl.MulOk (st + (t : Int) * 1913) ((t : Int) * 23 + 3001) := mulok (by omega)
    simp [e1, z, z2, fPut, L2.ixN, m1, m2, m3, bLen, hk, hl, hk2, hm]
  · exact Int.emod_nonneg _ (by omega)
  · exact Int.emod_lt_of_pos _ hm
  · rw [z]; simp
  · rw [List.getElem?_set_ne (Ne.symm hne)]; exact e
end K98
namespace K98
open Fl PySem
/-- the frame while the sieve is filled; the heap: the grains, the cells that are read -/
structure Fi (sc : D) (sl : List Int) (most : Nat) (e : Lc) (h : IH) : Prop where
  e : ∃ (gs : List Int) (st : Int) (x3 x4 x5 : Option D), e = [some sc, some (.ref 0), some (.int st), x3, x4, x5] ∧ h = [.lst (gs.map D.int), .lst (sl.map D.int)] ∧ gs.length ≤ most
theorem inner_fill {c : IH → Prop} (hc : ∀ h, c h) {sc : D} {sl : List Int} {ds : List D} {e : Lc} {h : IH} {gs : List Int} {st size : Int} {x3 x5 : Option D} (he : e = [some sc, some (.ref 0), some (.int st), x3, some (.int size), x5]) (hh : h = [.lst (gs.map D.int), .lst (sl.map D.int)])
    (few : gs.length + ds.length ≤ 5000) : ∃ e' h', forGo c (.n 5) (sSeq (sEx (eMt isLst mAppend (eV 1) (aCons (eOp fMod (eV 4) (eC (.int 953))) aNil))) (sSeq (sAs (.n 4) (eOp fDiv (eV 4) (eC (.int 953)))) (sIf (tB (eOp (fEq false) (eV 4) (eC (.int 0)))) sBk sNx))) ds e h = .nx e' h' ∧
      Fi sc sl (gs.length + ds.length) e' h' := by
  refine for_run (fun i e h => ∃ (gs2 : List Int) (size2 : Int) (x : Option D), e = [some sc, some (.ref 0), some (.int st), x3, some (.int size2), x] ∧ h = [.lst (gs2.map D.int), .lst (sl.map D.int)] ∧ gs2.length = gs.length + i)
    (fun r => ∃ e' h', r = .nx e' h' ∧ Fi sc sl (gs.length + ds.length) e' h') ?_ ?_ ⟨gs, size, x5, he, hh, rfl⟩
  · rintro i d e h hi ⟨gs2, size2, x, rfl, rfl, hl⟩
    have hi2 := (List.getElem?_eq_some_iff.mp hi).1
    refine ⟨hc _, _, rfl, ?_⟩
    have sm : gs2.length < 16777216 := by omega
    have ev : (sSeq (sEx (eMt isLst mAppend (eV 1) (aCons (eOp fMod (eV 4) (eC (.int 953))) aNil))) (sSeq (sAs (.n 4) (eOp fDiv (eV 4) (eC (.int 953)))) (sIf (tB (eOp (fEq false) (eV 4) (eC (.int 0)))) sBk sNx))) [some sc, some (.ref 0), some (.int st), x3, some (.int size2), some d] [.lst (gs2.map D.int), .lst (sl.map D.int)]
        = if size2 / 953 = 0 then .bk [some sc, some (.ref 0), some (.int st), x3, some (.int (size2 / 953)), some d] [.lst ((gs2 ++ [size2 % 953]).map D.int), .lst (sl.map D.int)] else .nx [some sc, some (.ref 0), some (.int st), x3, some (.int (size2 / 953)), some d] [.lst ((gs2 ++ [size2 % 953]).map D.int), .lst (sl.map D.int)] := by
      simp [mAppend, sm, sizeLine_eq]
    show (∃ e2 h2, (_ = _ ∨ _ = _) ∧ _) ∨ _
    simp only [List.set_cons_succ, List.set_cons_zero]
    rw [ev]
    by_cases z : size2 / 953 = 0
    · rw [if_pos z]
      refine .inr (.inl ⟨_, _, rfl, _, _, rfl, ⟨gs2 ++ [size2 % 953], st, x3, _, _, rfl, rfl, ?_⟩⟩)
      rw [List.length_append, List.length_singleton]
      omega
    · rw [if_neg z]
      refine .inl ⟨_, _, .inl rfl, gs2 ++ [size2 % 953], _, _, rfl, rfl, ?_⟩
      rw [List.length_append, List.length_singleton]
      omega
  · rintro e h ⟨gs2, size2, x, rfl, rfl, hl⟩
    exact ⟨hc _, _, _, rfl, ⟨gs2, st, x3, _, _, rfl, rfl, by omega⟩⟩
theorem sieve {ns : List Int} (hn : ns.length ≤ 63) : ∃ k h, F_law_sieve [.fls (ns.map D.int)] [] = .ok (.ref k) h ∧ Sv h k 0 := by
  unfold F_law_sieve S_law_sieve
  have cut : ∃ sl : List Int, cutD (ns.map D.int) none (some 55) = sl.map D.int ∧ sl.length ≤ 63 := by
    refine ⟨cutD ns none (some 55), ?_, ?_⟩
    · unfold cutD
      simp [List.map_take, List.map_drop]
    · unfold cutD
      rw [List.length_take, List.length_drop]
      omega
  obtain ⟨sl, cut, sll⟩ := cut
  have loop : ∃ e' h', sFor (Tg.n 3) (iE (eSl (eV 0) oN (oE (eC (D.int 55)))))
              (sSeq (sAs (Tg.n 4) (eOp fMod (eB bInt (aCons (eV 3) aNil)) (eOp fPow (eC (D.int 10)) (eC (D.int 46)))))
                (sSeq
                  (sAs (Tg.n 2)
                    (eOp fMod
                      (eOp fAdd (eOp fAdd (eOp fMul (eV 2) (eC (D.int 181))) (eOp fMod (eV 4) (eC (D.int 999613))))
                        (eC (D.int 41)))
                      (eC (D.int 10299991))))
                  (sFor (Tg.n 5) (iR1 (aCons (eC (D.int 16)) aNil))
                    (sSeq (sEx (eMt isLst mAppend (eV 1) (aCons (eOp fMod (eV 4) (eC (D.int 953))) aNil)))
                      (sSeq (sAs (Tg.n 4) (eOp fDiv (eV 4) (eC (D.int 953))))
                        (sIf (tB (eOp (fEq false) (eV 4) (eC (D.int 0)))) sBk sNx)))))) [some (D.fls (List.map D.int ns)), some (D.ref 0), some (D.int 22098), none, none, none] [HB.lst []] = .nx e' h' ∧ Fi (.fls (ns.map D.int)) sl (sl.length * 16) e' h' := by
    simp only [sFor_ap, iE_ap, eSl_ap, eV_ap, oN_ap, oE_ap, eC_ap, List.getElem?_cons_zero, bind_ok, fSl, cut, itS, List.length_cons, List.length_nil, List.cons_append, List.nil_append, List.getElem?_cons_succ, st_ok, Nat.zero_add]
    refine for_run (fun i e h => Fi (.fls (ns.map D.int)) sl (i * 16) e h) (fun r => ∃ e' h', r = .nx e' h' ∧ Fi (.fls (ns.map D.int)) sl (sl.length * 16) e' h') ?_ ?_ ⟨[], 22098, none, none, none, rfl, rfl, by simp⟩
    · rintro i d e h hi ⟨gs, st, x3, x4, x5, rfl, rfl, hl⟩
      have hi2 := (List.getElem?_eq_some_iff.mp hi).1
      rw [List.length_map] at hi2
      obtain ⟨z, rfl⟩ : ∃ z : Int, d = .int z := by
        rw [List.getElem?_map, List.getElem?_eq_getElem hi2] at hi
        exact ⟨_, (Option.some.inj hi).symm⟩
      refine ⟨rfl, _, rfl, .inl ?_⟩
      have p46 : (0 : Int) < 10 ^ 46 := by decide
      have m1 : Fl.MulOk st 181 := mulok (by omega)
      have f16 : (rgD 0 (Int.toNat 16)).length = 16 := rgD_len
      obtain ⟨e2, h2, q1, q2⟩ := inner_fill (c := fun _ => True) (fun _ => trivial) (sc := .fls (ns.map D.int)) (sl := sl) (ds := rgD 0 (Int.toNat 16)) (gs := gs) (st := (st * 181 + (z % 10 ^ 46) % 999613 + 41) % 10299991) (size := z % 10 ^ 46) (x3 := some (.int z)) (x5 := x5) rfl rfl (by rw [f16]; omega)
      rw [f16] at q2
      refine ⟨e2, h2, .inl ?_, ?_⟩
      · simp only [List.set_cons_succ, List.set_cons_zero]
        rw [← q1]
        simp [m1, p46]
      · obtain ⟨gs2, st2, y3, y4, y5, a1, a2, a3⟩ := q2
        exact ⟨gs2, st2, y3, y4, y5, a1, a2, by omega⟩
    · rintro e h ⟨gs, st, x3, x4, x5, rfl, rfl, hl⟩
      rw [List.length_map] at hl
      exact ⟨rfl, _, _, rfl, ⟨gs, st, x3, x4, x5, rfl, rfl, hl⟩⟩
  obtain ⟨e', h', q1, gs, st, x3, x4, x5, rfl, rfl, hl⟩ := loop
  simp only [fnR_ap, sSeq_ap, sPar_ap, aCons_ap, eLst_ap, aNil_ap, bind_ok, st_ok, List.length_nil, Nat.zero_le, if_pos, List.length_cons, List.map_cons, List.map_nil, eC_ap, List.replicate, List.cons_append, List.nil_append, List.set_cons_succ, List.set_cons_zero, sq_nx, q1]
  cases gs with
  | nil =>
    simp
    exact ⟨_, _, ⟨rfl, rfl⟩, ⟨2, [1], st, 0, rfl, rfl, by simp, by simp, by simp⟩⟩
  | cons g gs =>
    simp
    exact ⟨_, _, ⟨rfl, rfl⟩, ⟨0, g :: gs, st, 0, rfl, rfl, by simp, by simp, by simp⟩⟩
end K98
namespace K98
open Fl PySem
mutual
/-- a and b are alike, n nodes; no list of theirs stands at s -/
inductive Sm (s : Nat) (h : IH) : D → D → Nat → Prop
  | non : Sm s h .non .non 1
  | bl (b : Bool) : Sm s h (.bl b) (.bl b) 1
  | int (i : Int) : Sm s h (.int i) (.int i) 1
  | str (x : Str) : PyData.strOk x = true → Sm s h (.str x) (.str x) 1
  | tup {l m : List D} {n : Nat} : l.length = m.length → Smp s h (l.zip m) n → Sm s h (.tup l) (.tup m) (n + 1)
  | lst {r q n : Nat} {l m : List D} : r ≠ s → q ≠ s → h[r]? = some (.lst l) → h[q]? = some (.lst m) → l.length = m.length → Smp s h (l.zip m) n → Sm s h (.ref r) (.ref q) (n + 1)
inductive Smp (s : Nat) (h : IH) : List (D × D) → Nat → Prop
  | nil : Smp s h [] 0
  | cons {a b : D} {n k : Nat} {S : List (D × D)} : Sm s h a b n → Smp s h S k → Smp s h ((a, b) :: S) (n + k)
end
theorem Smp.app {s : Nat} {h : IH} : ∀ {S T : List (D × D)} {n k : Nat}, Smp s h S n → Smp s h T k → Smp s h (S ++ T) (n + k)
  | [], T, _, k, .nil, q => by simpa using q
  | _ :: S, T, _, k, .cons a p, q => by
    have z := Smp.cons a (Smp.app p q)
    rw [← Nat.add_assoc] at z
    exact z
theorem Smp.rev {s : Nat} {h : IH} : ∀ {S : List (D × D)} {n : Nat}, Smp s h S n → Smp s h S.reverse n
  | [], _, .nil => .nil
  | _ :: S, _, .cons (n := n) (k := k) a p => by
    rw [List.reverse_cons]
    have z := Smp.app (Smp.rev p) (Smp.cons a .nil)
    rw [Nat.add_zero, Nat.add_comm] at z
    exact z
mutual
theorem Sm.ex {s : Nat} {h h' : IH} (x : ExS s h h') : ∀ {a b : D} {n : Nat}, Sm s h a b n → Sm s h' a b n
  | _, _, _, .non => .non
  | _, _, _, .bl b => .bl b
  | _, _, _, .int i => .int i
  | _, _, _, .str z q => .str z q
  | _, _, _, .tup e p => .tup e (Smp.ex x p)
  | _, _, _, .lst n1 n2 e1 e2 e p => .lst n1 n2 (x _ _ n1 e1) (x _ _ n2 e2) e (Smp.ex x p)
theorem Smp.ex {s : Nat} {h h' : IH} (x : ExS s h h') : ∀ {S : List (D × D)} {n : Nat}, Smp s h S n → Smp s h' S n
  | _, _, .nil => .nil
  | _, _, .cons a p => .cons (Sm.ex x a) (Smp.ex x p)
end
/-- d reads as data, not deeper than j -/
def Pd (k : Nat) (h : IH) (j : Nat) (d : D) : Prop := ∃ x, pd k h d = some x ∧ x.canLay0 = true ∧ x.depth ≤ j
theorem pd_all {k : Nat} {h : IH} {j : Nat} : ∀ {l : List D}, (∀ d ∈ l, Pd k h j d) → ∃ xs, l.mapM (pd k h) = some xs ∧ PyData.canLayAll0 xs = true ∧ PyData.depthAll xs ≤ j ∧ xs.length = l.length
  | [], _ => ⟨[], rfl, rfl, Nat.zero_le _, rfl⟩
  | d :: l, q => by
    obtain ⟨x, e1, e2, e3⟩ := q d (List.mem_cons_self ..)
    obtain ⟨xs, f1, f2, f3, f4⟩ := pd_all (l := l) fun y hy => q y (List.mem_cons_of_mem _ hy)
    refine ⟨x :: xs, ?_, ?_, ?_, by simp [f4]⟩
    · rw [List.mapM_cons, e1, f1]
      rfl
    · show (x.canLay0 && PyData.canLayAll0 xs) = true
      rw [e2, f2]
      rfl
    · show max x.depth (PyData.depthAll xs) ≤ j
      omega
theorem pd_tup {k : Nat} {h : IH} {j : Nat} {l : List D} (q : ∀ d ∈ l, Pd k h j d) : Pd (k + 1) h (j + 1) (.tup l) := by
  obtain ⟨xs, f1, f2, f3, f4⟩ := pd_all q
  exact ⟨.tuple xs, by rw [pd, f1]; rfl, f2, by show PyData.depthAll xs + 1 ≤ j + 1; omega⟩
theorem pd_lst {k : Nat} {h : IH} {j r : Nat} {l : List D} (e : h[r]? = some (.lst l)) (q : ∀ d ∈ l, Pd k h j d) : ∃ xs, pd (k + 1) h (.ref r) = some (.list xs) ∧ PyData.canLayAll0 xs = true ∧ PyData.depthAll xs ≤ j ∧ xs.length = l.length := by
  obtain ⟨xs, f1, f2, f3, f4⟩ := pd_all q
  exact ⟨xs, by rw [pd, e]; dsimp only; rw [f1]; rfl, f2, f3, f4⟩
theorem mem_zip {α β : Type} : ∀ {l : List α} {m : List β}, l.length = m.length → (∀ a ∈ l, ∃ b, (a, b) ∈ l.zip m) ∧ (∀ b ∈ m, ∃ a, (a, b) ∈ l.zip m)
  | [], [], _ => ⟨fun _ h => absurd h (by simp), fun _ h => absurd h (by simp)⟩
  | x :: l, y :: m, e => by
    obtain ⟨p, q⟩ := mem_zip (l := l) (m := m) (by simpa using e)
    refine ⟨fun a ha => ?_, fun b hb => ?_⟩
    · rcases List.mem_cons.mp ha with rfl | ha
      · exact ⟨y, by simp⟩
      · obtain ⟨b, hb⟩ := p a ha
        exact ⟨b, by simp [hb]⟩
    · rcases List.mem_cons.mp hb with rfl | hb
      · exact ⟨x, by simp⟩
      · obtain ⟨a, ha⟩ := q b hb
        exact ⟨a, by simp [ha]⟩
mutual
theorem Sm.pd {s : Nat} {h0 h : IH} (x : Ex h0 h) : ∀ {a b : D} {n : Nat}, Sm s h0 a b n → ∀ k, n ≤ k → Pd k h n a ∧ Pd k h n b
  | _, _, _, .non, k + 1, _ => ⟨⟨_, rfl, rfl, Nat.zero_le _⟩, ⟨_, rfl, rfl, Nat.zero_le _⟩⟩
  | _, _, _, .bl _, k + 1, _ => ⟨⟨_, rfl, rfl, Nat.zero_le _⟩, ⟨_, rfl, rfl, Nat.zero_le _⟩⟩
  | _, _, _, .int _, k + 1, _ => ⟨⟨_, rfl, rfl, Nat.zero_le _⟩, ⟨_, rfl, rfl, Nat.zero_le _⟩⟩
  | _, _, _, .str z q, k + 1, _ => ⟨⟨_, rfl, q, Nat.zero_le _⟩, ⟨_, rfl, q, Nat.zero_le _⟩⟩
  | _, _, _, .tup (n := n) e p, k + 1, hk => by
    have z := Smp.pd x p k (by omega)
    obtain ⟨m1, m2⟩ := mem_zip e
    exact ⟨pd_tup fun d hd => (z _ (m1 d hd).choose_spec).1, pd_tup fun d hd => (z _ (m2 d hd).choose_spec).2⟩
  | _, _, _, .lst (n := n) n1 n2 e1 e2 e p, k + 1, hk => by
    have z := Smp.pd x p k (by omega)
    obtain ⟨m1, m2⟩ := mem_zip e
    obtain ⟨xs, a1, a2, a3, _⟩ := pd_lst (x _ _ e1) (j := n) (k := k) fun d hd => (z _ (m1 d hd).choose_spec).1
    obtain ⟨ys, b1, b2, b3, _⟩ := pd_lst (x _ _ e2) (j := n) (k := k) fun d hd => (z _ (m2 d hd).choose_spec).2
    exact ⟨⟨_, a1, a2, by show PyData.depthAll xs + 1 ≤ _; omega⟩, ⟨_, b1, b2, by show PyData.depthAll ys + 1 ≤ _; omega⟩⟩
theorem Smp.pd {s : Nat} {h0 h : IH} (x : Ex h0 h) : ∀ {S : List (D × D)} {n : Nat}, Smp s h0 S n → ∀ k, n ≤ k → ∀ p ∈ S, Pd k h n p.1 ∧ Pd k h n p.2
  | _, _, .nil, _, _, _, hp => by cases hp
  | _, _, .cons (a := a) (b := b) (n := n) (k := j) q r, k, hk, p, hp => by
    rcases List.mem_cons.mp hp with rfl | hp
    · obtain ⟨⟨u, a1, a2, a3⟩, ⟨v, b1, b2, b3⟩⟩ := Sm.pd x q k (by omega)
      exact ⟨⟨u, a1, a2, by omega⟩, ⟨v, b1, b2, by omega⟩⟩
    · obtain ⟨⟨u, a1, a2, a3⟩, ⟨v, b1, b2, b3⟩⟩ := Smp.pd x r k (by omega) p hp
      exact ⟨⟨u, a1, a2, by omega⟩, ⟨v, b1, b2, by omega⟩⟩
end
end K98
namespace K98
open Fl PySem
def tp (p : D × D) : D := .tup [p.1, p.2]
theorem eqv_nil (xs : List PyData) : PyData.eqv (.list xs) (.list []) = xs.isEmpty := by
  cases xs <;> rfl
/-- heap == [] -/
theorem eq_stack {s : Nat} {h0 h : IH} {p : Nat} {S : List (D × D)} {n : Nat} (x : Ex h0 h) (q : Smp s h0 S n) (hn : n ≤ 60) (e : h[p]? = some (.lst (S.map tp).reverse)) :
    fEq false (.ref p) (.ref h.length) (h ++ [.lst []]) = .ok (.bl S.isEmpty) (h ++ [.lst []]) := by
  have x2 : Ex h0 (h ++ [.lst []]) := x.trans (Ex.app _ _)
  have e2 := Ex.app h [.lst []] _ _ e
  have all : ∀ d ∈ (S.map tp).reverse, Pd 64 (h ++ [.lst []]) 61 d := fun d hd => by
    rw [List.mem_reverse, List.mem_map] at hd
    obtain ⟨⟨a, b⟩, hp, rfl⟩ := hd
    obtain ⟨⟨u, a1, a2, a3⟩, ⟨v, b1, b2, b3⟩⟩ := Smp.pd x2 q 63 (by omega) _ hp
    refine pd_tup (k := 63) (j := 60) fun y hy => ?_
    rcases List.mem_cons.mp hy with rfl | hy
    · exact ⟨u, a1, a2, by omega⟩
    · obtain rfl := List.mem_singleton.mp hy
      exact ⟨v, b1, b2, by omega⟩
  obtain ⟨xs, f1, f2, f3, f4⟩ := pd_lst e2 all
  have en : (h ++ [HB.lst []])[h.length]? = some (.lst []) := by simp
  have g1 : pd 65 (h ++ [.lst []]) (.ref h.length) = some (.list []) := by
    rw [pd, en]
    rfl
  have sx : SeqAt.shaped (.list xs) = true := by
    unfold SeqAt.shaped
    rw [show (PyData.list xs).canLay0 = true from f2, Bool.true_and]
    exact decide_eq_true (by show PyData.depthAll xs + 1 ≤ 64; omega)
  have sn : SeqAt.shaped (.list []) = true := by decide
  have em : xs.isEmpty = S.isEmpty := by
    rw [List.length_reverse, List.length_map] at f4
    cases xs <;> cases S <;> simp at f4 ⊢
  show (match pd 65 (h ++ [.lst []]) (.ref p), pd 65 (h ++ [.lst []]) (.ref h.length) with
    | some x, some y => if SeqAt.shaped x = true ∧ SeqAt.shaped y = true then .ok (.bl (false != PyData.eqv x y)) (h ++ [.lst []]) else .bad
    | _, _ => .bad) = (.ok (.bl S.isEmpty) (h ++ [.lst []]) : R D)
  rw [f1, g1]
  dsimp only
  rw [if_pos ⟨sx, sn⟩, eqv_nil, em]
  cases S.isEmpty <;> rfl
end K98
namespace K98
open Fl PySem
theorem Sm.pos {s : Nat} {h : IH} {a b : D} {n : Nat} (q : Sm s h a b n) : 1 ≤ n := by cases q <;> omega
theorem Smp.len {s : Nat} {h : IH} : ∀ {S : List (D × D)} {n : Nat}, Smp s h S n → S.length ≤ n
  | [], _, .nil => Nat.le_refl _
  | _ :: S, _, .cons a p => by
    have z1 := a.pos
    have z2 := Smp.len p
    simp
    omega
noncomputable def sTst : SS :=
  (sIf (tTr (eIsi2 .tuple .list (eV 5))) (sSeq (sIf (tOr' (tB (eOp (fEq true) (eIsi .list (eV 4)) (eIsi .list (eV 5)))) (tOr' (tB (eOp (fEq true) (eIsi .tuple (eV 4)) (eIsi .tuple (eV 5)))) (tB (eOp (fEq true) (eB bLen (aCons (eV 4) aNil)) (eB bLen (aCons (eV 5) aNil)))))) (sRt (eC (.bl false))) sNx)
  (sEx (eMt isLst mExtend (eV 2) (aCons (eLc [6] (.n 6) (iR1 (aCons (eB bLen (aCons (eV 5) aNil)) aNil)) tYe (eTup (aCons (eOp fIx (eV 4) (eV 6)) (aCons (eOp fIx (eV 5) (eV 6)) aNil)))) aNil)))) (sIf (tOr' (tB (eOp (fIs false) (eV 5) (eC .non))) (tTr (eIsi .bool (eV 5)))) (sIf (tOr' (tB (eOp (fEq true) (eOp (fIs false) (eV 4) (eC .non)) (eOp (fIs false) (eV 5) (eC .non)))) (tOr' (tB (eOp (fEq true) (eIsi .bool (eV 4)) (eIsi .bool (eV 5)))) (tB (eOp (fEq true) (eV 4) (eV 5))))) (sRt (eC (.bl false))) sNx) (sIf (tTr (eIsi .str (eV 5))) (sIf (tOr' (tNo (tTr (eIsi .str (eV 4)))) (tB (eOp (fEq true) (eV 4) (eV 5)))) (sRt (eC (.bl false))) sNx) (sIf (tOr' (tNo (tTr (eIsi .int (eV 4)))) (tOr' (tTr (eIsi .bool (eV 4))) (tB (eOp (fEq true) (eV 4) (eV 5))))) (sRt (eC (.bl false))) sNx))))
theorem same_is : S_law_same = (sSeq (sAs (.n 2) (eLst (aCons (eTup (aCons (eV 0) (aCons (eV 1) aNil))) aNil)))
  (sSeq (sFor (.n 3) (iR1 (aCons (eC (.int 3000)) aNil)) (sSeq (sIf (tB (eOp (fEq false) (eV 2) (eLst aNil))) (sRt (eC (.bl true))) sNx)
  (sSeq (sAs (.t [4, 5]) (eMt isLst mPop (eV 2) aNil)) sTst)))
  (sRt (eC (.bl false))))) := rfl
theorem zip_at {l m : List D} {i : Nat} (e : l.length = m.length) (hi : i < m.length) : ((l.zip m).map tp)[i]? = some (.tup [l[i]'(by omega), m[i]]) := by
  have h1 : i < (l.zip m).length := by rw [List.length_zip]; omega
  rw [List.getElem?_map, List.getElem?_eq_getElem h1]
  simp [tp]
/-- the list of pairs that the comprehension makes -/
theorem pairs {h : IH} {t d x3 x6 : Option D} {p : Nat} {a b : D} {l m : List D} (e : l.length = m.length) (hm : m.length ≤ 1000)
    (ha : ∀ acc (i : Nat) (hi : i < l.length), fIx a (.int i) (h ++ [.lst acc]) = .ok l[i] (h ++ [.lst acc])) (hb : ∀ acc (i : Nat) (hi : i < m.length), fIx b (.int i) (h ++ [.lst acc]) = .ok m[i] (h ++ [.lst acc])) :
    lcGo (fun _ => True) (.n 6) tYe (eTup (aCons (eOp fIx (eV 4) (eV 6)) (aCons (eOp fIx (eV 5) (eV 6)) aNil))) h.length (wipeD [t, d, some (.ref p), x3, some a, some b, x6] [6]) (rgD 0 m.length) (h ++ [.lst []]) = .ok (.ref h.length) (h ++ [.lst ((l.zip m).map tp)]) := by
  have zl : ((l.zip m).map tp).length = m.length := by rw [List.length_map, List.length_zip]; omega
  refine lc_map (by rw [rgD_len, zl]) (fun _ => trivial) (by rw [zl, PySem.sizeLine_eq]; omega) fun i x y hx hy => ?_
  obtain ⟨hi, rfl⟩ := rgD_get hx
  rw [zip_at e hi] at hy
  obtain rfl := (Option.some.inj hy).symm
  refine ⟨_, rfl, fun acc => ?_⟩
  have i0 : (0 : Int) + (i : Int) = (i : Int) := by omega
  simp [wipeD, i0, ha acc i (by omega), hb acc i hi]
/-- what stands behind the pairs' joining -/
theorem grown {h0 h : IH} {p : Nat} {R C : List (D × D)} (x : Ex h0 h) (hp : h0.length ≤ p) (e : h[p]? = some (.lst (R.map tp).reverse)) :
    Ex h0 ((h ++ [HB.lst (C.map tp)]).set p (.lst ((R.map tp).reverse ++ C.map tp))) ∧ ((h ++ [HB.lst (C.map tp)]).set p (.lst ((R.map tp).reverse ++ C.map tp)))[p]? = some (.lst ((C.reverse ++ R).map tp).reverse) := by
  have pl := (List.getElem?_eq_some_iff.mp e).1
  refine ⟨fun k o ek => ?_, ?_⟩
  · have kl := (List.getElem?_eq_some_iff.mp ek).1
    rw [List.getElem?_set_ne (by omega)]
    exact Ex.app h _ _ _ (x _ _ ek)
  · rw [List.getElem?_set_self (by rw [List.length_append]; omega)]
    simp
theorem step2 {s : Nat} {h0 h : IH} {t d x3 x6 : Option D} {p n : Nat} {a b : D} {R : List (D × D)} (x : Ex h0 h) (hp : h0.length ≤ p) (e : h[p]? = some (.lst (R.map tp).reverse)) (hR : R.length ≤ 100) (q : Sm s h0 a b n) (hn : n ≤ 60) :
    ∃ (h' : IH) (C : List (D × D)) (n' : Nat), sTst [t, d, some (.ref p), x3, some a, some b, x6] h = .nx [t, d, some (.ref p), x3, some a, some b, x6] h' ∧ Ex h0 h' ∧ h'[p]? = some (.lst ((C ++ R).map tp).reverse) ∧ Smp s h0 C n' ∧ n' + 1 = n := by
  cases q with
  | non => exact ⟨h, [], 0, by simp [sTst], x, e, .nil, rfl⟩
  | bl c => exact ⟨h, [], 0, by simp [sTst], x, e, .nil, rfl⟩
  | int i => exact ⟨h, [], 0, by simp [sTst], x, e, .nil, rfl⟩
  | str z _ => exact ⟨h, [], 0, by simp [sTst], x, e, .nil, rfl⟩
  | @tup l m n el pr =>
    have ml : m.length ≤ 60 := by
      have z := pr.len
      rw [List.length_zip] at z
      omega
    have pl := (List.getElem?_eq_some_iff.mp e).1
    have pa := pairs (h := h) (t := t) (d := d) (x3 := x3) (x6 := x6) (p := p) (a := .tup l) (b := .tup m) el (by omega) (fun acc i hi => by simp [hi]) (fun acc i hi => by simp [hi])
    have lcz : ((l.zip m).map tp).length ≤ 60 := by rw [List.length_map, List.length_zip]; omega
    obtain ⟨g1, g2⟩ := grown (C := l.zip m) x hp e
    refine ⟨_, (l.zip m).reverse, n, ?_, g1, g2, pr.rev, rfl⟩
    have e3 := Ex.app h [HB.lst ((l.zip m).map tp)] _ _ e
    have b1 : (m.length : Int) < 4611686018427387904 := by omega
    have b2 : -4611686018427387904 ≤ (m.length : Int) := by omega
    have b3 : R.length + m.length ≤ 16777216 := by omega
    simp [sTst, el, e, b1, b2, pa, mExtend, e3, b3]
  | @lst r q n l m n1 n2 e1 e2 el pr =>
    have ml : m.length ≤ 60 := by
      have z := pr.len
      rw [List.length_zip] at z
      omega
    have pl := (List.getElem?_eq_some_iff.mp e).1
    have hr := x _ _ e1
    have hq := x _ _ e2
    have pa := pairs (h := h) (t := t) (d := d) (x3 := x3) (x6 := x6) (p := p) (a := .ref r) (b := .ref q) el (by omega)
      (fun acc i hi => by rw [fIx_ref, Ex.app h _ _ _ hr]; simp [hi]) (fun acc i hi => by rw [fIx_ref, Ex.app h _ _ _ hq]; simp [hi])
    obtain ⟨g1, g2⟩ := grown (C := l.zip m) x hp e
    refine ⟨_, (l.zip m).reverse, n, ?_, g1, g2, pr.rev, rfl⟩
    have e3 := Ex.app h [HB.lst ((l.zip m).map tp)] _ _ e
    have b1 : (m.length : Int) < 4611686018427387904 := by omega
    have b2 : -4611686018427387904 ≤ (m.length : Int) := by omega
    have b3 : R.length + m.length ≤ 16777216 := by omega
    simp [sTst, el, e, b1, b2, pa, mExtend, e3, b3, hr, hq, bLen]
theorem pop_map (R : List (D × D)) (p : D × D) : (((p :: R).map tp).reverse)[(((p :: R).map tp).reverse).length - 1]? = some (tp p) ∧ (((p :: R).map tp).reverse).dropLast = (R.map tp).reverse := by
  simp [List.dropLast_concat]
theorem same {s : Nat} {h : IH} {a b : D} {n : Nat} (q : Sm s h a b n) (hn : n ≤ 60) : ∃ h', F_law_same [a, b] h = .ok (.bl true) h' ∧ Ex h h' := by
  unfold F_law_same
  rw [same_is, fnR_ap]
  have run : ∃ h', sFor (.n 3) (iR1 (aCons (eC (.int 3000)) aNil)) (sSeq (sIf (tB (eOp (fEq false) (eV 2) (eLst aNil))) (sRt (eC (.bl true))) sNx) (sSeq (sAs (.t [4, 5]) (eMt isLst mPop (eV 2) aNil)) sTst))
      [some a, some b, some (.ref h.length), none, none, none, none] (h ++ [.lst [.tup [a, b]]]) = .rt (.bl true) h' ∧ Ex h h' := by
    have b1 : (3000 : Int) < 2 ^ 62 := by omega
    have b2 : -(2 ^ 62) ≤ (3000 : Int) := by omega
    simp only [sFor_ap, iR1_ap, aCons_ap, eC_ap, aNil_ap, bind_ok, if_pos (And.intro b2 b1), st_ok]
    refine for_run (fun i e h' => ∃ (x3 x4 x5 x6 : Option D) (S : List (D × D)) (m : Nat), e = [some a, some b, some (.ref h.length), x3, x4, x5, x6] ∧ Ex h h' ∧ h'[h.length]? = some (.lst (S.map tp).reverse) ∧ Smp s h S m ∧ m + i = n)
      (fun r => ∃ h', r = .rt (.bl true) h' ∧ Ex h h') ?_ ?_ ⟨none, none, none, none, [(a, b)], n, rfl, Ex.app _ _, by simp [tp], by simpa using Smp.cons q .nil, rfl⟩
    · rintro i d e h' hi ⟨x3, x4, x5, x6, S, m, rfl, x, ep, sq, hm⟩
      refine ⟨trivial, _, rfl, ?_⟩
      have es := eq_stack x sq (by omega) ep
      cases S with
      | nil =>
        refine .inr (.inr ⟨_, _, ?_, _, rfl, x.trans (Ex.app h' [HB.lst []])⟩)
        simp [es]
      | cons pq R =>
        obtain ⟨u, v⟩ := pq
        cases sq with
        | @cons _ _ n1 k _ q1 q2 =>
          obtain ⟨pm1, pm2⟩ := pop_map R (u, v)
          have e4 := Ex.app h' [HB.lst []] _ _ ep
          have pl := (List.getElem?_eq_some_iff.mp ep).1
          have e5 : ((h' ++ [HB.lst []]).set h.length (.lst (R.map tp).reverse))[h.length]? = some (.lst (R.map tp).reverse) := List.getElem?_set_self (by rw [List.length_append]; omega)
          have x5' : Ex h ((h' ++ [HB.lst []]).set h.length (.lst (R.map tp).reverse)) := fun k o ek => by
            have kl := (List.getElem?_eq_some_iff.mp ek).1
            rw [List.getElem?_set_ne (by omega)]
            exact Ex.app h' _ _ _ (x _ _ ek)
          have rl := q2.len
          obtain ⟨h2, C, n', s1, s2, s3, s4, s5⟩ := step2 (t := some a) (d := some b) (x3 := some d) (x6 := x6) x5' (Nat.le_refl _) e5 (by omega) q1 (by omega)
          refine .inl ⟨_, h2, .inl ?_, some d, some u, some v, x6, C ++ R, n' + k, rfl, s2, s3, s4.app q2, by omega⟩
          have pm1' := pm1
          rw [← s1]
          have mp : mPop (.ref h.length) [] (h' ++ [HB.lst []]) = .ok (.tup [u, v]) ((h' ++ [HB.lst []]).set h.length (.lst (R.map tp).reverse)) := by
            unfold mPop
            dsimp only
            rw [e4]
            dsimp only
            rw [pm1, pm2]
            rfl
          simp [es, mp, e4]
    · rintro e h' ⟨x3, x4, x5, x6, S, m, rfl, x, ep, sq, hm⟩
      have z : (rgD 0 (Int.toNat 3000)).length = 3000 := rgD_len
      omega
  obtain ⟨h', r1, r2⟩ := run
  refine ⟨h', ?_, r2⟩
  simp [-sFor_s, r1]
end K98
namespace K98
open Fl PySem
theorem Sv.lt {h : IH} {s n : Nat} (S : Sv h s n) : s < h.length := by
  obtain ⟨g, gs, st, t, a, _⟩ := S.e
  exact (List.getElem?_eq_some_iff.mp a).1
theorem Sv.le {h : IH} {s n m : Nat} (S : Sv h s n) (hm : n ≤ m) : Sv h s m := by
  obtain ⟨g, gs, st, t, a, b, c, d, e⟩ := S.e
  exact ⟨g, gs, st, t, a, b, c, d, by omega⟩
theorem at5 {α : Type} {l : List α} : L2.atI l 5 = l[5]? := atI_nat (n := 5)
theorem at6 {α : Type} {l : List α} : L2.atI l 6 = l[6]? := atI_nat (n := 6)
theorem at7 {α : Type} {l : List α} : L2.atI l 7 = l[7]? := atI_nat (n := 7)
theorem at8 {α : Type} {l : List α} : L2.atI l 8 = l[8]? := atI_nat (n := 8)
theorem strok (x : Str) (h : (x.cps.all (· < 0x110000)) = true) : PyData.strOk x = true := h
theorem value {h : IH} {s n : Nat} (S : Sv h s n) (hn : n ≤ 100000) : ∃ (d : D) (h' : IH) (k : Nat), F_law_value [.ref s] h = .ok d h' ∧ Sv h' s (n + 2) ∧ ExS s h h' ∧ h.length ≤ h'.length ∧ k ≤ 10 ∧ Sm s h' d d k := by
  obtain ⟨v, h1, r1, v0, v9, S1, x1, l1⟩ := sift S (by omega) (m := 9) (by omega)
  unfold F_law_value S_law_value
  have sl := S1.lt
  have hv : v = 0 ∨ v = 1 ∨ (v ≠ 0 ∧ v ≠ 1) := by omega
  rcases hv with rfl | rfl | hv
  · obtain ⟨w, h2, r2, w0, w9, S2, x2, l2⟩ := sift S1 (by omega) (m := 1000) (by omega)
    exact ⟨.int (w - 7), h2, 1, by simp [r1, r2], S2, x1.trans x2, by omega, by omega, .int _⟩
  · obtain ⟨w, h2, r2, w0, w9, S2, x2, l2⟩ := sift S1 (by omega) (m := 6) (by omega)
    have hw : w = 0 ∨ w = 1 ∨ w = 2 ∨ w = 3 ∨ w = 4 ∨ w = 5 := by omega
    rcases hw with rfl | rfl | rfl | rfl | rfl | rfl
    · exact ⟨.non, h2, 1, by simp [r1, r2], S2, x1.trans x2, by omega, by omega, .non⟩
    · exact ⟨.bl true, h2, 1, by simp [r1, r2], S2, x1.trans x2, by omega, by omega, .bl _⟩
    · exact ⟨.bl false, h2, 1, by simp [r1, r2], S2, x1.trans x2, by omega, by omega, .bl _⟩
    · exact ⟨.int 0, h2, 1, by simp [r1, r2], S2, x1.trans x2, by omega, by omega, .int _⟩
    · exact ⟨.int (10 ^ 50), h2, 1, by simp [r1, r2], S2, x1.trans x2, by omega, by omega, .int _⟩
    · exact ⟨.int (-1), h2, 1, by simp [r1, r2, at5], S2, x1.trans x2, by omega, by omega, .int _⟩
  · by_cases h5 : v < 5
    · have hv : v = 2 ∨ v = 3 ∨ v = 4 := by omega
      obtain ⟨w, h2, r2, w0, w9, S2, x2, l2⟩ := sift S1 (by omega) (m := 7) (by omega)
      have hw : w = 0 ∨ w = 1 ∨ w = 2 ∨ w = 3 ∨ w = 4 ∨ w = 5 ∨ w = 6 := by omega
      have n0 : v ≠ 0 := by omega
      have n1 : v ≠ 1 := by omega
      rcases hw with rfl | rfl | rfl | rfl | rfl | rfl | rfl
      · exact ⟨.str "", h2, 1, by simp [r1, r2, h5, n0, n1, at5, at6], S2, x1.trans x2, by omega, by omega, .str _ (by decide +kernel)⟩
      · exact ⟨.str "word", h2, 1, by simp [r1, r2, h5, n0, n1, at5, at6], S2, x1.trans x2, by omega, by omega, .str _ (by decide +kernel)⟩
      · exact ⟨.str "name", h2, 1, by simp [r1, r2, h5, n0, n1, at5, at6], S2, x1.trans x2, by omega, by omega, .str _ (by decide +kernel)⟩
      · exact ⟨.str "a b", h2, 1, by simp [r1, r2, h5, n0, n1, at5, at6], S2, x1.trans x2, by omega, by omega, .str _ (by decide +kernel)⟩
      · exact ⟨.str "gone", h2, 1, by simp [r1, r2, h5, n0, n1, at5, at6], S2, x1.trans x2, by omega, by omega, .str _ (by decide +kernel)⟩
      · exact ⟨.str "2", h2, 1, by simp [r1, r2, h5, n0, n1, at5, at6], S2, x1.trans x2, by omega, by omega, .str _ (by decide +kernel)⟩
      · exact ⟨.str "first", h2, 1, by simp [r1, r2, h5, n0, n1, at5, at6], S2, x1.trans x2, by omega, by omega, .str _ (by decide +kernel)⟩
    · have hv : v = 5 ∨ v = 6 ∨ v = 7 ∨ v = 8 := by omega
      have last : ∀ v : Int, (v = 7 ∨ v = 8) → F_law_sift [.ref s, .int 9] h = .ok (.int v) h1 → ∃ (d : D) (h' : IH) (k : Nat), fnR 1 2 S_law_value [.ref s] h = .ok d h' ∧ Sv h' s (n + 2) ∧ ExS s h h' ∧ h.length ≤ h'.length ∧ k ≤ 10 ∧ Sm s h' d d k := by
        intro v hv r1
        unfold S_law_value
        have S1b := S1.ex (Ex.app h1 [HB.lst [], HB.lst [.int 3]])
        obtain ⟨w, h2, r2, w0, w9, S2, x2, l2⟩ := sift S1b (by omega) (m := 4) (by omega)
        have hw : w = 0 ∨ w = 1 ∨ w = 2 ∨ w = 3 := by omega
        have x3 : ExS s h h2 := x1.trans ((Ex.app h1 [HB.lst [], HB.lst [.int 3]]).s.trans x2)
        have l3 : h1.length + 2 = h2.length := by
          rw [← l2]
          simp
        have e1 : h2[h1.length]? = some (.lst []) := x2 _ _ (by omega) (by simp)
        have e2 : h2[h1.length + 1]? = some (.lst [.int 3]) := x2 _ _ (by omega) (by simp)
        have n0 : v ≠ 0 := by omega
        have n1 : v ≠ 1 := by omega
        have n2 : ¬ v < 5 := by omega
        have n3 : v ≠ 5 := by omega
        have n4 : v ≠ 6 := by omega
        rcases hw with rfl | rfl | rfl | rfl
        · exact ⟨.tup [], h2, 1, by simp [r1, r2, n0, n1, n2, n3, n4], S2, x3, by omega, by omega, .tup rfl .nil⟩
        · exact ⟨.ref h1.length, h2, 1, by simp [r1, r2, n0, n1, n2, n3, n4], S2, x3, by omega, by omega, .lst (by omega) (by omega) e1 e1 rfl .nil⟩
        · exact ⟨.tup [.tup [.int 1, .int 2], .ref (h1.length + 1)], h2, _, by simp [r1, r2, n0, n1, n2, n3, n4], S2, x3, by omega, by decide,
            .tup rfl (.cons (.tup rfl (.cons (.int _) (.cons (.int _) .nil))) (.cons (.lst (by omega) (by omega) e2 e2 rfl (.cons (.int _) .nil)) .nil))⟩
        · exact ⟨.str "-1", h2, 1, by simp [r1, r2, n0, n1, n2, n3, n4], S2, x3, by omega, by omega, .str _ (by decide +kernel)⟩
      rcases hv with rfl | rfl | rfl | rfl
      · obtain ⟨w, h2, r2, w0, w9, S2, x2, l2⟩ := sift S1 (by omega) (m := 9) (by omega)
        exact ⟨.tup [.int w, .tup [.str "x", .non], .tup []], h2, _, by simp [r1, r2], S2, x1.trans x2, by omega, by decide,
          .tup rfl (.cons (.int _) (.cons (.tup rfl (.cons (.str _ (by decide +kernel)) (.cons .non .nil))) (.cons (.tup rfl .nil) .nil)))⟩
      · obtain ⟨w, h2, r2, w0, w9, S2, x2, l2⟩ := sift S1 (by omega) (m := 9) (by omega)
        have S3 := S2.ex (Ex.app h2 [HB.lst [.bl true], HB.lst [.int w, .ref h2.length, .str "y"]])
        have e1 : (h2 ++ [HB.lst [.bl true], HB.lst [.int w, .ref h2.length, .str "y"]])[h2.length]? = some (.lst [.bl true]) := by simp
        have e2 : (h2 ++ [HB.lst [.bl true], HB.lst [.int w, .ref h2.length, .str "y"]])[h2.length + 1]? = some (.lst [.int w, .ref h2.length, .str "y"]) := by simp
        exact ⟨.ref (h2.length + 1), h2 ++ [HB.lst [.bl true], HB.lst [.int w, .ref h2.length, .str "y"]], _, by simp [r1, r2], S3, x1.trans (x2.trans (Ex.app _ _).s), by simp; omega, by decide,
          .lst (by omega) (by omega) e2 e2 rfl (.cons (.int _) (.cons (.lst (by omega) (by omega) e1 e1 rfl (.cons (.bl _) .nil)) (.cons (.str _ (by decide +kernel)) .nil)))⟩
      · exact last 7 (.inl rfl) r1
      · exact last 8 (.inr rfl) r1
end K98
namespace K98
open Fl PySem
theorem pd_bools {k : Nat} {h : IH} : ∀ {bs : List Bool}, (bs.map D.bl).mapM (pd (k + 1) h) = some (bs.map PyData.bool)
  | [] => rfl
  | b :: bs => by
    rw [List.map_cons, List.mapM_cons, pd_bools]
    rfl
theorem bools_ok : ∀ {bs : List Bool}, PyData.canLayAll0 (bs.map PyData.bool) = true ∧ PyData.depthAll (bs.map PyData.bool) = 0 ∧ PyData.eqvAll (bs.map PyData.bool) (bs.map PyData.bool) = true
  | [] => ⟨rfl, rfl, rfl⟩
  | b :: bs => by
    obtain ⟨h1, h2, h3⟩ := bools_ok (bs := bs)
    refine ⟨?_, ?_, ?_⟩
    · show (true && PyData.canLayAll0 (bs.map PyData.bool)) = true
      rw [h1]; rfl
    · show max 0 (PyData.depthAll (bs.map PyData.bool)) = 0
      rw [h2]; rfl
    · show (PyData.eqv (.bool b) (.bool b) && PyData.eqvAll (bs.map PyData.bool) (bs.map PyData.bool)) = true
      rw [h3]
      cases b <;> rfl
theorem ne_bools {h : IH} {p q : Nat} {bs : List Bool} (e1 : h[p]? = some (.lst (bs.map D.bl))) (e2 : h[q]? = some (.lst (bs.map D.bl))) : fEq true (.ref p) (.ref q) h = .ok (.bl false) h := by
  obtain ⟨o1, o2, o3⟩ := bools_ok (bs := bs)
  have g : ∀ r, h[r]? = some (.lst (bs.map D.bl)) → pd 65 h (.ref r) = some (.list (bs.map PyData.bool)) := fun r e => by
    rw [pd, e]
    dsimp only
    rw [pd_bools]
    rfl
  have sx : SeqAt.shaped (.list (bs.map PyData.bool)) = true := by
    unfold SeqAt.shaped
    rw [show (PyData.list (bs.map PyData.bool)).canLay0 = true from o1, Bool.true_and]
    exact decide_eq_true (by show PyData.depthAll _ + 1 ≤ 64; omega)
  show (match pd 65 h (.ref p), pd 65 h (.ref q) with
    | some x, some y => if SeqAt.shaped x = true ∧ SeqAt.shaped y = true then .ok (.bl (true != PyData.eqv x y)) h else .bad
    | _, _ => .bad) = (.ok (.bl false) h : R D)
  rw [g _ e1, g _ e2]
  dsimp only
  rw [if_pos ⟨sx, sx⟩, show PyData.eqv (.list (bs.map PyData.bool)) (.list (bs.map PyData.bool)) = true from o3]
  rfl
theorem tab {n : Nat} {w : Nat} : ((List.range n).map fun i => D.bl (decide (i = w))) = ((List.range n).map fun i => decide (i = w)).map D.bl := by simp [Function.comp_def]
theorem whichL {h : IH} {e : Lc} {n w j : Nat} (hj : e[j]? = some (some (.int w))) (h10 : e.length = 13) (hj2 : j < 10) (hn : n ≤ 100) :
    eLc [10] (.n 10) (iR1 (aCons (eC (.int n)) aNil)) tYe (eOp (fEq false) (eV 10) (eV j)) e h = .ok (.ref h.length) (h ++ [.lst (((List.range n).map fun i => decide (i = w)).map D.bl)]) := by
  have b1 : (n : Int) < 2 ^ 62 := by omega
  have b2 : -(2 ^ 62) ≤ (n : Int) := by omega
  simp only [eLc_ap, iR1_ap, aCons_ap, eC_ap, aNil_ap, bind_ok, if_pos (And.intro b2 b1), Int.toNat_natCast]
  refine lc_map (by simp [rgD_len]) (fun _ => trivial) (by simp [sizeLine_eq]; omega) fun i x y hx hy => ?_
  obtain ⟨hi, rfl⟩ := rgD_get hx
  refine ⟨_, rfl, fun acc => ?_⟩
  have hy2 : y = .bl (decide (i = w)) := by
    simp [hi] at hy
    exact hy.symm
  subst hy2
  have l10 : (10 : Nat) < ((wipeD e [10])).length := by simp [wipeD, h10]
  have ne : (10 : Nat) ≠ j := by omega
  have wj : ((wipeD e [10]).set 10 (some (.int (0 + (i : Int)))))[j]? = some (some (.int w)) := by
    rw [List.getElem?_set_ne ne]
    show ((e.set 10 none))[j]? = _
    rw [List.getElem?_set_ne ne]
    exact hj
  rw [eOp_ap, eV_ap, List.getElem?_set_self l10]
  dsimp only
  rw [bind_ok, eV_ap, wj]
  dsimp only
  rw [bind_ok, fEq_int]
  have z : ((i : Int) = (w : Int)) ↔ i = w := by omega
  simp [z]
end K98
namespace K98
open Fl PySem
theorem dueE {w : Nat} (hw : w < 9) {x0 x2 x5 x6 x7 x8 x9 xa xb xc : Option D} {a b : D} {h : IH} :
    eIf (tB (eOp (fIn false) (eV 1) (eTup (aCons (eC (.int 1)) (aCons (eC (.int 2)) (aCons (eC (.int 3)) (aCons (eC (.int 5)) (aCons (eC (.int 7)) aNil)))))))) (eTup (aCons (eV 3) (aCons (eV 4) aNil))) (eTup (aCons (eV 3) aNil))
      [x0, some (.int w), x2, some a, some b, x5, x6, x7, x8, x9, xa, xb, xc] h = .ok (.tup (due w a b)) h := by
  rcases nine hw with rfl | rfl | rfl | rfl | rfl | rfl | rfl | rfl | rfl <;> simp [fIn, flatD, inF, eqF, due]
theorem famE {w : Nat} (hw : w < 9) {x0 x2 x3 x4 x5 x6 x7 x8 x9 xa xb xc : Option D} {h : IH} :
    eOp fIx (eTup (aCons (eC (.int 0)) (aCons (eC (.int 0)) (aCons (eC (.int 0)) (aCons (eC (.int 0)) (aCons (eC (.int 1)) (aCons (eC (.int 2)) (aCons (eC (.int 2)) (aCons (eC (.int 3)) (aCons (eC (.int 3)) aNil)))))))))) (eV 1)
      [x0, some (.int w), x2, x3, x4, x5, x6, x7, x8, x9, xa, xb, xc] h = .ok (.int (fam w)) h := by
  rcases nine hw with rfl | rfl | rfl | rfl | rfl | rfl | rfl | rfl | rfl <;> simp [fam, at5, at6, at7, at8]
theorem isxE {w k c : Nat} (hw : w < 9) {isx : Nat → Option Bool} (hx : isx (w + 5) = some true) {e : Lc} {h : IH} {fs : List (Str × D)} (he : e[5]? = some (some (.ref k))) (hk : h[k]? = some (.exc (w + 5) fs)) : eIsx isx (eV 5) e h = .ok (.bl true) h := by
  simp [he, hk, hx]
theorem due_sm {s : Nat} {h : IH} {w n m : Nat} {a b : D} (p : Sm s h a a n) (q : Sm s h b b m) (hn : n ≤ 10) (hm : m ≤ 10) : ∃ k, k ≤ 60 ∧ Sm s h (.tup (due w a b)) (.tup (due w a b)) k := by
  unfold due
  split
  · exact ⟨n + (m + 0) + 1, by omega, .tup rfl (.cons p (.cons q .nil))⟩
  · exact ⟨n + 0 + 1, by omega, .tup rfl (.cons p .nil)⟩
theorem asked {h : IH} {s n w y : Nat} (S : Sv h s n) (hn : n ≤ 50000) (hw : w < 9) (hy : y < 3) : ∃ h', F_law_asked [.ref s, .int w, .int y] h = .ok (.bl true) h' ∧ Sv h' s (n + 4) := by
  obtain ⟨a, h1, n1, v1, S1, x1, l1, k1, m1⟩ := value S (by omega)
  obtain ⟨b, h2, n2, v2, S2, x2, l2, k2, m2⟩ := value S1 (by omega)
  have m1' := m1.ex x2
  obtain ⟨k, h3, mk, ek, x3, lk⟩ := made hw hy a b h2
  have S3 := S2.ex x3
  obtain ⟨nd, hnd, sm⟩ := due_sm (w := w) (m1'.ex x3.s) (m2.ex x3.s) k1 k2
  have fl := fields hw a b h3 ek
  obtain ⟨h4, s4, x4⟩ := same sm hnd
  obtain ⟨p, q, h5, kd, x5, ep, eq⟩ := kinds hw a b h4 (x4 _ _ ek)
  have L0 : Ex h3 h5 := x4.trans x5
  -- the two lists
  have x6 := Ex.app h5 [HB.lst (((List.range 9).map fun i => decide (i = w)).map D.bl)]
  have x7 := Ex.app (h5 ++ [HB.lst (((List.range 9).map fun i => decide (i = w)).map D.bl)]) [HB.lst (((List.range 4).map fun i => decide (i = fam w)).map D.bl)]
  generalize g6 : h5 ++ [HB.lst (((List.range 9).map fun i => decide (i = w)).map D.bl)] = h6 at *
  generalize g7 : h6 ++ [HB.lst (((List.range 4).map fun i => decide (i = fam w)).map D.bl)] = h7 at *
  have ek7 : h7[k]? = some (.exc (w + 5) (flds w a b)) := (L0.trans (x6.trans x7)) _ _ ek
  have ne1 : fEq true (.ref p) (.ref h5.length) h6 = .ok (.bl false) h6 := ne_bools (bs := (List.range 9).map fun i => decide (i = w)) (by rw [← tab]; exact x6 _ _ ep) (by rw [← g6]; simp)
  have ne2 : fEq true (.ref q) (.ref h6.length) h7 = .ok (.bl false) h7 := ne_bools (bs := (List.range 4).map fun i => decide (i = fam w)) (by rw [← tab]; exact (x6.trans x7) _ _ eq) (by rw [← g7]; simp)
  have fm := family hw a b h7
  have x8 := Ex.app h7 [HB.exc (w + 5) (flds w a b)]
  generalize g8 : h7 ++ [HB.exc (w + 5) (flds w a b)] = h8 at *
  have L1 : Ex h3 h8 := L0.trans (x6.trans (x7.trans x8))
  obtain ⟨h9, s9, x9⟩ := same (sm.ex L1.s) hnd
  obtain ⟨ha, sa, xa⟩ := any hw a b h9
  obtain ⟨hb, sb, xb⟩ := own hw a b ha
  obtain ⟨hc, sc, xc⟩ := ahead hw a b hb
  refine ⟨hc, ?_, (S3.ex (L1.trans (x9.trans (xa.trans (xb.trans xc))))).le (by omega)⟩
  have fl' : F_law_fields [.int w, .ref k] h3 = .ok (.tup (due w a b)) h3 := fl
  have w9 : ∀ e : Lc, e[1]? = some (some (.int w)) → e.length = 13 → eLc [10] (.n 10) (iR1 (aCons (eC (.int 9)) aNil)) tYe (eOp (fEq false) (eV 10) (eV 1)) e h5 = .ok (.ref h5.length) h6 := fun e hj h10 => by
    rw [← g6]
    exact whichL (n := 9) hj h10 (by omega) (by omega)
  have w4 : ∀ e : Lc, e[7]? = some (some (.int (fam w))) → e.length = 13 → eLc [10] (.n 10) (iR1 (aCons (eC (.int 4)) aNil)) tYe (eOp (fEq false) (eV 10) (eV 7)) e h6 = .ok (.ref h6.length) h7 := fun e hj h10 => by
    rw [← g7]
    exact whichL (n := 4) hj h10 (by omega) (by omega)
  have t1 : (sPar 3 4 (aCons (eB F_law_value (aCons (eV 0) aNil)) (aCons (eB F_law_value (aCons (eV 0) aNil)) aNil))) [some (.ref s), some (.int w), some (.int y), none, none, none, none, none, none, none, none, none, none] h = .nx [some (.ref s), some (.int w), some (.int y), some a, some b, none, none, none, none, none, none, none, none] h2 := by
    simp [v1, v2]
  have t2 : (sAs (.n 5) (eB F_law_made (aCons (eV 1) (aCons (eV 3) (aCons (eV 4) (aCons (eV 2) aNil)))))) [some (.ref s), some (.int w), some (.int y), some a, some b, none, none, none, none, none, none, none, none] h2 = .nx [some (.ref s), some (.int w), some (.int y), some a, some b, some (.ref k), none, none, none, none, none, none, none] h3 := by
    simp [mk]
  have t3 : (sAs (.n 6) (eIf (tB (eOp (fIn false) (eV 1) (eTup (aCons (eC (.int 1)) (aCons (eC (.int 2)) (aCons (eC (.int 3)) (aCons (eC (.int 5)) (aCons (eC (.int 7)) aNil)))))))) (eTup (aCons (eV 3) (aCons (eV 4) aNil))) (eTup (aCons (eV 3) aNil)))) [some (.ref s), some (.int w), some (.int y), some a, some b, some (.ref k), none, none, none, none, none, none, none] h3
      = .nx [some (.ref s), some (.int w), some (.int y), some a, some b, some (.ref k), some (.tup (due w a b)), none, none, none, none, none, none] h3 := by
    rw [sAs_ap, dueE hw]
    rfl
  have t4 : (sIf (tNo (tTr (eB F_law_same (aCons (eB F_law_fields (aCons (eV 1) (aCons (eV 5) aNil))) (aCons (eV 6) aNil))))) (sRt (eC (.bl false))) sNx) [some (.ref s), some (.int w), some (.int y), some a, some b, some (.ref k), some (.tup (due w a b)), none, none, none, none, none, none] h3
      = .nx [some (.ref s), some (.int w), some (.int y), some a, some b, some (.ref k), some (.tup (due w a b)), none, none, none, none, none, none] h4 := by
    simp [fl', s4]
  have t5 : (sAs (.n 7) (eOp fIx (eTup (aCons (eC (.int 0)) (aCons (eC (.int 0)) (aCons (eC (.int 0)) (aCons (eC (.int 0)) (aCons (eC (.int 1)) (aCons (eC (.int 2)) (aCons (eC (.int 2)) (aCons (eC (.int 3)) (aCons (eC (.int 3)) aNil)))))))))) (eV 1))) [some (.ref s), some (.int w), some (.int y), some a, some b, some (.ref k), some (.tup (due w a b)), none, none, none, none, none, none] h4
      = .nx [some (.ref s), some (.int w), some (.int y), some a, some b, some (.ref k), some (.tup (due w a b)), some (.int (fam w)), none, none, none, none, none] h4 := by
    rw [sAs_ap, famE hw]
    rfl
  have t6 : (sAs (.t [8, 9]) (eB F_law_kinds (aCons (eV 5) aNil))) [some (.ref s), some (.int w), some (.int y), some a, some b, some (.ref k), some (.tup (due w a b)), some (.int (fam w)), none, none, none, none, none] h4
      = .nx [some (.ref s), some (.int w), some (.int y), some a, some b, some (.ref k), some (.tup (due w a b)), some (.int (fam w)), some (.ref p), some (.ref q), none, none, none] h5 := by
    simp [kd]
  have t7 : (sIf (tOr' (tB (eOp (fEq true) (eV 8) (eLc [10] (.n 10) (iR1 (aCons (eC (.int 9)) aNil)) tYe (eOp (fEq false) (eV 10) (eV 1))))) (tB (eOp (fEq true) (eV 9) (eLc [10] (.n 10) (iR1 (aCons (eC (.int 4)) aNil)) tYe (eOp (fEq false) (eV 10) (eV 7)))))) (sRt (eC (.bl false))) sNx)
      [some (.ref s), some (.int w), some (.int y), some a, some b, some (.ref k), some (.tup (due w a b)), some (.int (fam w)), some (.ref p), some (.ref q), none, none, none] h5
      = .nx [some (.ref s), some (.int w), some (.int y), some a, some b, some (.ref k), some (.tup (due w a b)), some (.int (fam w)), some (.ref p), some (.ref q), none, none, none] h7 := by
    simp [-eLc_s, w9, w4, ne1, ne2]
  have t8 : (sIf (tOr' (tNo (tTr (eIsx (fun c => subN NC upC c 0) (eV 5)))) (tNo (tTr (eIsx (fun c => if c < NC then some true else none) (eV 5))))) (sRt (eC (.bl false))) sNx)
      [some (.ref s), some (.int w), some (.int y), some a, some b, some (.ref k), some (.tup (due w a b)), some (.int (fam w)), some (.ref p), some (.ref q), none, none, none] h7
      = .nx [some (.ref s), some (.int w), some (.int y), some a, some b, some (.ref k), some (.tup (due w a b)), some (.int (fam w)), some (.ref p), some (.ref q), none, none, none] h7 := by
    have u1 : subN NC upC (w + 5) 0 = some true := by
      rcases nine hw with rfl | rfl | rfl | rfl | rfl | rfl | rfl | rfl | rfl <;> decide
    have u2 : w + 5 < NC := by show w + 5 < 14; omega
    simp [ek7, u1, u2]
  have t9 : (sAs (.t [11, 12]) (eB F_law_family (aCons (eV 1) (aCons (eV 3) (aCons (eV 4) aNil)))))
      [some (.ref s), some (.int w), some (.int y), some a, some b, some (.ref k), some (.tup (due w a b)), some (.int (fam w)), some (.ref p), some (.ref q), none, none, none] h7
      = .nx [some (.ref s), some (.int w), some (.int y), some a, some b, some (.ref k), some (.tup (due w a b)), some (.int (fam w)), some (.ref p), some (.ref q), none, some (.int (fam w)), some (.tup (due w a b))] h8 := by
    simp [fm]
  have ta : (sIf (tOr' (tB (eOp (fEq true) (eV 11) (eV 7))) (tOr' (tNo (tTr (eB F_law_same (aCons (eV 12) (aCons (eV 6) aNil))))) (tNo (tTr (eB F_law_any (aCons (eV 1) (aCons (eV 3) (aCons (eV 4) aNil)))))))) (sRt (eC (.bl false))) sNx)
      [some (.ref s), some (.int w), some (.int y), some a, some b, some (.ref k), some (.tup (due w a b)), some (.int (fam w)), some (.ref p), some (.ref q), none, some (.int (fam w)), some (.tup (due w a b))] h8
      = .nx [some (.ref s), some (.int w), some (.int y), some a, some b, some (.ref k), some (.tup (due w a b)), some (.int (fam w)), some (.ref p), some (.ref q), none, some (.int (fam w)), some (.tup (due w a b))] ha := by
    simp [s9, sa]
  have tb : (sRt (eAn (eOp (fEq false) (eB F_law_own (aCons (eV 1) (aCons (eV 3) (aCons (eV 4) aNil)))) (eV 1)) (eOp (fEq false) (eB F_law_ahead (aCons (eV 1) (aCons (eV 3) (aCons (eV 4) aNil)))) (eV 1))))
      [some (.ref s), some (.int w), some (.int y), some a, some b, some (.ref k), some (.tup (due w a b)), some (.int (fam w)), some (.ref p), some (.ref q), none, some (.int (fam w)), some (.tup (due w a b))] ha = .rt (.bl true) hc := by
    simp [sb, sc]
  unfold F_law_asked S_law_asked
  rw [fnR_ap]
  simp only [List.length_cons, List.length_nil, if_pos, List.map_cons, List.map_nil, List.replicate, List.cons_append, List.nil_append, Nat.zero_add, Nat.reduceAdd, Nat.reduceSub]
  simp only [sSeq_ap, sq_nx, t1, t2, t3, t4, t5, t6, t7, t8, t9, ta, tb, endS_rt]
end K98
namespace K98
open Fl PySem
theorem due0 (w : Nat) (a b : D) : ∃ r, due w a b = a :: r := by
  unfold due
  split
  · exact ⟨_, rfl⟩
  · exact ⟨_, rfl⟩
theorem very {h : IH} {s n w : Nat} (S : Sv h s n) (hn : n ≤ 50000) (hw : w < 9) : ∃ h', F_law_very [.ref s, .int w] h = .ok (.bl true) h' ∧ Sv h' s (n + 3) := by
  obtain ⟨v, h1, r1, va, vb, S1, x1, l1⟩ := sift S (by omega) (m := 99) (by omega)
  have sl := S1.lt
  have S2 := S1.ex (Ex.app h1 [HB.lst [.int v], HB.lst [.str "x"]])
  have eb2 : (h1 ++ [HB.lst [.int v], HB.lst [.str "x"]])[h1.length]? = some (.lst [.int v]) := by simp
  have ec2 : (h1 ++ [HB.lst [.int v], HB.lst [.str "x"]])[h1.length + 1]? = some (.lst [.str "x"]) := by simp
  obtain ⟨u, h3, r3, ua, ub, S3, x3, l3⟩ := sift S2 (by omega) (m := 3) (by omega)
  have hl3 : h3.length = h1.length + 2 := by rw [← l3]; simp
  have eb3 := x3 _ _ (by omega) eb2
  have ec3 := x3 _ _ (by omega) ec2
  obtain ⟨y, rfl⟩ := Int.eq_ofNat_of_zero_le ua
  obtain ⟨k, h4, mk, ek, x4, lk⟩ := made hw (y := y) (by omega) (.ref h1.length) (.ref (h1.length + 1)) h3
  have S4 := S3.ex x4
  have eb4 := x4 _ _ eb3
  have ec4 := x4 _ _ ec3
  obtain ⟨more, h5, r5, ma, mb, S5, x5, l5⟩ := sift S4 (by omega) (m := 1000) (by omega)
  have eb5 := x5 _ _ (by omega) eb4
  have ec5 := x5 _ _ (by omega) ec4
  have ek5 := x5 _ _ (by omega) ek
  have lb5 := (List.getElem?_eq_some_iff.mp eb5).1
  have lc5 := (List.getElem?_eq_some_iff.mp ec5).1
  have eb6 : (h5.set h1.length (.lst [.int v, .int more]))[h1.length]? = some (.lst [.int v, .int more]) := List.getElem?_set_self lb5
  have ec6 : (h5.set h1.length (.lst [.int v, .int more]))[h1.length + 1]? = some (.lst [.str "x"]) := by rw [List.getElem?_set_ne (by omega)]; exact ec5
  have ek6 : (h5.set h1.length (.lst [.int v, .int more]))[k]? = some (.exc (w + 5) (flds w (.ref h1.length) (.ref (h1.length + 1)))) := by rw [List.getElem?_set_ne (by omega)]; exact ek5
  have oth6 : ∀ i, i ≠ h1.length → (h5.set h1.length (.lst [.int v, .int more]))[i]? = h5[i]? := fun i hi => List.getElem?_set_ne (by omega)
  have l6 : (h5.set h1.length (.lst [.int v, .int more])).length = h5.length := by simp
  generalize g6 : h5.set h1.length (.lst [.int v, .int more]) = h6 at *
  have eb7 : (h6.set (h1.length + 1) (.lst [.str "x", .tup [.int more, .non]]))[h1.length]? = some (.lst [.int v, .int more]) := by rw [List.getElem?_set_ne (by omega)]; exact eb6
  have ec7 : (h6.set (h1.length + 1) (.lst [.str "x", .tup [.int more, .non]]))[h1.length + 1]? = some (.lst [.str "x", .tup [.int more, .non]]) := List.getElem?_set_self (by omega)
  have ek7 : (h6.set (h1.length + 1) (.lst [.str "x", .tup [.int more, .non]]))[k]? = some (.exc (w + 5) (flds w (.ref h1.length) (.ref (h1.length + 1)))) := by rw [List.getElem?_set_ne (by omega)]; exact ek6
  have oth7 : ∀ i, i ≠ h1.length + 1 → (h6.set (h1.length + 1) (.lst [.str "x", .tup [.int more, .non]]))[i]? = h6[i]? := fun i hi => List.getElem?_set_ne (by omega)
  generalize g7 : h6.set (h1.length + 1) (.lst [.str "x", .tup [.int more, .non]]) = h7 at *
  have S7 : Sv h7 s (n + 3) := by
    obtain ⟨g, gs, st, t, e1, e2, ne, gn, tl⟩ := S5.e
    have gc : g ≠ h1.length + 1 := by
      rintro rfl
      rw [ec5] at e2
      cases gs with
      | nil => exact ne rfl
      | cons i gs => simp at e2
    have es : h7[s]? = some (.lst [.ref g, .int st, .int t]) := by rw [oth7 _ (by omega), oth6 _ (by omega)]; exact e1
    by_cases gb : g = h1.length
    · refine ⟨g, [v, more], st, t, es, ?_, by simp, gn, by omega⟩
      rw [gb]
      exact eb7
    · exact ⟨g, gs, st, t, es, by rw [oth7 _ gc, oth6 _ gb]; exact e2, ne, gn, by omega⟩
  have fl := fields hw _ _ h7 ek7
  have fl' : F_law_fields [.int w, .ref k] h7 = .ok (.tup (due w (.ref h1.length) (.ref (h1.length + 1)))) h7 := fl
  obtain ⟨h8, s8, x8⟩ := same (s := s) (Sm.int (h := h7) more) (by omega)
  have ec9 := (x8.trans (Ex.app h8 [HB.lst [.str "x", .tup [.int more, .non]]])) _ _ ec7
  have en9 : (h8 ++ [HB.lst [.str "x", .tup [.int more, .non]]])[h8.length]? = some (.lst [.str "x", .tup [.int more, .non]]) := by simp
  have l8 := x8.len
  have sl7 := S7.lt
  obtain ⟨h9, s9, x9⟩ := same (s := s) (h := h8 ++ [HB.lst [.str "x", .tup [.int more, .non]]]) (a := .ref (h1.length + 1)) (b := .ref h8.length) (n := 1 + ((1 + (1 + 0) + 1) + 0) + 1)
    (.lst (by omega) (by omega) ec9 en9 rfl (.cons (.str _ (by decide +kernel)) (.cons (.tup rfl (.cons (.int _) (.cons .non .nil))) .nil))) (by omega)
  -- the statements
  have t1 : (sPar 2 3 (aCons (eLst (aCons (eB F_law_sift (aCons (eV 0) (aCons (eC (.int 99)) aNil))) aNil)) (aCons (eLst (aCons (eC (.str "x")) aNil)) aNil))) [some (.ref s), some (.int w), none, none, none, none, none] h
      = .nx [some (.ref s), some (.int w), some (.ref h1.length), some (.ref (h1.length + 1)), none, none, none] (h1 ++ [HB.lst [.int v], HB.lst [.str "x"]]) := by simp [r1]
  have t2 : (sAs (.n 4) (eB F_law_made (aCons (eV 1) (aCons (eV 2) (aCons (eV 3) (aCons (eB F_law_sift (aCons (eV 0) (aCons (eC (.int 3)) aNil))) aNil)))))) [some (.ref s), some (.int w), some (.ref h1.length), some (.ref (h1.length + 1)), none, none, none] (h1 ++ [HB.lst [.int v], HB.lst [.str "x"]])
      = .nx [some (.ref s), some (.int w), some (.ref h1.length), some (.ref (h1.length + 1)), some (.ref k), none, none] h4 := by simp [r3, mk]
  have t3 : (sAs (.n 5) (eB F_law_sift (aCons (eV 0) (aCons (eC (.int 1000)) aNil)))) [some (.ref s), some (.int w), some (.ref h1.length), some (.ref (h1.length + 1)), some (.ref k), none, none] h4
      = .nx [some (.ref s), some (.int w), some (.ref h1.length), some (.ref (h1.length + 1)), some (.ref k), some (.int more), none] h5 := by simp [r5]
  have t4 : (sEx (eMt isLst mAppend (eV 2) (aCons (eV 5) aNil))) [some (.ref s), some (.int w), some (.ref h1.length), some (.ref (h1.length + 1)), some (.ref k), some (.int more), none] h5
      = .nx [some (.ref s), some (.int w), some (.ref h1.length), some (.ref (h1.length + 1)), some (.ref k), some (.int more), none] h6 := by simp [eb5, mAppend, g6, sizeLine_eq]
  have t5 : (sEx (eMt isLst mAppend (eV 3) (aCons (eTup (aCons (eV 5) (aCons (eC .non) aNil))) aNil))) [some (.ref s), some (.int w), some (.ref h1.length), some (.ref (h1.length + 1)), some (.ref k), some (.int more), none] h6
      = .nx [some (.ref s), some (.int w), some (.ref h1.length), some (.ref (h1.length + 1)), some (.ref k), some (.int more), none] h7 := by simp [ec6, mAppend, g7, sizeLine_eq]
  have t6 : (sAs (.n 6) (eB F_law_fields (aCons (eV 1) (aCons (eV 4) aNil)))) [some (.ref s), some (.int w), some (.ref h1.length), some (.ref (h1.length + 1)), some (.ref k), some (.int more), none] h7
      = .nx [some (.ref s), some (.int w), some (.ref h1.length), some (.ref (h1.length + 1)), some (.ref k), some (.int more), some (.tup (due w (.ref h1.length) (.ref (h1.length + 1))))] h7 := by simp [fl']
  have t7 : (sIf (tOr' (tB (eOp (fEq true) (eB bLen (aCons (eOp fIx (eV 6) (eC (.int 0))) aNil)) (eC (.int 2)))) (tNo (tTr (eB F_law_same (aCons (eOp fIx (eOp fIx (eV 6) (eC (.int 0))) (eC (.int 1))) (aCons (eV 5) aNil)))))) (sRt (eC (.bl false))) sNx)
      [some (.ref s), some (.int w), some (.ref h1.length), some (.ref (h1.length + 1)), some (.ref k), some (.int more), some (.tup (due w (.ref h1.length) (.ref (h1.length + 1))))] h7
      = .nx [some (.ref s), some (.int w), some (.ref h1.length), some (.ref (h1.length + 1)), some (.ref k), some (.int more), some (.tup (due w (.ref h1.length) (.ref (h1.length + 1))))] h8 := by
    obtain ⟨rr, hr⟩ := due0 w (.ref h1.length) (.ref (h1.length + 1))
    rw [hr]
    simp [eb7, bLen, s8]
  have t8 : ∃ hh, (sRt (eOr (eOp (fEq false) (eB bLen (aCons (eV 6) aNil)) (eC (.int 1))) (eB F_law_same (aCons (eOp fIx (eV 6) (eC (.int 1))) (aCons (eLst (aCons (eC (.str "x")) (aCons (eTup (aCons (eV 5) (aCons (eC .non) aNil))) aNil))) aNil)))))
      [some (.ref s), some (.int w), some (.ref h1.length), some (.ref (h1.length + 1)), some (.ref k), some (.int more), some (.tup (due w (.ref h1.length) (.ref (h1.length + 1))))] h8 = .rt (.bl true) hh ∧ Ex h8 hh := by
    unfold due
    split
    · exact ⟨h9, by simp [s9], (Ex.app _ _).trans x9⟩
    · exact ⟨h8, by simp, Ex.refl _⟩
  obtain ⟨hh, t8, xh⟩ := t8
  refine ⟨hh, ?_, S7.ex (x8.trans xh)⟩
  unfold F_law_very S_law_very
  rw [fnR_ap]
  simp only [List.length_cons, List.length_nil, if_pos, List.map_cons, List.map_nil, List.replicate, List.cons_append, List.nil_append, Nat.zero_add, Nat.reduceAdd, Nat.reduceSub]
  simp only [sSeq_ap, sq_nx, t1, t2, t3, t4, t5, t6, t7, t8, endS_rt]
end K98
namespace K98
open Fl PySem
theorem inner_law {h : IH} {s n w : Nat} {x0 x3 x4 x5 : Option D} (S : Sv h s n) (hn : n ≤ 40000) (hw : w < 9) : ∃ y3 h', forGo (fun _ => True) (.n 3) (sIf (tNo (tTr (eB F_law_asked (aCons (eV 1) (aCons (eV 2) (aCons (eV 3) aNil)))))) (sRt (eC (.bl false))) sNx) (rgD 0 3) [x0, some (.ref s), some (.int w), x3, x4, x5] h
      = .nx [x0, some (.ref s), some (.int w), y3, x4, x5] h' ∧ Sv h' s (n + 12) := by
  refine for_run (fun i e h' => ∃ y3, e = [x0, some (.ref s), some (.int w), y3, x4, x5] ∧ Sv h' s (n + 4 * i)) (fun r => ∃ y3 h', r = .nx [x0, some (.ref s), some (.int w), y3, x4, x5] h' ∧ Sv h' s (n + 12)) ?_ ?_ ⟨x3, rfl, S⟩
  · rintro i d e h' hi ⟨y3, rfl, S'⟩
    obtain ⟨hi3, rfl⟩ := rgD_get hi
    have i0 : (0 : Int) + (i : Int) = (i : Int) := by omega
    rw [i0]
    refine ⟨trivial, _, rfl, .inl ?_⟩
    obtain ⟨h2, a1, a2⟩ := asked (y := i) S' (by omega) hw hi3
    refine ⟨_, h2, .inl ?_, some (.int i), rfl, a2.le (by omega)⟩
    simp [a1]
  · rintro e h' ⟨y3, rfl, S'⟩
    exact ⟨trivial, y3, h', rfl, S'.le (by simp [rgD_len])⟩
theorem yes : ∀ ns : List Int, ns.length ≤ 63 → ∃ h, Flaw [.fls (ns.map D.int)] [] = .ok (.bl true) h := by
  intro ns hn
  obtain ⟨s, h1, r1, S1⟩ := sieve hn
  unfold Flaw Slaw
  rw [fnR_ap]
  simp only [List.length_cons, List.length_nil, if_pos, List.map_cons, List.map_nil, List.replicate, List.cons_append, List.nil_append, Nat.zero_add, Nat.reduceAdd, Nat.reduceSub]
  have t1 : (sAs (.n 1) (eB F_law_sieve (aCons (eV 0) aNil))) [some (D.fls (ns.map D.int)), none, none, none, none, none] [] = .nx [some (D.fls (ns.map D.int)), some (.ref s), none, none, none, none] h1 := by simp [r1]
  have t2 : ∃ x2 x3 h2, (sFor (.n 2) (iR1 (aCons (eC (.int 9)) aNil)) (sSeq (sFor (.n 3) (iR1 (aCons (eC (.int 3)) aNil)) (sIf (tNo (tTr (eB F_law_asked (aCons (eV 1) (aCons (eV 2) (aCons (eV 3) aNil)))))) (sRt (eC (.bl false))) sNx)) (sIf (tNo (tTr (eB F_law_very (aCons (eV 1) (aCons (eV 2) aNil))))) (sRt (eC (.bl false))) sNx)))
      [some (D.fls (ns.map D.int)), some (.ref s), none, none, none, none] h1 = .nx [some (D.fls (ns.map D.int)), some (.ref s), x2, x3, none, none] h2 := by
    have b1 : (9 : Int) < 2 ^ 62 := by omega
    have b2 : -(2 ^ 62) ≤ (9 : Int) := by omega
    simp only [sFor_ap (tg := .n 2), iR1_ap, aCons_ap, eC_ap, aNil_ap, bind_ok, if_pos (And.intro b2 b1), st_ok]
    refine for_run (fun i e h' => ∃ x2 x3, e = [some (D.fls (ns.map D.int)), some (.ref s), x2, x3, none, none] ∧ Sv h' s (15 * i)) (fun r => ∃ x2 x3 h2, r = .nx [some (D.fls (ns.map D.int)), some (.ref s), x2, x3, none, none] h2) ?_ ?_ ⟨none, none, rfl, S1⟩
    · rintro i d e h' hi ⟨x2, x3, rfl, S'⟩
      obtain ⟨hi9, rfl⟩ := rgD_get hi
      have i0 : (0 : Int) + (i : Int) = (i : Int) := by omega
      rw [i0]
      refine ⟨trivial, _, rfl, .inl ?_⟩
      obtain ⟨y3, h2, q1, q2⟩ := inner_law (x0 := some (D.fls (ns.map D.int))) (x3 := x3) (x4 := none) (x5 := none) S' (by omega) (w := i) hi9
      obtain ⟨h3, v1, v2⟩ := very q2 (by omega) (w := i) hi9
      refine ⟨_, h3, .inl ?_, some (.int i), y3, rfl, v2.le (by omega)⟩
      have c1 : (3 : Int) < 2 ^ 62 := by omega
      have c2 : -(2 ^ 62) ≤ (3 : Int) := by omega
      have f1 : (sFor (.n 3) (iR1 (aCons (eC (.int 3)) aNil)) (sIf (tNo (tTr (eB F_law_asked (aCons (eV 1) (aCons (eV 2) (aCons (eV 3) aNil)))))) (sRt (eC (.bl false))) sNx)) [some (D.fls (ns.map D.int)), some (.ref s), some (.int i), x3, none, none] h' = .nx [some (D.fls (ns.map D.int)), some (.ref s), some (.int i), y3, none, none] h2 := by
        simp only [sFor_ap, iR1_ap, aCons_ap, eC_ap, aNil_ap, bind_ok, if_pos (And.intro c2 c1), st_ok]
        exact q1
      simp only [List.set_cons_succ, List.set_cons_zero, sSeq_ap, f1, sq_nx]
      simp [v1]
    · rintro e h' ⟨x2, x3, rfl, S'⟩
      exact ⟨trivial, _, _, _, rfl⟩
  obtain ⟨x2, x3, h2, t2⟩ := t2
  obtain ⟨k1, h3, m1, e1, p1, q1⟩ := made (w := 1) (y := 0) (by omega) (by omega) (.str "twice") (.str "a") h2
  obtain ⟨k2, h4, m2, e2, p2, q2⟩ := made (w := 1) (y := 0) (by omega) (by omega) (.str "again") (.str "b") h3
  have e1' := p2 _ _ e1
  obtain ⟨h5, s5, x5⟩ := same (s := 0) (h := h4) (a := .tup [.str "twice", .str "a", .str "again", .str "b"]) (b := .tup [.str "twice", .str "a", .str "again", .str "b"]) (n := 1 + (1 + (1 + (1 + 0))) + 1)
    (.tup rfl (.cons (.str _ (by decide +kernel)) (.cons (.str _ (by decide +kernel)) (.cons (.str _ (by decide +kernel)) (.cons (.str _ (by decide +kernel)) .nil))))) (by omega)
  have m1' : F_law_made [.int 1, .str "twice", .str "a", .int 0] h2 = .ok (.ref k1) h3 := m1
  have m2' : F_law_made [.int 1, .str "again", .str "b", .int 0] h3 = .ok (.ref k2) h4 := m2
  have e1f : h4[k1]? = some (.exc 6 [("name", .str "a"), ("word", .str "twice")]) := e1'
  have e2f : h4[k2]? = some (.exc 6 [("name", .str "b"), ("word", .str "again")]) := e2
  refine ⟨h5, ?_⟩
  simp only [sSeq_ap, sq_nx, t1, t2]
  simp [m1', m2', e1f, e2f, NC, List.lookup, sn1, s5]
end K98
namespace K98
open PySem L2 Fl
theorem all_mk {l : PySem.W.OpenLaw} {w : World} {K : PySem.W.Frag} {h : Heap} {mg : Str → Option Value} {fa C0 C1 C2 C3 C4 C5 C6 C7 C8 C9 C10 C11 C12 C13 I5 I6 I7 I8 I9 I10 I11 I12 I13 f0 f1 f2 f3 f4 f5 f6 f7 f8 f9 f10 f11 f12 f13 f14 : Addr} (X : K.In h) (G : h.Ns mainGlobals mg) (hfa : mg "law" = some (.ref fa))
    {nm5 q5 : Str} {N5 : Addr} {bs5 : List Value} {sn5 : List Str} {su5 : List Value} {ab5 : Bool} {co5 : Option Bool} {dd5 : Option Addr} {m05 m15 m25 m35 m55 : Option Value}
    {odI5 anI5 : Option Addr} {slI5 : Array (Option Value)} {ocI5 kVI5 dcI5 pmI5 cdI5 ctI5 : Value}
    {nm6 q6 : Str} {N6 : Addr} {bs6 : List Value} {sn6 : List Str} {su6 : List Value} {ab6 : Bool} {co6 : Option Bool} {dd6 : Option Addr} {m06 m16 m26 m36 m56 : Option Value}
    {odI6 anI6 : Option Addr} {slI6 : Array (Option Value)} {ocI6 kVI6 dcI6 pmI6 cdI6 ctI6 : Value}
    {nm7 q7 : Str} {N7 : Addr} {bs7 : List Value} {sn7 : List Str} {su7 : List Value} {ab7 : Bool} {co7 : Option Bool} {dd7 : Option Addr} {m07 m17 m27 m37 m57 : Option Value}
    {odI7 anI7 : Option Addr} {slI7 : Array (Option Value)} {ocI7 kVI7 dcI7 pmI7 cdI7 ctI7 : Value}
    {nm8 q8 : Str} {N8 : Addr} {bs8 : List Value} {sn8 : List Str} {su8 : List Value} {ab8 : Bool} {co8 : Option Bool} {dd8 : Option Addr} {m08 m18 m28 m38 m58 : Option Value}
    {odI8 anI8 : Option Addr} {slI8 : Array (Option Value)} {ocI8 kVI8 dcI8 pmI8 cdI8 ctI8 : Value}
    {nm9 q9 : Str} {N9 : Addr} {bs9 : List Value} {sn9 : List Str} {su9 : List Value} {ab9 : Bool} {co9 : Option Bool} {dd9 : Option Addr} {m09 m19 m29 m39 m59 : Option Value}
    {odI9 anI9 : Option Addr} {slI9 : Array (Option Value)} {ocI9 kVI9 dcI9 pmI9 cdI9 ctI9 : Value}
    {nm10 q10 : Str} {N10 : Addr} {bs10 : List Value} {sn10 : List Str} {su10 : List Value} {ab10 : Bool} {co10 : Option Bool} {dd10 : Option Addr} {m010 m110 m210 m310 m510 : Option Value}
    {odI10 anI10 : Option Addr} {slI10 : Array (Option Value)} {ocI10 kVI10 dcI10 pmI10 cdI10 ctI10 : Value}
    {nm11 q11 : Str} {N11 : Addr} {bs11 : List Value} {sn11 : List Str} {su11 : List Value} {ab11 : Bool} {co11 : Option Bool} {dd11 : Option Addr} {m011 m111 m211 m311 m511 : Option Value}
    {odI11 anI11 : Option Addr} {slI11 : Array (Option Value)} {ocI11 kVI11 dcI11 pmI11 cdI11 ctI11 : Value}
    {nm12 q12 : Str} {N12 : Addr} {bs12 : List Value} {sn12 : List Str} {su12 : List Value} {ab12 : Bool} {co12 : Option Bool} {dd12 : Option Addr} {m012 m112 m212 m312 m512 : Option Value}
    {odI12 anI12 : Option Addr} {slI12 : Array (Option Value)} {ocI12 kVI12 dcI12 pmI12 cdI12 ctI12 : Value}
    {nm13 q13 : Str} {N13 : Addr} {bs13 : List Value} {sn13 : List Str} {su13 : List Value} {ab13 : Bool} {co13 : Option Bool} {dd13 : Option Addr} {m013 m113 m213 m313 m513 : Option Value}
    {odI13 anI13 : Option Addr} {slI13 : Array (Option Value)} {ocI13 kVI13 dcI13 pmI13 cdI13 ctI13 : Value}
    {odF0 anF0 : Option Addr} {slF0 : Array (Option Value)} {ocF0 kVF0 dcF0 pmF0 cdF0 ctF0 : Value}
    {odF1 anF1 : Option Addr} {slF1 : Array (Option Value)} {ocF1 kVF1 dcF1 pmF1 cdF1 ctF1 : Value}
    {odF2 anF2 : Option Addr} {slF2 : Array (Option Value)} {ocF2 kVF2 dcF2 pmF2 cdF2 ctF2 : Value}
    {odF3 anF3 : Option Addr} {slF3 : Array (Option Value)} {ocF3 kVF3 dcF3 pmF3 cdF3 ctF3 : Value}
    {odF4 anF4 : Option Addr} {slF4 : Array (Option Value)} {ocF4 kVF4 dcF4 pmF4 cdF4 ctF4 : Value}
    {odF5 anF5 : Option Addr} {slF5 : Array (Option Value)} {ocF5 kVF5 dcF5 pmF5 cdF5 ctF5 : Value}
    {odF6 anF6 : Option Addr} {slF6 : Array (Option Value)} {ocF6 kVF6 dcF6 pmF6 cdF6 ctF6 : Value}
    {odF7 anF7 : Option Addr} {slF7 : Array (Option Value)} {ocF7 kVF7 dcF7 pmF7 cdF7 ctF7 : Value}
    {odF8 anF8 : Option Addr} {slF8 : Array (Option Value)} {ocF8 kVF8 dcF8 pmF8 cdF8 ctF8 : Value}
    {odF9 anF9 : Option Addr} {slF9 : Array (Option Value)} {ocF9 kVF9 dcF9 pmF9 cdF9 ctF9 : Value}
    {odF10 anF10 : Option Addr} {slF10 : Array (Option Value)} {ocF10 kVF10 dcF10 pmF10 cdF10 ctF10 : Value}
    {odF11 anF11 : Option Addr} {slF11 : Array (Option Value)} {ocF11 kVF11 dcF11 pmF11 cdF11 ctF11 : Value}
    {odF12 anF12 : Option Addr} {slF12 : Array (Option Value)} {ocF12 kVF12 dcF12 pmF12 cdF12 ctF12 : Value}
    {odF13 anF13 : Option Addr} {slF13 : Array (Option Value)} {ocF13 kVF13 dcF13 pmF13 cdF13 ctF13 : Value}
    {odF14 anF14 : Option Addr} {slF14 : Array (Option Value)} {ocF14 kVF14 dcF14 pmF14 cdF14 ctF14 : Value}
    (b0 : PySem.W.nsIn K mainGlobals "LastError" = some (some (.ref C0)))
    (b1 : PySem.W.nsIn K mainGlobals "DataError" = some (some (.ref C1)))
    (b2 : PySem.W.nsIn K mainGlobals "CallError" = some (some (.ref C2)))
    (b3 : PySem.W.nsIn K mainGlobals "TextError" = some (some (.ref C3)))
    (b4 : PySem.W.nsIn K mainGlobals "ShopError" = some (some (.ref C4)))
    (b5 : PySem.W.nsIn K mainGlobals "BadTree" = some (some (.ref C5)))
    (x5 : K.lookup C5 = some (excClassObj nm5 q5 C5 N5 bs5 [.ref C1, .ref C0, .type "ValueError", .type "Exception", .type "BaseException", .type "object"] true sn5 su5 ab5 co5 dd5 m05 m15 m25 m35 m55 "ValueError.__new__"))
    (i5 : PySem.W.findIn K (.ref C5) "__init__" = some (some (.ref I5))) (t5 : PySem.W.typeIn K (.ref I5) = some (.type "function"))
    (lI5 : K.lookup I5 = some ⟨ocI5, odI5, .func (PySem.W.fnOf "__init__" "BadTree.__init__" (defArgs (inClass (top 6) 0)) (defBody (inClass (top 6) 0)) (defScope (inClass (top 6) 0)) .none kVI5 dcI5 pmI5 anI5 cdI5 ctI5), slI5⟩) (cI5 : PySem.W.codeIn K cdI5 "BadTree.__init__" = true) (kI5 : PySem.W.keepIn K (.ref I5) = true)
    (b6 : PySem.W.nsIn K mainGlobals "BadProgram" = some (some (.ref C6)))
    (x6 : K.lookup C6 = some (excClassObj nm6 q6 C6 N6 bs6 [.ref C1, .ref C0, .type "ValueError", .type "Exception", .type "BaseException", .type "object"] true sn6 su6 ab6 co6 dd6 m06 m16 m26 m36 m56 "ValueError.__new__"))
    (i6 : PySem.W.findIn K (.ref C6) "__init__" = some (some (.ref I6))) (t6 : PySem.W.typeIn K (.ref I6) = some (.type "function"))
    (lI6 : K.lookup I6 = some ⟨ocI6, odI6, .func (PySem.W.fnOf "__init__" "BadProgram.__init__" (defArgs (inClass (top 7) 0)) (defBody (inClass (top 7) 0)) (defScope (inClass (top 7) 0)) .none kVI6 dcI6 pmI6 anI6 cdI6 ctI6), slI6⟩) (cI6 : PySem.W.codeIn K cdI6 "BadProgram.__init__" = true) (kI6 : PySem.W.keepIn K (.ref I6) = true)
    (b7 : PySem.W.nsIn K mainGlobals "BadNetwork" = some (some (.ref C7)))
    (x7 : K.lookup C7 = some (excClassObj nm7 q7 C7 N7 bs7 [.ref C1, .ref C0, .type "ValueError", .type "Exception", .type "BaseException", .type "object"] true sn7 su7 ab7 co7 dd7 m07 m17 m27 m37 m57 "ValueError.__new__"))
    (i7 : PySem.W.findIn K (.ref C7) "__init__" = some (some (.ref I7))) (t7 : PySem.W.typeIn K (.ref I7) = some (.type "function"))
    (lI7 : K.lookup I7 = some ⟨ocI7, odI7, .func (PySem.W.fnOf "__init__" "BadNetwork.__init__" (defArgs (inClass (top 8) 0)) (defBody (inClass (top 8) 0)) (defScope (inClass (top 8) 0)) .none kVI7 dcI7 pmI7 anI7 cdI7 ctI7), slI7⟩) (cI7 : PySem.W.codeIn K cdI7 "BadNetwork.__init__" = true) (kI7 : PySem.W.keepIn K (.ref I7) = true)
    (b8 : PySem.W.nsIn K mainGlobals "BadWishes" = some (some (.ref C8)))
    (x8 : K.lookup C8 = some (excClassObj nm8 q8 C8 N8 bs8 [.ref C1, .ref C0, .type "ValueError", .type "Exception", .type "BaseException", .type "object"] true sn8 su8 ab8 co8 dd8 m08 m18 m28 m38 m58 "ValueError.__new__"))
    (i8 : PySem.W.findIn K (.ref C8) "__init__" = some (some (.ref I8))) (t8 : PySem.W.typeIn K (.ref I8) = some (.type "function"))
    (lI8 : K.lookup I8 = some ⟨ocI8, odI8, .func (PySem.W.fnOf "__init__" "BadWishes.__init__" (defArgs (inClass (top 9) 0)) (defBody (inClass (top 9) 0)) (defScope (inClass (top 9) 0)) .none kVI8 dcI8 pmI8 anI8 cdI8 ctI8), slI8⟩) (cI8 : PySem.W.codeIn K cdI8 "BadWishes.__init__" = true) (kI8 : PySem.W.keepIn K (.ref I8) = true)
    (b9 : PySem.W.nsIn K mainGlobals "BadStep" = some (some (.ref C9)))
    (x9 : K.lookup C9 = some (excClassObj nm9 q9 C9 N9 bs9 [.ref C2, .ref C0, .type "ValueError", .type "Exception", .type "BaseException", .type "object"] true sn9 su9 ab9 co9 dd9 m09 m19 m29 m39 m59 "ValueError.__new__"))
    (i9 : PySem.W.findIn K (.ref C9) "__init__" = some (some (.ref I9))) (t9 : PySem.W.typeIn K (.ref I9) = some (.type "function"))
    (lI9 : K.lookup I9 = some ⟨ocI9, odI9, .func (PySem.W.fnOf "__init__" "BadStep.__init__" (defArgs (inClass (top 10) 0)) (defBody (inClass (top 10) 0)) (defScope (inClass (top 10) 0)) .none kVI9 dcI9 pmI9 anI9 cdI9 ctI9), slI9⟩) (cI9 : PySem.W.codeIn K cdI9 "BadStep.__init__" = true) (kI9 : PySem.W.keepIn K (.ref I9) = true)
    (b10 : PySem.W.nsIn K mainGlobals "BadText" = some (some (.ref C10)))
    (x10 : K.lookup C10 = some (excClassObj nm10 q10 C10 N10 bs10 [.ref C3, .ref C0, .type "ValueError", .type "Exception", .type "BaseException", .type "object"] true sn10 su10 ab10 co10 dd10 m010 m110 m210 m310 m510 "ValueError.__new__"))
    (i10 : PySem.W.findIn K (.ref C10) "__init__" = some (some (.ref I10))) (t10 : PySem.W.typeIn K (.ref I10) = some (.type "function"))
    (lI10 : K.lookup I10 = some ⟨ocI10, odI10, .func (PySem.W.fnOf "__init__" "BadText.__init__" (defArgs (inClass (top 11) 0)) (defBody (inClass (top 11) 0)) (defScope (inClass (top 11) 0)) .none kVI10 dcI10 pmI10 anI10 cdI10 ctI10), slI10⟩) (cI10 : PySem.W.codeIn K cdI10 "BadText.__init__" = true) (kI10 : PySem.W.keepIn K (.ref I10) = true)
    (b11 : PySem.W.nsIn K mainGlobals "BadCommand" = some (some (.ref C11)))
    (x11 : K.lookup C11 = some (excClassObj nm11 q11 C11 N11 bs11 [.ref C3, .ref C0, .type "ValueError", .type "Exception", .type "BaseException", .type "object"] true sn11 su11 ab11 co11 dd11 m011 m111 m211 m311 m511 "ValueError.__new__"))
    (i11 : PySem.W.findIn K (.ref C11) "__init__" = some (some (.ref I11))) (t11 : PySem.W.typeIn K (.ref I11) = some (.type "function"))
    (lI11 : K.lookup I11 = some ⟨ocI11, odI11, .func (PySem.W.fnOf "__init__" "BadCommand.__init__" (defArgs (inClass (top 12) 0)) (defBody (inClass (top 12) 0)) (defScope (inClass (top 12) 0)) .none kVI11 dcI11 pmI11 anI11 cdI11 ctI11), slI11⟩) (cI11 : PySem.W.codeIn K cdI11 "BadCommand.__init__" = true) (kI11 : PySem.W.keepIn K (.ref I11) = true)
    (b12 : PySem.W.nsIn K mainGlobals "NoSuch" = some (some (.ref C12)))
    (x12 : K.lookup C12 = some (excClassObj nm12 q12 C12 N12 bs12 [.ref C4, .ref C0, .type "ValueError", .type "Exception", .type "BaseException", .type "object"] true sn12 su12 ab12 co12 dd12 m012 m112 m212 m312 m512 "ValueError.__new__"))
    (i12 : PySem.W.findIn K (.ref C12) "__init__" = some (some (.ref I12))) (t12 : PySem.W.typeIn K (.ref I12) = some (.type "function"))
    (lI12 : K.lookup I12 = some ⟨ocI12, odI12, .func (PySem.W.fnOf "__init__" "NoSuch.__init__" (defArgs (inClass (top 13) 0)) (defBody (inClass (top 13) 0)) (defScope (inClass (top 13) 0)) .none kVI12 dcI12 pmI12 anI12 cdI12 ctI12), slI12⟩) (cI12 : PySem.W.codeIn K cdI12 "NoSuch.__init__" = true) (kI12 : PySem.W.keepIn K (.ref I12) = true)
    (b13 : PySem.W.nsIn K mainGlobals "Taken" = some (some (.ref C13)))
    (x13 : K.lookup C13 = some (excClassObj nm13 q13 C13 N13 bs13 [.ref C4, .ref C0, .type "ValueError", .type "Exception", .type "BaseException", .type "object"] true sn13 su13 ab13 co13 dd13 m013 m113 m213 m313 m513 "ValueError.__new__"))
    (i13 : PySem.W.findIn K (.ref C13) "__init__" = some (some (.ref I13))) (t13 : PySem.W.typeIn K (.ref I13) = some (.type "function"))
    (lI13 : K.lookup I13 = some ⟨ocI13, odI13, .func (PySem.W.fnOf "__init__" "Taken.__init__" (defArgs (inClass (top 14) 0)) (defBody (inClass (top 14) 0)) (defScope (inClass (top 14) 0)) .none kVI13 dcI13 pmI13 anI13 cdI13 ctI13), slI13⟩) (cI13 : PySem.W.codeIn K cdI13 "Taken.__init__" = true) (kI13 : PySem.W.keepIn K (.ref I13) = true)
    (a0 : PySem.W.nsIn K mainGlobals "_law_sieve" = some (some (.ref f0)))
    (lF0 : K.lookup f0 = some ⟨ocF0, odF0, .func (PySem.W.fnOf "_law_sieve" "_law_sieve" (defArgs (top 16)) (defBody (top 16)) (defScope (top 16)) .none kVF0 dcF0 pmF0 anF0 cdF0 ctF0), slF0⟩) (cF0 : PySem.W.codeIn K cdF0 "_law_sieve" = true) (kF0 : PySem.W.keepIn K (.ref f0) = true)
    (a1 : PySem.W.nsIn K mainGlobals "_law_sift" = some (some (.ref f1)))
    (lF1 : K.lookup f1 = some ⟨ocF1, odF1, .func (PySem.W.fnOf "_law_sift" "_law_sift" (defArgs (top 17)) (defBody (top 17)) (defScope (top 17)) .none kVF1 dcF1 pmF1 anF1 cdF1 ctF1), slF1⟩) (cF1 : PySem.W.codeIn K cdF1 "_law_sift" = true) (kF1 : PySem.W.keepIn K (.ref f1) = true)
    (a2 : PySem.W.nsIn K mainGlobals "_law_same" = some (some (.ref f2)))
    (lF2 : K.lookup f2 = some ⟨ocF2, odF2, .func (PySem.W.fnOf "_law_same" "_law_same" (defArgs (top 18)) (defBody (top 18)) (defScope (top 18)) .none kVF2 dcF2 pmF2 anF2 cdF2 ctF2), slF2⟩) (cF2 : PySem.W.codeIn K cdF2 "_law_same" = true) (kF2 : PySem.W.keepIn K (.ref f2) = true)
    (a3 : PySem.W.nsIn K mainGlobals "_law_value" = some (some (.ref f3)))
    (lF3 : K.lookup f3 = some ⟨ocF3, odF3, .func (PySem.W.fnOf "_law_value" "_law_value" (defArgs (top 19)) (defBody (top 19)) (defScope (top 19)) .none kVF3 dcF3 pmF3 anF3 cdF3 ctF3), slF3⟩) (cF3 : PySem.W.codeIn K cdF3 "_law_value" = true) (kF3 : PySem.W.keepIn K (.ref f3) = true)
    (a4 : PySem.W.nsIn K mainGlobals "_law_made" = some (some (.ref f4)))
    (lF4 : K.lookup f4 = some ⟨ocF4, odF4, .func (PySem.W.fnOf "_law_made" "_law_made" (defArgs (top 20)) (defBody (top 20)) (defScope (top 20)) .none kVF4 dcF4 pmF4 anF4 cdF4 ctF4), slF4⟩) (cF4 : PySem.W.codeIn K cdF4 "_law_made" = true) (kF4 : PySem.W.keepIn K (.ref f4) = true)
    (a5 : PySem.W.nsIn K mainGlobals "_law_fields" = some (some (.ref f5)))
    (lF5 : K.lookup f5 = some ⟨ocF5, odF5, .func (PySem.W.fnOf "_law_fields" "_law_fields" (defArgs (top 21)) (defBody (top 21)) (defScope (top 21)) .none kVF5 dcF5 pmF5 anF5 cdF5 ctF5), slF5⟩) (cF5 : PySem.W.codeIn K cdF5 "_law_fields" = true) (kF5 : PySem.W.keepIn K (.ref f5) = true)
    (a6 : PySem.W.nsIn K mainGlobals "_law_raised" = some (some (.ref f6)))
    (lF6 : K.lookup f6 = some ⟨ocF6, odF6, .func (PySem.W.fnOf "_law_raised" "_law_raised" (defArgs (top 22)) (defBody (top 22)) (defScope (top 22)) .none kVF6 dcF6 pmF6 anF6 cdF6 ctF6), slF6⟩) (cF6 : PySem.W.codeIn K cdF6 "_law_raised" = true) (kF6 : PySem.W.keepIn K (.ref f6) = true)
    (a7 : PySem.W.nsIn K mainGlobals "_law_family" = some (some (.ref f7)))
    (lF7 : K.lookup f7 = some ⟨ocF7, odF7, .func (PySem.W.fnOf "_law_family" "_law_family" (defArgs (top 23)) (defBody (top 23)) (defScope (top 23)) .none kVF7 dcF7 pmF7 anF7 cdF7 ctF7), slF7⟩) (cF7 : PySem.W.codeIn K cdF7 "_law_family" = true) (kF7 : PySem.W.keepIn K (.ref f7) = true)
    (a8 : PySem.W.nsIn K mainGlobals "_law_own" = some (some (.ref f8)))
    (lF8 : K.lookup f8 = some ⟨ocF8, odF8, .func (PySem.W.fnOf "_law_own" "_law_own" (defArgs (top 24)) (defBody (top 24)) (defScope (top 24)) .none kVF8 dcF8 pmF8 anF8 cdF8 ctF8), slF8⟩) (cF8 : PySem.W.codeIn K cdF8 "_law_own" = true) (kF8 : PySem.W.keepIn K (.ref f8) = true)
    (a9 : PySem.W.nsIn K mainGlobals "_law_ahead" = some (some (.ref f9)))
    (lF9 : K.lookup f9 = some ⟨ocF9, odF9, .func (PySem.W.fnOf "_law_ahead" "_law_ahead" (defArgs (top 25)) (defBody (top 25)) (defScope (top 25)) .none kVF9 dcF9 pmF9 anF9 cdF9 ctF9), slF9⟩) (cF9 : PySem.W.codeIn K cdF9 "_law_ahead" = true) (kF9 : PySem.W.keepIn K (.ref f9) = true)
    (a10 : PySem.W.nsIn K mainGlobals "_law_any" = some (some (.ref f10)))
    (lF10 : K.lookup f10 = some ⟨ocF10, odF10, .func (PySem.W.fnOf "_law_any" "_law_any" (defArgs (top 26)) (defBody (top 26)) (defScope (top 26)) .none kVF10 dcF10 pmF10 anF10 cdF10 ctF10), slF10⟩) (cF10 : PySem.W.codeIn K cdF10 "_law_any" = true) (kF10 : PySem.W.keepIn K (.ref f10) = true)
    (a11 : PySem.W.nsIn K mainGlobals "_law_kinds" = some (some (.ref f11)))
    (lF11 : K.lookup f11 = some ⟨ocF11, odF11, .func (PySem.W.fnOf "_law_kinds" "_law_kinds" (defArgs (top 27)) (defBody (top 27)) (defScope (top 27)) .none kVF11 dcF11 pmF11 anF11 cdF11 ctF11), slF11⟩) (cF11 : PySem.W.codeIn K cdF11 "_law_kinds" = true) (kF11 : PySem.W.keepIn K (.ref f11) = true)
    (a12 : PySem.W.nsIn K mainGlobals "_law_asked" = some (some (.ref f12)))
    (lF12 : K.lookup f12 = some ⟨ocF12, odF12, .func (PySem.W.fnOf "_law_asked" "_law_asked" (defArgs (top 28)) (defBody (top 28)) (defScope (top 28)) .none kVF12 dcF12 pmF12 anF12 cdF12 ctF12), slF12⟩) (cF12 : PySem.W.codeIn K cdF12 "_law_asked" = true) (kF12 : PySem.W.keepIn K (.ref f12) = true)
    (a13 : PySem.W.nsIn K mainGlobals "_law_very" = some (some (.ref f13)))
    (lF13 : K.lookup f13 = some ⟨ocF13, odF13, .func (PySem.W.fnOf "_law_very" "_law_very" (defArgs (top 29)) (defBody (top 29)) (defScope (top 29)) .none kVF13 dcF13 pmF13 anF13 cdF13 ctF13), slF13⟩) (cF13 : PySem.W.codeIn K cdF13 "_law_very" = true) (kF13 : PySem.W.keepIn K (.ref f13) = true)
    (a14 : PySem.W.nsIn K mainGlobals "law" = some (some (.ref f14)))
    (lF14 : K.lookup f14 = some ⟨ocF14, odF14, .func (PySem.W.fnOf "law" "law" (defArgs (top 30)) (defBody (top 30)) (defScope (top 30)) .none kVF14 dcF14 pmF14 anF14 cdF14 ctF14), slF14⟩) (cF14 : PySem.W.codeIn K cdF14 "law" = true) (kF14 : PySem.W.keepIn K (.ref f14) = true)
    (n_ValueError : PySem.W.nsIn K mainGlobals "ValueError" = some none)
    (n_bool : PySem.W.nsIn K mainGlobals "bool" = some none)
    (n_int : PySem.W.nsIn K mainGlobals "int" = some none)
    (n_isinstance : PySem.W.nsIn K mainGlobals "isinstance" = some none)
    (n_len : PySem.W.nsIn K mainGlobals "len" = some none)
    (n_list : PySem.W.nsIn K mainGlobals "list" = some none)
    (n_range : PySem.W.nsIn K mainGlobals "range" = some none)
    (n_str : PySem.W.nsIn K mainGlobals "str" = some none)
    (n_tuple : PySem.W.nsIn K mainGlobals "tuple" = some none)
    (fam : famB K (fun n => [C0, C1, C2, C3, C4, C5, C6, C7, C8, C9, C10, C11, C12, C13].getD n 0) NC upC = true)
    (isv : (List.range NC).all (fun c => decide (PySem.W.kitOne K (.ref ((fun n => [C0, C1, C2, C3, C4, C5, C6, C7, C8, C9, C10, C11, C12, C13].getD n 0) c)) (.type "ValueError") = some true)) = true)
    (no_at : (List.range NC).all (fun c => decide (PySem.W.findIn K (.ref ((fun n => [C0, C1, C2, C3, C4, C5, C6, C7, C8, C9, C10, C11, C12, C13].getD n 0) c)) "at" = some none)) = true)
    (no_line : (List.range NC).all (fun c => decide (PySem.W.findIn K (.ref ((fun n => [C0, C1, C2, C3, C4, C5, C6, C7, C8, C9, C10, C11, C12, C13].getD n 0) c)) "line" = some none)) = true)
    (no_name : (List.range NC).all (fun c => decide (PySem.W.findIn K (.ref ((fun n => [C0, C1, C2, C3, C4, C5, C6, C7, C8, C9, C10, C11, C12, C13].getD n 0) c)) "name" = some none)) = true)
    (no_word : (List.range NC).all (fun c => decide (PySem.W.findIn K (.ref ((fun n => [C0, C1, C2, C3, C4, C5, C6, C7, C8, C9, C10, C11, C12, C13].getD n 0) c)) "word" = some none)) = true)
    : ∃ fd : FuncData, (∀ (s : Shared) (v : Value), BindsTo s fd ⟨[v], []⟩ [("script", v)]) ∧ ∀ base : Heap, K.In base → base.Ns mainGlobals mg → FnOk l.prog w K mg base (L2.CX l.prog w) 6 fa fd ["script"] (spLaw K) := by
  have e : f14 = fa := (Value.ref.inj (Option.some.inj (hfa.symm.trans (PySem.W.mg_of X G a14)))).symm
  subst e
  let fd0 : FuncData := (PySem.W.fnOf "law" "law" (defArgs (top 30)) (defBody (top 30)) (defScope (top 30)) .none kVF14 dcF14 pmF14 anF14 cdF14 ctF14)
  have fam2 : FamT K (fun n => [C0, C1, C2, C3, C4, C5, C6, C7, C8, C9, C10, C11, C12, C13].getD n 0) NC upC := famB_ok fam
  have D0 : DefT K mg "_law_sieve" (top 16) ["script"] f0 _ := ⟨fun_mk (st := top 16) lF0 cF0 kF0, PySem.W.mg_of X G a0, kF0, (fun_mk (st := top 16) lF0 cF0 kF0).binds (ps := ["script"]) fun _ _ _ _ _ _ us hl => match us, hl with | [_], _ => rfl⟩
  have D1 : DefT K mg "_law_sift" (top 17) ["sieve", "many"] f1 _ := ⟨fun_mk (st := top 17) lF1 cF1 kF1, PySem.W.mg_of X G a1, kF1, (fun_mk (st := top 17) lF1 cF1 kF1).binds (ps := ["sieve", "many"]) fun _ _ _ _ _ _ us hl => match us, hl with | [_, _], _ => rfl⟩
  have D2 : DefT K mg "_law_same" (top 18) ["told", "due"] f2 _ := ⟨fun_mk (st := top 18) lF2 cF2 kF2, PySem.W.mg_of X G a2, kF2, (fun_mk (st := top 18) lF2 cF2 kF2).binds (ps := ["told", "due"]) fun _ _ _ _ _ _ us hl => match us, hl with | [_, _], _ => rfl⟩
  have D3 : DefT K mg "_law_value" (top 19) ["sieve"] f3 _ := ⟨fun_mk (st := top 19) lF3 cF3 kF3, PySem.W.mg_of X G a3, kF3, (fun_mk (st := top 19) lF3 cF3 kF3).binds (ps := ["sieve"]) fun _ _ _ _ _ _ us hl => match us, hl with | [_], _ => rfl⟩
  have D4 : DefT K mg "_law_made" (top 20) ["which", "one", "other", "way"] f4 _ := ⟨fun_mk (st := top 20) lF4 cF4 kF4, PySem.W.mg_of X G a4, kF4, (fun_mk (st := top 20) lF4 cF4 kF4).binds (ps := ["which", "one", "other", "way"]) fun _ _ _ _ _ _ us hl => match us, hl with | [_, _, _, _], _ => rfl⟩
  have D5 : DefT K mg "_law_fields" (top 21) ["which", "error"] f5 _ := ⟨fun_mk (st := top 21) lF5 cF5 kF5, PySem.W.mg_of X G a5, kF5, (fun_mk (st := top 21) lF5 cF5 kF5).binds (ps := ["which", "error"]) fun _ _ _ _ _ _ us hl => match us, hl with | [_, _], _ => rfl⟩
  have D6 : DefT K mg "_law_raised" (top 22) ["which", "one", "other"] f6 _ := ⟨fun_mk (st := top 22) lF6 cF6 kF6, PySem.W.mg_of X G a6, kF6, (fun_mk (st := top 22) lF6 cF6 kF6).binds (ps := ["which", "one", "other"]) fun _ _ _ _ _ _ us hl => match us, hl with | [_, _, _], _ => rfl⟩
  have D7 : DefT K mg "_law_family" (top 23) ["which", "one", "other"] f7 _ := ⟨fun_mk (st := top 23) lF7 cF7 kF7, PySem.W.mg_of X G a7, kF7, (fun_mk (st := top 23) lF7 cF7 kF7).binds (ps := ["which", "one", "other"]) fun _ _ _ _ _ _ us hl => match us, hl with | [_, _, _], _ => rfl⟩
  have D8 : DefT K mg "_law_own" (top 24) ["which", "one", "other"] f8 _ := ⟨fun_mk (st := top 24) lF8 cF8 kF8, PySem.W.mg_of X G a8, kF8, (fun_mk (st := top 24) lF8 cF8 kF8).binds (ps := ["which", "one", "other"]) fun _ _ _ _ _ _ us hl => match us, hl with | [_, _, _], _ => rfl⟩
  have D9 : DefT K mg "_law_ahead" (top 25) ["which", "one", "other"] f9 _ := ⟨fun_mk (st := top 25) lF9 cF9 kF9, PySem.W.mg_of X G a9, kF9, (fun_mk (st := top 25) lF9 cF9 kF9).binds (ps := ["which", "one", "other"]) fun _ _ _ _ _ _ us hl => match us, hl with | [_, _, _], _ => rfl⟩
  have D10 : DefT K mg "_law_any" (top 26) ["which", "one", "other"] f10 _ := ⟨fun_mk (st := top 26) lF10 cF10 kF10, PySem.W.mg_of X G a10, kF10, (fun_mk (st := top 26) lF10 cF10 kF10).binds (ps := ["which", "one", "other"]) fun _ _ _ _ _ _ us hl => match us, hl with | [_, _, _], _ => rfl⟩
  have D11 : DefT K mg "_law_kinds" (top 27) ["error"] f11 _ := ⟨fun_mk (st := top 27) lF11 cF11 kF11, PySem.W.mg_of X G a11, kF11, (fun_mk (st := top 27) lF11 cF11 kF11).binds (ps := ["error"]) fun _ _ _ _ _ _ us hl => match us, hl with | [_], _ => rfl⟩
  have D12 : DefT K mg "_law_asked" (top 28) ["sieve", "which", "way"] f12 _ := ⟨fun_mk (st := top 28) lF12 cF12 kF12, PySem.W.mg_of X G a12, kF12, (fun_mk (st := top 28) lF12 cF12 kF12).binds (ps := ["sieve", "which", "way"]) fun _ _ _ _ _ _ us hl => match us, hl with | [_, _, _], _ => rfl⟩
  have D13 : DefT K mg "_law_very" (top 29) ["sieve", "which"] f13 _ := ⟨fun_mk (st := top 29) lF13 cF13 kF13, PySem.W.mg_of X G a13, kF13, (fun_mk (st := top 29) lF13 cF13 kF13).binds (ps := ["sieve", "which"]) fun _ _ _ _ _ _ us hl => match us, hl with | [_, _], _ => rfl⟩
  have D14 : DefT K mg "law" (top 30) ["script"] f14 _ := ⟨fun_mk (st := top 30) lF14 cF14 kF14, PySem.W.mg_of X G a14, kF14, (fun_mk (st := top 30) lF14 cF14 kF14).binds (ps := ["script"]) fun _ _ _ _ _ _ us hl => match us, hl with | [_], _ => rfl⟩
  have E5 : Fun K "__init__" "BadTree.__init__" (inClass (top 6) 0) I5 _ := fun_mk (st := inClass (top 6) 0) lI5 cI5 kI5
  have B5 := E5.binds (ps := ["self", "word"]) fun _ _ _ _ _ _ us hl => match us, hl with | [_, _], _ => rfl
  have Y5 := fam2.x 5 (by decide)
  have X5 : XCls K C5 I5 := ⟨⟨⟨nm5, q5, N5, bs5, _, sn5, su5, ab5, co5, dd5, m05, m15, m25, m35, m55, x5, rfl⟩, Y5.sa, Y5.x.exC, Y5.ty, Y5.k⟩, i5, t5⟩
  have E6 : Fun K "__init__" "BadProgram.__init__" (inClass (top 7) 0) I6 _ := fun_mk (st := inClass (top 7) 0) lI6 cI6 kI6
  have B6 := E6.binds (ps := ["self", "word", "name"]) fun _ _ _ _ _ _ us hl => match us, hl with | [_, _, _], _ => rfl
  have Y6 := fam2.x 6 (by decide)
  have X6 : XCls K C6 I6 := ⟨⟨⟨nm6, q6, N6, bs6, _, sn6, su6, ab6, co6, dd6, m06, m16, m26, m36, m56, x6, rfl⟩, Y6.sa, Y6.x.exC, Y6.ty, Y6.k⟩, i6, t6⟩
  have E7 : Fun K "__init__" "BadNetwork.__init__" (inClass (top 8) 0) I7 _ := fun_mk (st := inClass (top 8) 0) lI7 cI7 kI7
  have B7 := E7.binds (ps := ["self", "at", "word"]) fun _ _ _ _ _ _ us hl => match us, hl with | [_, _, _], _ => rfl
  have Y7 := fam2.x 7 (by decide)
  have X7 : XCls K C7 I7 := ⟨⟨⟨nm7, q7, N7, bs7, _, sn7, su7, ab7, co7, dd7, m07, m17, m27, m37, m57, x7, rfl⟩, Y7.sa, Y7.x.exC, Y7.ty, Y7.k⟩, i7, t7⟩
  have E8 : Fun K "__init__" "BadWishes.__init__" (inClass (top 9) 0) I8 _ := fun_mk (st := inClass (top 9) 0) lI8 cI8 kI8
  have B8 := E8.binds (ps := ["self", "at", "word"]) fun _ _ _ _ _ _ us hl => match us, hl with | [_, _, _], _ => rfl
  have Y8 := fam2.x 8 (by decide)
  have X8 : XCls K C8 I8 := ⟨⟨⟨nm8, q8, N8, bs8, _, sn8, su8, ab8, co8, dd8, m08, m18, m28, m38, m58, x8, rfl⟩, Y8.sa, Y8.x.exC, Y8.ty, Y8.k⟩, i8, t8⟩
  have E9 : Fun K "__init__" "BadStep.__init__" (inClass (top 10) 0) I9 _ := fun_mk (st := inClass (top 10) 0) lI9 cI9 kI9
  have B9 := E9.binds (ps := ["self", "word"]) fun _ _ _ _ _ _ us hl => match us, hl with | [_, _], _ => rfl
  have Y9 := fam2.x 9 (by decide)
  have X9 : XCls K C9 I9 := ⟨⟨⟨nm9, q9, N9, bs9, _, sn9, su9, ab9, co9, dd9, m09, m19, m29, m39, m59, x9, rfl⟩, Y9.sa, Y9.x.exC, Y9.ty, Y9.k⟩, i9, t9⟩
  have E10 : Fun K "__init__" "BadText.__init__" (inClass (top 11) 0) I10 _ := fun_mk (st := inClass (top 11) 0) lI10 cI10 kI10
  have B10 := E10.binds (ps := ["self", "line", "word"]) fun _ _ _ _ _ _ us hl => match us, hl with | [_, _, _], _ => rfl
  have Y10 := fam2.x 10 (by decide)
  have X10 : XCls K C10 I10 := ⟨⟨⟨nm10, q10, N10, bs10, _, sn10, su10, ab10, co10, dd10, m010, m110, m210, m310, m510, x10, rfl⟩, Y10.sa, Y10.x.exC, Y10.ty, Y10.k⟩, i10, t10⟩
  have E11 : Fun K "__init__" "BadCommand.__init__" (inClass (top 12) 0) I11 _ := fun_mk (st := inClass (top 12) 0) lI11 cI11 kI11
  have B11 := E11.binds (ps := ["self", "line"]) fun _ _ _ _ _ _ us hl => match us, hl with | [_, _], _ => rfl
  have Y11 := fam2.x 11 (by decide)
  have X11 : XCls K C11 I11 := ⟨⟨⟨nm11, q11, N11, bs11, _, sn11, su11, ab11, co11, dd11, m011, m111, m211, m311, m511, x11, rfl⟩, Y11.sa, Y11.x.exC, Y11.ty, Y11.k⟩, i11, t11⟩
  have E12 : Fun K "__init__" "NoSuch.__init__" (inClass (top 13) 0) I12 _ := fun_mk (st := inClass (top 13) 0) lI12 cI12 kI12
  have B12 := E12.binds (ps := ["self", "word", "name"]) fun _ _ _ _ _ _ us hl => match us, hl with | [_, _, _], _ => rfl
  have Y12 := fam2.x 12 (by decide)
  have X12 : XCls K C12 I12 := ⟨⟨⟨nm12, q12, N12, bs12, _, sn12, su12, ab12, co12, dd12, m012, m112, m212, m312, m512, x12, rfl⟩, Y12.sa, Y12.x.exC, Y12.ty, Y12.k⟩, i12, t12⟩
  have E13 : Fun K "__init__" "Taken.__init__" (inClass (top 14) 0) I13 _ := fun_mk (st := inClass (top 14) 0) lI13 cI13 kI13
  have B13 := E13.binds (ps := ["self", "name"]) fun _ _ _ _ _ _ us hl => match us, hl with | [_, _], _ => rfl
  have Y13 := fam2.x 13 (by decide)
  have X13 : XCls K C13 I13 := ⟨⟨⟨nm13, q13, N13, bs13, _, sn13, su13, ab13, co13, dd13, m013, m113, m213, m313, m513, x13, rfl⟩, Y13.sa, Y13.x.exC, Y13.ty, Y13.k⟩, i13, t13⟩
  have T : Txt K mg (fun n => [C0, C1, C2, C3, C4, C5, C6, C7, C8, C9, C10, C11, C12, C13].getD n 0) (fun n => [0, 0, 0, 0, 0, I5, I6, I7, I8, I9, I10, I11, I12, I13].getD n 0) (fun n => [fd0, fd0, fd0, fd0, fd0, (PySem.W.fnOf "__init__" "BadTree.__init__" (defArgs (inClass (top 6) 0)) (defBody (inClass (top 6) 0)) (defScope (inClass (top 6) 0)) .none kVI5 dcI5 pmI5 anI5 cdI5 ctI5), (PySem.W.fnOf "__init__" "BadProgram.__init__" (defArgs (inClass (top 7) 0)) (defBody (inClass (top 7) 0)) (defScope (inClass (top 7) 0)) .none kVI6 dcI6 pmI6 anI6 cdI6 ctI6), (PySem.W.fnOf "__init__" "BadNetwork.__init__" (defArgs (inClass (top 8) 0)) (defBody (inClass (top 8) 0)) (defScope (inClass (top 8) 0)) .none kVI7 dcI7 pmI7 anI7 cdI7 ctI7), (PySem.W.fnOf "__init__" "BadWishes.__init__" (defArgs (inClass (top 9) 0)) (defBody (inClass (top 9) 0)) (defScope (inClass (top 9) 0)) .none kVI8 dcI8 pmI8 anI8 cdI8 ctI8), (PySem.W.fnOf "__init__" "BadStep.__init__" (defArgs (inClass (top 10) 0)) (defBody (inClass (top 10) 0)) (defScope (inClass (top 10) 0)) .none kVI9 dcI9 pmI9 anI9 cdI9 ctI9), (PySem.W.fnOf "__init__" "BadText.__init__" (defArgs (inClass (top 11) 0)) (defBody (inClass (top 11) 0)) (defScope (inClass (top 11) 0)) .none kVI10 dcI10 pmI10 anI10 cdI10 ctI10), (PySem.W.fnOf "__init__" "BadCommand.__init__" (defArgs (inClass (top 12) 0)) (defBody (inClass (top 12) 0)) (defScope (inClass (top 12) 0)) .none kVI11 dcI11 pmI11 anI11 cdI11 ctI11), (PySem.W.fnOf "__init__" "NoSuch.__init__" (defArgs (inClass (top 13) 0)) (defBody (inClass (top 13) 0)) (defScope (inClass (top 13) 0)) .none kVI12 dcI12 pmI12 anI12 cdI12 ctI12), (PySem.W.fnOf "__init__" "Taken.__init__" (defArgs (inClass (top 14) 0)) (defBody (inClass (top 14) 0)) (defScope (inClass (top 14) 0)) .none kVI13 dcI13 pmI13 anI13 cdI13 ctI13)].getD n fd0) (fun n => [f0, f1, f2, f3, f4, f5, f6, f7, f8, f9, f10, f11, f12, f13, f14].getD n 0) (fun n => [(PySem.W.fnOf "_law_sieve" "_law_sieve" (defArgs (top 16)) (defBody (top 16)) (defScope (top 16)) .none kVF0 dcF0 pmF0 anF0 cdF0 ctF0), (PySem.W.fnOf "_law_sift" "_law_sift" (defArgs (top 17)) (defBody (top 17)) (defScope (top 17)) .none kVF1 dcF1 pmF1 anF1 cdF1 ctF1), (PySem.W.fnOf "_law_same" "_law_same" (defArgs (top 18)) (defBody (top 18)) (defScope (top 18)) .none kVF2 dcF2 pmF2 anF2 cdF2 ctF2), (PySem.W.fnOf "_law_value" "_law_value" (defArgs (top 19)) (defBody (top 19)) (defScope (top 19)) .none kVF3 dcF3 pmF3 anF3 cdF3 ctF3), (PySem.W.fnOf "_law_made" "_law_made" (defArgs (top 20)) (defBody (top 20)) (defScope (top 20)) .none kVF4 dcF4 pmF4 anF4 cdF4 ctF4), (PySem.W.fnOf "_law_fields" "_law_fields" (defArgs (top 21)) (defBody (top 21)) (defScope (top 21)) .none kVF5 dcF5 pmF5 anF5 cdF5 ctF5), (PySem.W.fnOf "_law_raised" "_law_raised" (defArgs (top 22)) (defBody (top 22)) (defScope (top 22)) .none kVF6 dcF6 pmF6 anF6 cdF6 ctF6), (PySem.W.fnOf "_law_family" "_law_family" (defArgs (top 23)) (defBody (top 23)) (defScope (top 23)) .none kVF7 dcF7 pmF7 anF7 cdF7 ctF7), (PySem.W.fnOf "_law_own" "_law_own" (defArgs (top 24)) (defBody (top 24)) (defScope (top 24)) .none kVF8 dcF8 pmF8 anF8 cdF8 ctF8), (PySem.W.fnOf "_law_ahead" "_law_ahead" (defArgs (top 25)) (defBody (top 25)) (defScope (top 25)) .none kVF9 dcF9 pmF9 anF9 cdF9 ctF9), (PySem.W.fnOf "_law_any" "_law_any" (defArgs (top 26)) (defBody (top 26)) (defScope (top 26)) .none kVF10 dcF10 pmF10 anF10 cdF10 ctF10), (PySem.W.fnOf "_law_kinds" "_law_kinds" (defArgs (top 27)) (defBody (top 27)) (defScope (top 27)) .none kVF11 dcF11 pmF11 anF11 cdF11 ctF11), (PySem.W.fnOf "_law_asked" "_law_asked" (defArgs (top 28)) (defBody (top 28)) (defScope (top 28)) .none kVF12 dcF12 pmF12 anF12 cdF12 ctF12), (PySem.W.fnOf "_law_very" "_law_very" (defArgs (top 29)) (defBody (top 29)) (defScope (top 29)) .none kVF13 dcF13 pmF13 anF13 cdF13 ctF13), (PySem.W.fnOf "law" "law" (defArgs (top 30)) (defBody (top 30)) (defScope (top 30)) .none kVF14 dcF14 pmF14 anF14 cdF14 ctF14)].getD n fd0) := {
    f0 := D0
    f1 := D1
    f2 := D2
    f3 := D3
    f4 := D4
    f5 := D5
    f6 := D6
    f7 := D7
    f8 := D8
    f9 := D9
    f10 := D10
    f11 := D11
    f12 := D12
    f13 := D13
    f14 := D14
    m_LastError := PySem.W.mg_of X G b0
    m_DataError := PySem.W.mg_of X G b1
    m_CallError := PySem.W.mg_of X G b2
    m_TextError := PySem.W.mg_of X G b3
    m_ShopError := PySem.W.mg_of X G b4
    m_BadTree := PySem.W.mg_of X G b5
    c_BadTree := ⟨PySem.W.mg_of X G b5, X5⟩
    x_BadTree := E5
    xb_BadTree := B5
    m_BadProgram := PySem.W.mg_of X G b6
    c_BadProgram := ⟨PySem.W.mg_of X G b6, X6⟩
    x_BadProgram := E6
    xb_BadProgram := B6
    m_BadNetwork := PySem.W.mg_of X G b7
    c_BadNetwork := ⟨PySem.W.mg_of X G b7, X7⟩
    x_BadNetwork := E7
    xb_BadNetwork := B7
    m_BadWishes := PySem.W.mg_of X G b8
    c_BadWishes := ⟨PySem.W.mg_of X G b8, X8⟩
    x_BadWishes := E8
    xb_BadWishes := B8
    m_BadStep := PySem.W.mg_of X G b9
    c_BadStep := ⟨PySem.W.mg_of X G b9, X9⟩
    x_BadStep := E9
    xb_BadStep := B9
    m_BadText := PySem.W.mg_of X G b10
    c_BadText := ⟨PySem.W.mg_of X G b10, X10⟩
    x_BadText := E10
    xb_BadText := B10
    m_BadCommand := PySem.W.mg_of X G b11
    c_BadCommand := ⟨PySem.W.mg_of X G b11, X11⟩
    x_BadCommand := E11
    xb_BadCommand := B11
    m_NoSuch := PySem.W.mg_of X G b12
    c_NoSuch := ⟨PySem.W.mg_of X G b12, X12⟩
    x_NoSuch := E12
    xb_NoSuch := B12
    m_Taken := PySem.W.mg_of X G b13
    c_Taken := ⟨PySem.W.mg_of X G b13, X13⟩
    x_Taken := E13
    xb_Taken := B13
    fam := fam2
    isv := fun c b hb => (by
      split at hb
      · rename_i hc
        cases hb
        exact ⟨(fam2.x c hc).e, of_decide_eq_true (List.all_eq_true.mp isv c (List.mem_range.mpr hc))⟩
      · cases hb)
    no_at := fun c hc => of_decide_eq_true (List.all_eq_true.mp no_at c (List.mem_range.mpr hc))
    no_line := fun c hc => of_decide_eq_true (List.all_eq_true.mp no_line c (List.mem_range.mpr hc))
    no_name := fun c hc => of_decide_eq_true (List.all_eq_true.mp no_name c (List.mem_range.mpr hc))
    no_word := fun c hc => of_decide_eq_true (List.all_eq_true.mp no_word c (List.mem_range.mpr hc))
    n_ValueError := PySem.W.mg_none_of X G n_ValueError
    n_bool := PySem.W.mg_none_of X G n_bool
    n_int := PySem.W.mg_none_of X G n_int
    n_isinstance := PySem.W.mg_none_of X G n_isinstance
    n_len := PySem.W.mg_none_of X G n_len
    n_list := PySem.W.mg_none_of X G n_list
    n_range := PySem.W.mg_none_of X G n_range
    n_str := PySem.W.mg_none_of X G n_str
    n_tuple := PySem.W.mg_none_of X G n_tuple }
  exact ⟨(PySem.W.fnOf "law" "law" (defArgs (top 30)) (defBody (top 30)) (defScope (top 30)) .none kVF14 dcF14 pmF14 anF14 cdF14 ctF14), fun s v => .of_eq rfl, fun base _ _ => law_ok (oklaw T) yes⟩
end K98
open PySem PySem.W PyProof.Rows
set_option maxRecDepth 100000 in
set_option maxHeartbeats 0 in
theorem PySem.Challenge.cw_firstandlast_k98_errors_holds : PySem.Challenge.rw_firstandlast_k98_errors.Holds := by
  w_on; o_law; k_head; (case hw => w_witness2)
  k_fill
  refine Fl.walkI (l := PySem.Challenge.rw_firstandlast_k98_errors) (k := 6) rfl rfl ⟨rfl, by decide, by decide⟩ (fun w h Y => PySem.W.kIn_of Y) ?F
  case F =>
    intro w mg fa h KX G hmg
    refine' K98.all_mk KX G hmg ?b0 ?b1 ?b2 ?b3 ?b4 ?b5 ?x5 ?i5 ?t5 ?lI5 ?cI5 ?kI5 ?b6 ?x6 ?i6 ?t6 ?lI6 ?cI6 ?kI6 ?b7 ?x7 ?i7 ?t7 ?lI7 ?cI7 ?kI7 ?b8 ?x8 ?i8 ?t8 ?lI8 ?cI8 ?kI8 ?b9 ?x9 ?i9 ?t9 ?lI9 ?cI9 ?kI9 ?b10 ?x10 ?i10 ?t10 ?lI10 ?cI10 ?kI10 ?b11 ?x11 ?i11 ?t11 ?lI11 ?cI11 ?kI11 ?b12 ?x12 ?i12 ?t12 ?lI12 ?cI12 ?kI12 ?b13 ?x13 ?i13 ?t13 ?lI13 ?cI13 ?kI13 ?a0 ?lF0 ?cF0 ?kF0 ?a1 ?lF1 ?cF1 ?kF1 ?a2 ?lF2 ?cF2 ?kF2 ?a3 ?lF3 ?cF3 ?kF3 ?a4 ?lF4 ?cF4 ?kF4 ?a5 ?lF5 ?cF5 ?kF5 ?a6 ?lF6 ?cF6 ?kF6 ?a7 ?lF7 ?cF7 ?kF7 ?a8 ?lF8 ?cF8 ?kF8 ?a9 ?lF9 ?cF9 ?kF9 ?a10 ?lF10 ?cF10 ?kF10 ?a11 ?lF11 ?cF11 ?kF11 ?a12 ?lF12 ?cF12 ?kF12 ?a13 ?lF13 ?cF13 ?kF13 ?a14 ?lF14 ?cF14 ?kF14 ?n_ValueError ?n_bool ?n_int ?n_isinstance ?n_len ?n_list ?n_range ?n_str ?n_tuple ?fam ?isv ?no_at ?no_line ?no_name ?no_word
    (case b0 => k_is)
    (case b1 => k_is)
    (case b2 => k_is)
    (case b3 => k_is)
    (case b4 => k_is)
    (case b5 => k_is)
    (case x5 => k_is)
    (case i5 => k_is)
    (case t5 => k_is)
    (case lI5 => k_is)
    (case cI5 => k_is)
    (case kI5 => k_is)
    (case b6 => k_is)
    (case x6 => k_is)
    (case i6 => k_is)
    (case t6 => k_is)
    (case lI6 => k_is)
    (case cI6 => k_is)
    (case kI6 => k_is)
    (case b7 => k_is)
    (case x7 => k_is)
    (case i7 => k_is)
    (case t7 => k_is)
    (case lI7 => k_is)
    (case cI7 => k_is)
    (case kI7 => k_is)
    (case b8 => k_is)
    (case x8 => k_is)
    (case i8 => k_is)
    (case t8 => k_is)
    (case lI8 => k_is)
    (case cI8 => k_is)
    (case kI8 => k_is)
    (case b9 => k_is)
    (case x9 => k_is)
    (case i9 => k_is)
    (case t9 => k_is)
    (case lI9 => k_is)
    (case cI9 => k_is)
    (case kI9 => k_is)
    (case b10 => k_is)
    (case x10 => k_is)
    (case i10 => k_is)
    (case t10 => k_is)
    (case lI10 => k_is)
    (case cI10 => k_is)
    (case kI10 => k_is)
    (case b11 => k_is)
    (case x11 => k_is)
    (case i11 => k_is)
    (case t11 => k_is)
    (case lI11 => k_is)
    (case cI11 => k_is)
    (case kI11 => k_is)
    (case b12 => k_is)
    (case x12 => k_is)
    (case i12 => k_is)
    (case t12 => k_is)
    (case lI12 => k_is)
    (case cI12 => k_is)
    (case kI12 => k_is)
    (case b13 => k_is)
    (case x13 => k_is)
    (case i13 => k_is)
    (case t13 => k_is)
    (case lI13 => k_is)
    (case cI13 => k_is)
    (case kI13 => k_is)
    (case a0 => k_is)
    (case lF0 => k_is)
    (case cF0 => k_is)
    (case kF0 => k_is)
    (case a1 => k_is)
    (case lF1 => k_is)
    (case cF1 => k_is)
    (case kF1 => k_is)
    (case a2 => k_is)
    (case lF2 => k_is)
    (case cF2 => k_is)
    (case kF2 => k_is)
    (case a3 => k_is)
    (case lF3 => k_is)
    (case cF3 => k_is)
    (case kF3 => k_is)
    (case a4 => k_is)
    (case lF4 => k_is)
    (case cF4 => k_is)
    (case kF4 => k_is)
    (case a5 => k_is)
    (case lF5 => k_is)
    (case cF5 => k_is)
    (case kF5 => k_is)
    (case a6 => k_is)
    (case lF6 => k_is)
    (case cF6 => k_is)
    (case kF6 => k_is)
    (case a7 => k_is)
    (case lF7 => k_is)
    (case cF7 => k_is)
    (case kF7 => k_is)
    (case a8 => k_is)
    (case lF8 => k_is)
    (case cF8 => k_is)
    (case kF8 => k_is)
    (case a9 => k_is)
    (case lF9 => k_is)
    (case cF9 => k_is)
    (case kF9 => k_is)
    (case a10 => k_is)
    (case lF10 => k_is)
    (case cF10 => k_is)
    (case kF10 => k_is)
    (case a11 => k_is)
    (case lF11 => k_is)
    (case cF11 => k_is)
    (case kF11 => k_is)
    (case a12 => k_is)
    (case lF12 => k_is)
    (case cF12 => k_is)
    (case kF12 => k_is)
    (case a13 => k_is)
    (case lF13 => k_is)
    (case cF13 => k_is)
    (case kF13 => k_is)
    (case a14 => k_is)
    (case lF14 => k_is)
    (case cF14 => k_is)
    (case kF14 => k_is)
    (case n_ValueError => k_is)
    (case n_bool => k_is)
    (case n_int => k_is)
    (case n_isinstance => k_is)
    (case n_len => k_is)
    (case n_list => k_is)
    (case n_range => k_is)
    (case n_str => k_is)
    (case n_tuple => k_is)
    (case fam => kernel_rfl)
    (case isv => kernel_rfl)
    (case no_at => kernel_rfl)
    (case no_line => kernel_rfl)
    (case no_name => kernel_rfl)
    (case no_word => kernel_rfl)
