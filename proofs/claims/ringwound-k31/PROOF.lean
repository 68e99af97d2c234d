import PyProof.Rows.All
import Wide.All
import OpenK.AllK
import Wide.FinOn
import HandS.ForMost
import HandS.ForExc
import HandS.HotCalls
import HandS.ExcCtx
import HandS.Lambda
import HandS.Wide
import HandS.TupAny
import HandS.TupMul
import HandS.IsInst
import HandS.Conv
import HandS.Style
import KE.KTupSum
import HandS.SortInts
import HandS.ExcIs
import PyProof.TupleIter
import HandS.CallLocal
import HandS.HeadHook4
import HandS.Dict
import HandS.Iter
import KE.KStateDown
import HandS.SetFor
import HandS.Deep
import HandS.Strs
import HandS.TupSets
import HandS.HeadWalk
import HandS.Head0
import HandS.Head1
import HandS.Head2
import HandS.HeadEnd
import Lean
import PySem.Challenge.RW_ringwound_k31_how_many_there_are
set_option Elab.async false
set_option linter.all false
set_option maxRecDepth 100000
set_option maxHeartbeats 4000000
namespace Wn
open PySem L2
/-- data: what a value reads as -/
inductive D where
  | non | bl (b : Bool) | int (i : Int) | str (x : Str) | ref (a : Addr)
  | kl (xs : List D) | kt (xs : List D) | tup (xs : List D) | lst (xs : List D) | dK (ks : List Key) (vs : List D) | dT (ks : List (List Key)) (vs : List D)
mutual
/-- the value v reads as d over the part G of the heap -/
def Rp (K : PySem.W.Frag) (G : Hp) : D → V → Prop
  | .non, v => v = .non
  | .bl b, v => v = .bl b
  | .int i, v => v = .int i
  | .str x, v => v = .str x
  | .ref a, v => v = .ref a
  | .kl ds, v => ∃ a xs, v = .ref a ∧ SqL K G a xs ∧ RpA K G ds xs
  | .kt ds, v => ∃ a xs, v = .ref a ∧ SqT K G a xs ∧ RpA K G ds xs
  | .tup ds, v => ∃ a xs, v = .ref a ∧ G a = some (.tup xs) ∧ RpA K G ds xs
  | .lst ds, v => ∃ a xs, v = .ref a ∧ G a = some (.lst xs) ∧ RpA K G ds xs
  | .dK ks ds, v => ∃ a ws, v = .ref a ∧ G a = some (.dK ws) ∧ ws.map (·.1) = ks ∧ RpA K G ds (ws.map (·.2))
  | .dT ks ds, v => ∃ a ws, v = .ref a ∧ G a = some (.dT ws) ∧ ws.map (·.1) = ks ∧ RpA K G ds (ws.map (·.2))
def RpA (K : PySem.W.Frag) (G : Hp) : List D → List V → Prop
  | [], xs => xs = []
  | d :: ds, xs => ∃ x r, xs = x :: r ∧ Rp K G d x ∧ RpA K G ds r
end
section
variable {K : PySem.W.Frag} {G G' H : Hp}
theorem same_seqT {a : Addr} {xs : List V} (e : Same G G') (h : SqT K G a xs) : SqT K G' a xs := by
  rcases h with (h | ⟨o, h⟩) | h
  · exact .inl (.inl (e _ _ h))
  · exact .inl (.inr ⟨o, e _ _ h⟩)
  · exact .inr h
mutual
theorem Rp.mono (e : Same G G') : ∀ (d : D) (v : V), Rp K G d v → Rp K G' d v
  | .non, _, h => h
  | .bl _, _, h => h
  | .int _, _, h => h
  | .str _, _, h => h
  | .ref _, _, h => h
  | .kl ds, _, ⟨a, xs, h1, h2, h3⟩ => ⟨a, xs, h1, e.seq h2, RpA.mono e ds xs h3⟩
  | .kt ds, _, ⟨a, xs, h1, h2, h3⟩ => ⟨a, xs, h1, same_seqT e h2, RpA.mono e ds xs h3⟩
  | .tup ds, _, ⟨a, xs, h1, h2, h3⟩ => ⟨a, xs, h1, e _ _ h2, RpA.mono e ds xs h3⟩
  | .lst ds, _, ⟨a, xs, h1, h2, h3⟩ => ⟨a, xs, h1, e _ _ h2, RpA.mono e ds xs h3⟩
  | .dK _ ds, _, ⟨a, ws, h1, h2, h3, h4⟩ => ⟨a, ws, h1, e _ _ h2, h3, RpA.mono e ds _ h4⟩
  | .dT _ ds, _, ⟨a, ws, h1, h2, h3, h4⟩ => ⟨a, ws, h1, e _ _ h2, h3, RpA.mono e ds _ h4⟩
theorem RpA.mono (e : Same G G') : ∀ (ds : List D) (xs : List V), RpA K G ds xs → RpA K G' ds xs
  | [], _, h => h
  | d :: ds, _, ⟨x, r, h1, h2, h3⟩ => ⟨x, r, h1, Rp.mono e d x h2, RpA.mono e ds r h3⟩
end
theorem RpA.len : ∀ {ds : List D} {xs : List V}, RpA K G ds xs → xs.length = ds.length
  | [], xs, h => by
    rw [show xs = [] from h] <;> rfl
  | d :: ds, xs, ⟨x, r, h1, _, h3⟩ => by
    rw [h1, List.length_cons, List.length_cons, RpA.len h3]
theorem RpA.cons {d : D} {ds : List D} {x : V} {xs : List V} (h : Rp K G d x) (r : RpA K G ds xs) : RpA K G (d :: ds) (x :: xs) := ⟨x, xs, rfl, h, r⟩
theorem RpA.nil : RpA K G [] [] := rfl
theorem RpA.app : ∀ {ds es : List D} {xs ys : List V}, RpA K G ds xs → RpA K G es ys → RpA K G (ds ++ es) (xs ++ ys)
  | [], es, xs, ys, h, h' => by
    rw [show xs = [] from h]
    exact h'
  | d :: ds, es, xs, ys, ⟨x, r, h1, h2, h3⟩, h' => by
    rw [h1]
    exact ⟨x, r ++ ys, rfl, h2, RpA.app h3 h'⟩
theorem RpA.snoc {d : D} {ds : List D} {x : V} {xs : List V} (r : RpA K G ds xs) (h : Rp K G d x) : RpA K G (ds ++ [d]) (xs ++ [x]) := r.app (.cons h .nil)
theorem RpA.get : ∀ {ds : List D} {xs : List V} {i : Nat} {d : D}, RpA K G ds xs → ds[i]? = some d → ∃ x, xs[i]? = some x ∧ Rp K G d x
  | [], _, _, _, _, e => by simp at e
  | d :: ds, _, 0, _, ⟨x, r, h1, h2, h3⟩, e => by
    rw [h1]
    have e' : d = _ := Option.some.inj e
    subst e'
    exact ⟨x, rfl, h2⟩
  | d :: ds, _, i + 1, d', ⟨x, r, h1, h2, h3⟩, e => by
    rw [h1]
    obtain ⟨y, hy, q⟩ := RpA.get (i := i) (d := d') h3 (by simpa using e)
    exact ⟨y, by simpa using hy, q⟩
theorem RpA.take : ∀ {ds : List D} {xs : List V} (n : Nat), RpA K G ds xs → RpA K G (ds.take n) (xs.take n)
  | _, _, 0, _ => by simp; rfl
  | [], xs, n + 1, h => by
    rw [show xs = [] from h]
    exact rfl
  | d :: ds, xs, n + 1, ⟨x, r, h1, h2, h3⟩ => by
    rw [h1]
    exact ⟨x, r.take n, rfl, h2, RpA.take n h3⟩
theorem RpA.drop : ∀ {ds : List D} {xs : List V} (n : Nat), RpA K G ds xs → RpA K G (ds.drop n) (xs.drop n)
  | _, _, 0, h => h
  | [], xs, n + 1, h => by
    rw [show xs = [] from h]
    exact rfl
  | d :: ds, xs, n + 1, ⟨x, r, h1, h2, h3⟩ => by
    rw [h1]
    exact RpA.drop n h3
theorem RpA.set {d : D} {x : V} (hx : Rp K G d x) : ∀ {ds : List D} {xs : List V} (n : Nat), RpA K G ds xs → RpA K G (ds.set n d) (xs.set n x)
  | [], xs, n, h => by
    rw [show xs = [] from h]
    exact rfl
  | d' :: ds, xs, 0, ⟨x', r, h1, h2, h3⟩ => by
    rw [h1]
    exact ⟨x, r, rfl, hx, h3⟩
  | d' :: ds, xs, n + 1, ⟨x', r, h1, h2, h3⟩ => by
    rw [h1]
    exact ⟨x', r.set n x, rfl, h2, RpA.set hx n h3⟩
theorem RpA.rev : ∀ {ds : List D} {xs : List V}, RpA K G ds xs → RpA K G ds.reverse xs.reverse
  | [], xs, h => by
    rw [show xs = [] from h]
    exact rfl
  | d :: ds, xs, ⟨x, r, h1, h2, h3⟩ => by
    rw [h1, List.reverse_cons, List.reverse_cons]
    exact (RpA.rev h3).snoc h2
theorem RpA.ints : ∀ {ns : List Int} {xs : List V}, RpA K G (ns.map D.int) xs → xs = ns.map V.int
  | [], xs, h => h
  | n :: ns, xs, ⟨x, r, h1, h2, h3⟩ => by
    rw [h1, RpA.ints h3, show x = V.int n from h2] <;> rfl
theorem RpA.of_ints : ∀ (ns : List Int), RpA K G (ns.map D.int) (ns.map V.int)
  | [] => rfl
  | n :: ns => ⟨_, _, rfl, rfl, RpA.of_ints ns⟩
theorem RpA.bls : ∀ {ns : List Bool} {xs : List V}, RpA K G (ns.map D.bl) xs → xs = ns.map V.bl
  | [], xs, h => h
  | n :: ns, xs, ⟨x, r, h1, h2, h3⟩ => by
    rw [h1, RpA.bls h3, show x = V.bl n from h2] <;> rfl
theorem RpA.strs : ∀ {ns : List Str} {xs : List V}, RpA K G (ns.map D.str) xs → xs = ns.map V.str
  | [], xs, h => h
  | n :: ns, xs, ⟨x, r, h1, h2, h3⟩ => by
    rw [h1, RpA.strs h3, show x = V.str n from h2] <;> rfl
end
/-- not a table of code objects -/
def NT (o : HO) : Prop := ∀ ps, o ≠ .tbl ps
/-- what is not the law's source, nor a table -/
def vw (s : Option Addr) (H : Hp) : Hp := fun b => if s = some b then none else match H b with
  | some (.tbl _) => none
  | o => o
theorem vw_of {s : Option Addr} {H : Hp} {b : Addr} {o : HO} (h : vw s H b = some o) : H b = some o ∧ s ≠ some b ∧ NT o := by
  unfold vw at h
  by_cases c : s = some b
  · rw [if_pos c] at h
    cases h
  · rw [if_neg c] at h
    cases e : H b with
    | none =>
      rw [e] at h
      cases h
    | some u =>
      rw [e] at h
      cases u <;> first
        | (cases h; exact ⟨rfl, c, fun ps z => by cases z⟩)
        | cases h
theorem vw_at {s : Option Addr} {H : Hp} {b : Addr} {o : HO} (h : H b = some o) (c : s ≠ some b) (n : NT o) : vw s H b = some o := by
  unfold vw
  rw [if_neg c, h]
  cases o <;> first
    | rfl
    | exact absurd rfl (n _)
theorem vw_sub {s : Option Addr} {H : Hp} : Same (vw s H) H := fun b o h => (vw_of h).1
/-- the source list as it stands -/
def Src (a : Addr) (H : Hp) : Prop := ∃ x y : Int, H a = some (.lst [.int x, .int y]) ∧ 0 ≤ x ∧ 0 ≤ y ∧ y < 2147483648
abbrev Tbl := List (Addr × Str)
structure Gr (T : Tbl) (s : Option Addr) (H H' : Hp) : Prop where
  ex : Same (vw s H) (vw s H')
  al : ∀ b, H b ≠ none → H' b ≠ none
  sr : ∀ a, s = some a → Src a H → Src a H'
  tb : LamX.Tabs T H → LamX.Tabs T H'
section
variable {T : Tbl} {s : Option Addr} {G G0 G1 G2 H H0 H1 H2 : Hp}
theorem Gr.refl : Gr T s H H := ⟨fun _ _ h => h, fun _ h => h, fun _ _ h => h, fun h => h⟩
theorem Gr.trans (a : Gr T s H H1) (b : Gr T s H1 H2) : Gr T s H H2 := ⟨fun c o h => b.ex c o (a.ex c o h), fun c h => b.al c (a.al c h), fun c e h => b.sr c e (a.sr c e h), fun h => b.tb (a.tb h)⟩
theorem Gr.none_of (g : Gr T s H H1) {b : Addr} (h : H1 b = none) : H b = none := by
  cases e : H b with
  | none => rfl
  | some o => exact absurd h (g.al b (by rw [e]; simp))
theorem Same.new {p : Addr} {o : HO} (h : H p = none) : Same H (upd H p o) := fun b u e => by
  rw [upd_ne (ne_of_none e h)]
  exact e
/-- a new object -/
theorem Gr.new {p : Addr} {o : HO} (h : H p = none) : Gr T s H (upd H p o) where
  ex := fun b u e => by
    obtain ⟨e1, e2, e3⟩ := vw_of e
    exact vw_at (by rw [upd_ne (ne_of_none e1 h)]; exact e1) e2 e3
  al := fun b hb => by
    by_cases c : b = p
    · rw [c, upd_same]
      simp
    · rw [upd_ne c]
      exact hb
  sr := fun a _ ⟨x, y, e, r⟩ => ⟨x, y, by rw [upd_ne (ne_of_none e h)]; exact e, r⟩
  tb := fun t => t.ext fun b u e => Same.new h b u e
/-- all as before -/
theorem Gr.of_same (e : Same H H1) : Gr T s H H1 where
  ex := fun b u h => by
    obtain ⟨e1, e2, e3⟩ := vw_of h
    exact vw_at (e b u e1) e2 e3
  al := fun b hb z => by
    cases q : H b with
    | none => exact hb q
    | some o =>
      rw [e b o q] at z
      cases z
  sr := fun a _ ⟨x, y, h, r⟩ => ⟨x, y, e _ _ h, r⟩
  tb := fun t => t.ext fun b u h => e b u h
structure Stp (T : Tbl) (s : Option Addr) (G G' H H' : Hp) : Prop where
  gr : Gr T s H H'
  gg : Same G G'
  gv : Same G' (vw s H')
  nw : ∀ b, G' b ≠ none → G b ≠ none ∨ H b = none
theorem Stp.refl (h : Same G (vw s H)) : Stp T s G G H H := ⟨.refl, .refl _, h, fun _ h => .inl h⟩
theorem Stp.of_gr (h : Same G (vw s H)) (g : Gr T s H H1) : Stp T s G G H H1 := ⟨g, .refl _, h.trans g.ex, fun _ h => .inl h⟩
theorem Stp.trans (a : Stp T s G G1 H H1) (b : Stp T s G1 G2 H1 H2) : Stp T s G G2 H H2 := ⟨a.gr.trans b.gr, a.gg.trans b.gg, b.gv, fun c h => by
  rcases b.nw c h with q | q
  · exact a.nw c q
  · exact .inr (a.gr.none_of q)⟩
/-- a new object, frozen -/
theorem Stp.new {p : Addr} {o : HO} (hv : Same G (vw s H)) (h : H p = none) (hs : ∀ a, s = some a → Src a H) (n : NT o) : Stp T s G (upd G p o) H (upd H p o) := by
  have gp : G p = none := by
    cases e : G p with
    | none => rfl
    | some u =>
      have z := (vw_of (hv _ _ e)).1
      rw [h] at z
      cases z
  have sp : s ≠ some p := fun z => by
    obtain ⟨x, y, e, _⟩ := hs p z
    rw [h] at e
    cases e
  refine ⟨.new h, Wn.Same.new gp, fun b u e => ?_, fun b hb => ?_⟩
  · by_cases c : b = p
    · rw [c, upd_same] at e
      cases e
      rw [c]
      exact vw_at upd_same sp n
    · rw [upd_ne c] at e
      exact (Gr.new (T := T) h).ex b u (hv b u e)
  · by_cases c : b = p
    · rw [c]
      exact .inr h
    · rw [upd_ne c] at hb
      exact .inl hb
end
/-- a slot of the frame, by data: none known; data that stands still; a list, a dict of the frame's own -/
inductive Slot where
  | no | d (x : D) | sr (a : Addr) | ow (xs : List D) | oK (ks : List Key) (vs : List D) | oT (ks : List (List Key)) (vs : List D)
  /-- a list of the frame's own, by its address -/
  | oA (a : Addr) (xs : List D)
structure DE where
  s : Option Addr
  sl : List Slot
def DE.set (δ : DE) (i : Nat) (o : Slot) : DE := ⟨δ.s, δ.sl.set i o⟩
def isOwn : Option Slot → Bool
  | some (.ow _) => true
  | some (.oK _ _) => true
  | some (.oT _ _) => true
  | some (.oA _ _) => true
  | _ => false
def SlOk (K : PySem.W.Frag) (s : Option Addr) (H0 G H : Hp) : Slot → Option V → Prop
  | .no, _ => True
  | .d x, v => ∃ u, v = some u ∧ Rp K G x u
  | .sr a, v => v = some (.ref a) ∧ s = some a ∧ H0 a = none
  | .ow xs, v => ∃ a us, v = some (.ref a) ∧ H0 a = none ∧ s ≠ some a ∧ G a = none ∧ H a = some (.lst us) ∧ RpA K G xs us
  | .oK ks xs, v => ∃ a ws, v = some (.ref a) ∧ H0 a = none ∧ s ≠ some a ∧ G a = none ∧ H a = some (.dK ws) ∧ ws.map (·.1) = ks ∧ RpA K G xs (ws.map (·.2))
  | .oT ks xs, v => ∃ a ws, v = some (.ref a) ∧ H0 a = none ∧ s ≠ some a ∧ G a = none ∧ H a = some (.dT ws) ∧ ws.map (·.1) = ks ∧ RpA K G xs (ws.map (·.2))
  | .oA a xs, v => ∃ us, v = some (.ref a) ∧ H0 a = none ∧ s ≠ some a ∧ G a = none ∧ H a = some (.lst us) ∧ RpA K G xs us
/-- the frame's values σ, over H, are told by δ; G stands still; G0, H0: at the def's entry -/
structure Rep (K : PySem.W.Frag) (T : Tbl) (G0 H0 G H : Hp) (σ : L2.St) (δ : DE) : Prop where
  st : Stp T δ.s G0 G H0 H
  src : ∀ a, δ.s = some a → Src a H
  tab : LamX.Tabs T H
  len : σ.length = δ.sl.length
  sl : ∀ (i : Nat) (o : Slot), δ.sl[i]? = some o → ∃ v, σ[i]? = some v ∧ SlOk K δ.s H0 G H o v
  un : ∀ (i j : Nat) (a : Addr), i ≠ j → isOwn δ.sl[i]? = true → isOwn δ.sl[j]? = true → σ[i]? = some (some (V.ref a)) → σ[j]? = some (some (V.ref a)) → False
section
variable {K : PySem.W.Frag} {T : Tbl} {s : Option Addr} {G G0 G1 H H0 H1 : Hp} {σ : L2.St} {δ : DE}
theorem SlOk.stp (x : Stp T s G G1 H H1) : ∀ {o : Slot} {v : Option V}, SlOk K s H0 G H o v → SlOk K s H0 G1 H1 o v := by
  have key : ∀ a u, s ≠ some a → G a = none → H a = some u → NT u → G1 a = none ∧ H1 a = some u := fun a u h1 h2 h3 h4 => by
    refine ⟨?_, (vw_of (x.gr.ex a u (vw_at h3 h1 h4))).1⟩
    cases e : G1 a with
    | none => rfl
    | some z =>
      rcases x.nw a (by rw [e]; simp) with q | q
      · exact absurd h2 q
      · rw [h3] at q
        cases q
  intro o v h
  cases o with
  | no => trivial
  | d y =>
    obtain ⟨u, e, r⟩ := h
    exact ⟨u, e, r.mono x.gg⟩
  | sr a => exact h
  | ow xs =>
    obtain ⟨a, us, e, h1, h2, h3, h4, h5⟩ := h
    obtain ⟨k1, k2⟩ := key a _ h2 h3 h4 (fun ps z => by cases z)
    exact ⟨a, us, e, h1, h2, k1, k2, h5.mono x.gg⟩
  | oK ks xs =>
    obtain ⟨a, us, e, h1, h2, h3, h4, h6, h5⟩ := h
    obtain ⟨k1, k2⟩ := key a _ h2 h3 h4 (fun ps z => by cases z)
    exact ⟨a, us, e, h1, h2, k1, k2, h6, h5.mono x.gg⟩
  | oT ks xs =>
    obtain ⟨a, us, e, h1, h2, h3, h4, h6, h5⟩ := h
    obtain ⟨k1, k2⟩ := key a _ h2 h3 h4 (fun ps z => by cases z)
    exact ⟨a, us, e, h1, h2, k1, k2, h6, h5.mono x.gg⟩
  | oA a xs =>
    obtain ⟨us, e, h1, h2, h3, h4, h5⟩ := h
    obtain ⟨k1, k2⟩ := key a _ h2 h3 h4 (fun ps z => by cases z)
    exact ⟨us, e, h1, h2, k1, k2, h5.mono x.gg⟩
theorem Rep.stp (R : Rep K T G0 H0 G H σ δ) (x : Stp T δ.s G G1 H H1) : Rep K T G0 H0 G1 H1 σ δ :=
  ⟨R.st.trans x, fun a e => x.gr.sr a e (R.src a e), x.gr.tb R.tab, R.len, fun i o h => by
    obtain ⟨v, h1, h2⟩ := R.sl i o h
    exact ⟨v, h1, h2.stp x⟩, R.un⟩
theorem Rep.gv (R : Rep K T G0 H0 G H σ δ) : Same G (vw δ.s H) := R.st.gv
theorem Rep.gr (R : Rep K T G0 H0 G H σ δ) (g : Gr T δ.s H H1) : Rep K T G0 H0 G H1 σ δ := R.stp (.of_gr R.gv g)
theorem Rep.fresh (R : Rep K T G0 H0 G H σ δ) {p : Addr} {o : HO} (h : H p = none) (n : NT o) : Stp T δ.s G (upd G p o) H (upd H p o) := .new R.gv h R.src n
/-- a slot takes data -/
theorem Rep.setD (R : Rep K T G0 H0 G H σ δ) {i : Nat} {x : D} {v : V} (r : Rp K G x v) : Rep K T G0 H0 G H (σ.set i (some v)) (δ.set i (.d x)) := by
  refine ⟨R.st, R.src, R.tab, by rw [List.length_set, R.len]; exact (List.length_set ..).symm, fun j o h => ?_, fun j k a hjk h1 h2 e1 e2 => ?_⟩
  · have h : (δ.sl.set i (.d x))[j]? = some o := h
    by_cases c : i = j
    · subst c
      by_cases hi : i < δ.sl.length
      · rw [List.getElem?_set_self hi] at h
        cases h
        exact ⟨some v, List.getElem?_set_self (by rw [R.len]; exact hi), v, rfl, r⟩
      · rw [List.getElem?_eq_none (by rw [List.length_set]; omega)] at h
        cases h
    · rw [List.getElem?_set_ne c] at h ⊢
      exact R.sl j o h
  · have h1 : isOwn (δ.sl.set i (.d x))[j]? = true := h1
    have h2 : isOwn (δ.sl.set i (.d x))[k]? = true := h2
    have no : ∀ l, isOwn (δ.sl.set i (.d x))[l]? = true → i ≠ l ∧ isOwn δ.sl[l]? = true := fun l hl => by
      by_cases c : i = l
      · subst c
        by_cases hi : i < δ.sl.length
        · rw [List.getElem?_set_self hi] at hl
          cases hl
        · rw [List.getElem?_eq_none (by rw [List.length_set]; omega)] at hl
          cases hl
      · rw [List.getElem?_set_ne c] at hl
        exact ⟨c, hl⟩
    obtain ⟨c1, k1⟩ := no j h1
    obtain ⟨c2, k2⟩ := no k h2
    rw [List.getElem?_set_ne c1] at e1
    rw [List.getElem?_set_ne c2] at e2
    exact R.un j k a hjk k1 k2 e1 e2
/-- a slot takes a thing of the frame's own that no other slot has -/
theorem Rep.setO (R : Rep K T G0 H0 G H σ δ) {i : Nat} {o : Slot} {a : Addr} (r : SlOk K δ.s H0 G H o (some (.ref a))) (hn : ∀ j, i ≠ j → isOwn δ.sl[j]? = true → σ[j]? ≠ some (some (V.ref a))) :
    Rep K T G0 H0 G H (σ.set i (some (.ref a))) (δ.set i o) := by
  refine ⟨R.st, R.src, R.tab, by rw [List.length_set, R.len]; exact (List.length_set ..).symm, fun j u h => ?_, fun j k b hjk h1 h2 e1 e2 => ?_⟩
  · have h : (δ.sl.set i o)[j]? = some u := h
    by_cases c : i = j
    · subst c
      by_cases hi : i < δ.sl.length
      · rw [List.getElem?_set_self hi] at h
        cases h
        exact ⟨_, List.getElem?_set_self (by rw [R.len]; exact hi), r⟩
      · rw [List.getElem?_eq_none (by rw [List.length_set]; omega)] at h
        cases h
    · rw [List.getElem?_set_ne c] at h ⊢
      exact R.sl j u h
  · have h1 : isOwn (δ.sl.set i o)[j]? = true := h1
    have h2 : isOwn (δ.sl.set i o)[k]? = true := h2
    by_cases c1 : i = j
    · have c2 : i ≠ k := fun z => hjk (c1.symm.trans z)
      rw [List.getElem?_set_ne c2] at h2 e2
      subst c1
      have hi : i < σ.length := by
        rcases Nat.lt_or_ge i σ.length with q | q
        · exact q
        · rw [List.getElem?_eq_none (by rw [List.length_set]; omega)] at e1
          cases e1
      rw [List.getElem?_set_self hi] at e1
      have e3 : a = b := by
        have z := Option.some.inj (Option.some.inj e1)
        exact V.ref.inj z
      rw [← e3] at e2
      exact hn k c2 h2 e2
    · rw [List.getElem?_set_ne c1] at h1 e1
      by_cases c2 : i = k
      · subst c2
        have hi : i < σ.length := by
          rcases Nat.lt_or_ge i σ.length with q | q
          · exact q
          · rw [List.getElem?_eq_none (by rw [List.length_set]; omega)] at e2
            cases e2
        rw [List.getElem?_set_self hi] at e2
        have e3 : a = b := by
          have z := Option.some.inj (Option.some.inj e2)
          exact V.ref.inj z
        rw [← e3] at e1
        exact hn j c1 h1 e1
      · rw [List.getElem?_set_ne c2] at h2 e2
        exact R.un j k b hjk h1 h2 e1 e2
/-- a slot is forgotten -/
theorem Rep.setNo (R : Rep K T G0 H0 G H σ δ) {i : Nat} {v : Option V} : Rep K T G0 H0 G H (σ.set i v) (δ.set i .no) := by
  refine ⟨R.st, R.src, R.tab, by rw [List.length_set, R.len]; exact (List.length_set ..).symm, fun j o h => ?_, fun j k a hjk h1 h2 e1 e2 => ?_⟩
  · have h : (δ.sl.set i .no)[j]? = some o := h
    by_cases c : i = j
    · subst c
      by_cases hi : i < δ.sl.length
      · rw [List.getElem?_set_self hi] at h
        cases h
        exact ⟨v, List.getElem?_set_self (by rw [R.len]; exact hi), trivial⟩
      · rw [List.getElem?_eq_none (by rw [List.length_set]; omega)] at h
        cases h
    · rw [List.getElem?_set_ne c] at h ⊢
      exact R.sl j o h
  · have h1 : isOwn (δ.sl.set i .no)[j]? = true := h1
    have h2 : isOwn (δ.sl.set i .no)[k]? = true := h2
    have no : ∀ l, isOwn (δ.sl.set i .no)[l]? = true → i ≠ l ∧ isOwn δ.sl[l]? = true := fun l hl => by
      by_cases c : i = l
      · subst c
        by_cases hi : i < δ.sl.length
        · rw [List.getElem?_set_self hi] at hl
          cases hl
        · rw [List.getElem?_eq_none (by rw [List.length_set]; omega)] at hl
          cases hl
      · rw [List.getElem?_set_ne c] at hl
        exact ⟨c, hl⟩
    obtain ⟨c1, k1⟩ := no j h1
    obtain ⟨c2, k2⟩ := no k h2
    rw [List.getElem?_set_ne c1] at e1
    rw [List.getElem?_set_ne c2] at e2
    exact R.un j k a hjk k1 k2 e1 e2
/-- a slot's own thing is no other slot's, and not what stands still -/
theorem Rep.own_ne (R : Rep K T G0 H0 G H σ δ) {p : Addr} (hp : H p = none) (j : Nat) (h : isOwn δ.sl[j]? = true) : σ[j]? ≠ some (some (V.ref p)) := fun z => by
  cases e : δ.sl[j]? with
  | none =>
    rw [e] at h
    cases h
  | some o =>
    obtain ⟨v, h1, h2⟩ := R.sl j o e
    rw [h1] at z
    cases z
    cases o with
    | no =>
      rw [e] at h
      cases h
    | d x =>
      rw [e] at h
      cases h
    | sr b =>
      rw [e] at h
      cases h
    | ow xs =>
      obtain ⟨a, us, q, _, _, _, q2, _⟩ := h2
      cases q
      rw [hp] at q2
      cases q2
    | oK ks xs =>
      obtain ⟨a, us, q, _, _, _, q2, _⟩ := h2
      cases q
      rw [hp] at q2
      cases q2
    | oT ks xs =>
      obtain ⟨a, us, q, _, _, _, q2, _⟩ := h2
      cases q
      rw [hp] at q2
      cases q2
    | oA a xs =>
      obtain ⟨us, q, _, _, _, q2, _⟩ := h2
      cases q
      rw [hp] at q2
      cases q2
/-- what a frame may own -/
def OwnO : HO → Prop
  | .lst _ => True
  | .dK _ => True
  | .dT _ => True
  | _ => False
theorem OwnO.nt {o : HO} (h : OwnO o) : NT o := fun ps z => by
  rw [z] at h
  exact h
/-- the frame's own thing in slot i is written -/
theorem Rep.wr (R : Rep K T G0 H0 G H σ δ) {i : Nat} {o o' : Slot} {a : Addr} {u w : HO} (hi : δ.sl[i]? = some o) (ho : isOwn (some o) = true) (hv : σ[i]? = some (some (V.ref a))) (h0 : H0 a = none) (hs : δ.s ≠ some a) (hg : G a = none) (hw : H a = some w) (ow : OwnO w)
    (r : SlOk K δ.s H0 G (upd H a u) o' (some (V.ref a))) : Rep K T G0 H0 G (upd H a u) σ (δ.set i o') := by
  have hil : i < δ.sl.length := (List.getElem?_eq_some_iff.mp hi).1
  have hi' : isOwn δ.sl[i]? = true := by
    rw [hi]
    exact ho
  have keepV : Same G (vw δ.s (upd H a u)) := fun b x e => by
    have ne : b ≠ a := fun z => by
      rw [z, hg] at e
      cases e
    obtain ⟨e1, e2, e3⟩ := vw_of (R.gv b x e)
    exact vw_at (by rw [upd_ne ne]; exact e1) e2 e3
  have tab : LamX.Tabs T (upd H a u) := fun p hp => by
    obtain ⟨ps, q1, q2, q3⟩ := R.tab p hp
    have np : p.1 ≠ a := fun z => by
      rw [z, hw] at q1
      exact ow.nt ps (Option.some.inj q1)
    refine ⟨ps, by rw [upd_ne np]; exact q1, q2, fun pos cv hcv => ?_⟩
    obtain ⟨c, e1, e2⟩ := q3 pos cv hcv
    have nc : c ≠ a := fun z => by
      rw [z, hw] at e2
      have z2 := Option.some.inj e2
      rw [z2] at ow
      exact ow
    exact ⟨c, e1, by rw [upd_ne nc]; exact e2⟩
  have same : ∀ b, δ.s = some b → b ≠ a := fun b e c => hs (by rw [← c]; exact e)
  refine ⟨⟨⟨fun b x e => ?_, fun b hb => ?_, fun b e q => ?_, fun t => tab⟩, R.st.gg, keepV, R.st.nw⟩, fun b e => ?_, tab, by rw [R.len]; exact (List.length_set ..).symm, fun j x h => ?_, fun j k b hjk h1 h2 e1 e2 => ?_⟩
  · obtain ⟨e1, e2, e3⟩ := vw_of (R.st.gr.ex b x e)
    have ne : b ≠ a := fun z => by
      have q := (vw_of e).1
      rw [z, h0] at q
      cases q
    exact vw_at (by rw [upd_ne ne]; exact e1) e2 e3
  · by_cases c : b = a
    · rw [c, upd_same]
      simp
    · rw [upd_ne c]
      exact R.st.gr.al b hb
  · obtain ⟨x, y, z, r⟩ := R.st.gr.sr b e q
    exact ⟨x, y, by rw [upd_ne (same b e)]; exact z, r⟩
  · obtain ⟨x, y, z, r⟩ := R.src b e
    exact ⟨x, y, by rw [upd_ne (same b e)]; exact z, r⟩
  · have h : (δ.sl.set i o')[j]? = some x := h
    by_cases c : i = j
    · subst c
      rw [List.getElem?_set_self hil] at h
      cases h
      exact ⟨_, hv, r⟩
    · rw [List.getElem?_set_ne c] at h
      obtain ⟨v, h1, h2⟩ := R.sl j x h
      refine ⟨v, h1, ?_⟩
      have ne : ∀ b, isOwn (some x) = true → v = some (.ref b) → b ≠ a := fun b hx e z => R.un i j a c hi' (by rw [h]; exact hx) hv (by rw [h1, e, z])
      cases x with
      | no => trivial
      | d y => exact h2
      | sr b => exact h2
      | ow xs =>
        obtain ⟨b, us, e, q⟩ := h2
        exact ⟨b, us, e, by rw [upd_ne (ne b rfl e)]; exact q⟩
      | oK ks xs =>
        obtain ⟨b, us, e, q⟩ := h2
        exact ⟨b, us, e, by rw [upd_ne (ne b rfl e)]; exact q⟩
      | oT ks xs =>
        obtain ⟨b, us, e, q⟩ := h2
        exact ⟨b, us, e, by rw [upd_ne (ne b rfl e)]; exact q⟩
      | oA b xs =>
        obtain ⟨us, e, q⟩ := h2
        exact ⟨us, e, by rw [upd_ne (ne b rfl e)]; exact q⟩
  · have own : ∀ l, isOwn (δ.sl.set i o')[l]? = true → isOwn δ.sl[l]? = true := fun l hl => by
      by_cases c : i = l
      · rw [← c]
        exact hi'
      · rw [List.getElem?_set_ne c] at hl
        exact hl
    exact R.un j k b hjk (own j h1) (own k h2) e1 e2
/-- the frame's own thing in slot i stands still from now on -/
theorem Rep.fz (R : Rep K T G0 H0 G H σ δ) {i : Nat} {o : Slot} {x : D} {a : Addr} {w : HO} (hi : δ.sl[i]? = some o) (ho : isOwn (some o) = true) (hv : σ[i]? = some (some (V.ref a))) (h0 : H0 a = none) (hs : δ.s ≠ some a) (hg : G a = none) (hw : H a = some w) (ow : OwnO w)
    (r : Rp K (upd G a w) x (.ref a)) : Rep K T G0 H0 (upd G a w) H σ (δ.set i (.d x)) := by
  have hil : i < δ.sl.length := (List.getElem?_eq_some_iff.mp hi).1
  have hi' : isOwn δ.sl[i]? = true := by
    rw [hi]
    exact ho
  have gg : Same G (upd G a w) := Wn.Same.new hg
  refine ⟨⟨R.st.gr, fun b y e => gg b y (R.st.gg b y e), fun b y e => ?_, fun b hb => ?_⟩, R.src, R.tab, by rw [R.len]; exact (List.length_set ..).symm, fun j y h => ?_, fun j k b hjk h1 h2 e1 e2 => ?_⟩
  · by_cases c : b = a
    · rw [c, upd_same] at e
      cases e
      rw [c]
      exact vw_at hw hs ow.nt
    · rw [upd_ne c] at e
      exact R.gv b y e
  · by_cases c : b = a
    · rw [c]
      exact .inr h0
    · rw [upd_ne c] at hb
      exact R.st.nw b hb
  · have h : (δ.sl.set i (.d x))[j]? = some y := h
    by_cases c : i = j
    · subst c
      rw [List.getElem?_set_self hil] at h
      cases h
      exact ⟨_, hv, _, rfl, r⟩
    · rw [List.getElem?_set_ne c] at h
      obtain ⟨v, h1, h2⟩ := R.sl j y h
      refine ⟨v, h1, ?_⟩
      have ne : ∀ b, isOwn (some y) = true → v = some (.ref b) → b ≠ a := fun b hx e z => R.un i j a c hi' (by rw [h]; exact hx) hv (by rw [h1, e, z])
      cases y with
      | no => trivial
      | d z =>
        obtain ⟨u, e, q⟩ := h2
        exact ⟨u, e, q.mono gg⟩
      | sr b => exact h2
      | ow xs =>
        obtain ⟨b, us, e, q1, q2, q3, q4, q5⟩ := h2
        exact ⟨b, us, e, q1, q2, by rw [upd_ne (ne b rfl e)]; exact q3, q4, q5.mono gg⟩
      | oK ks xs =>
        obtain ⟨b, us, e, q1, q2, q3, q4, q6, q5⟩ := h2
        exact ⟨b, us, e, q1, q2, by rw [upd_ne (ne b rfl e)]; exact q3, q4, q6, q5.mono gg⟩
      | oT ks xs =>
        obtain ⟨b, us, e, q1, q2, q3, q4, q6, q5⟩ := h2
        exact ⟨b, us, e, q1, q2, by rw [upd_ne (ne b rfl e)]; exact q3, q4, q6, q5.mono gg⟩
      | oA b xs =>
        obtain ⟨us, e, q1, q2, q3, q4, q5⟩ := h2
        exact ⟨us, e, q1, q2, by rw [upd_ne (ne b rfl e)]; exact q3, q4, q5.mono gg⟩
  · have own : ∀ l, isOwn (δ.sl.set i (.d x))[l]? = true → isOwn δ.sl[l]? = true := fun l hl => by
      by_cases c : i = l
      · rw [← c]
        exact hi'
      · rw [List.getElem?_set_ne c] at hl
        exact hl
    exact R.un j k b hjk (own j h1) (own k h2) e1 e2
end
end Wn

set_option Elab.async false
set_option linter.all false
set_option maxRecDepth 100000
set_option maxHeartbeats 4000000
namespace Wn
open PySem L2
abbrev TD := DE → (D → Prop) → (Addr → Prop) → Prop
abbrev TDL := DE → (List D → Prop) → (Addr → Prop) → Prop
abbrev TDB := DE → (Bool → Prop) → (Addr → Prop) → Prop
structure Lv (K : PySem.W.Frag) (T : Tbl) (E : XK) (G0 H0 G H : Hp) (σ : L2.St) (δ : DE) (EP : Addr → Prop) : Prop where
  rep : Rep K T G0 H0 G H σ δ
  ex : ∀ c, EP c → ∀ H', Gr T δ.s H H' → E (.ref c) none H'
theorem Lv.stp {K : PySem.W.Frag} {T : Tbl} {E : XK} {G0 H0 G H G1 H1 : Hp} {σ : L2.St} {δ : DE} {EP : Addr → Prop} (L : Lv K T E G0 H0 G H σ δ EP) (x : Stp T δ.s G G1 H H1) : Lv K T E G0 H0 G1 H1 σ δ EP :=
  ⟨L.rep.stp x, fun c h H' g => L.ex c h H' (x.gr.trans g)⟩
theorem Lv.gr {K : PySem.W.Frag} {T : Tbl} {E : XK} {G0 H0 G H H1 : Hp} {σ : L2.St} {δ : DE} {EP : Addr → Prop} (L : Lv K T E G0 H0 G H σ δ EP) (x : Gr T δ.s H H1) : Lv K T E G0 H0 G H1 σ δ EP := L.stp (.of_gr L.rep.gv x)
/-- the value stands still -/
def lF (K : PySem.W.Frag) (T : Tbl) (E : XK) (t : TD) : TE := fun σ H Q => ∃ δ G0 H0 G P EP, Lv K T E G0 H0 G H σ δ EP ∧ t δ P EP ∧ ∀ d, P d → ∀ v H' G', Stp T δ.s G G' H H' → Rp K G' d v → Q v H'
/-- the value is read now -/
def lR (K : PySem.W.Frag) (T : Tbl) (E : XK) (t : TD) : TE := fun σ H Q => ∃ δ G0 H0 G P EP, Lv K T E G0 H0 G H σ δ EP ∧ t δ P EP ∧ ∀ d, P d → ∀ v H', Gr T δ.s H H' → Rp K (vw δ.s H') d v → Q v H'
/-- the value is a new list -/
def lN (K : PySem.W.Frag) (T : Tbl) (E : XK) (t : TDL) : TE := fun σ H Q => ∃ δ G0 H0 G P EP, Lv K T E G0 H0 G H σ δ EP ∧ t δ P EP ∧ ∀ ds, P ds → ∀ a us H' G', Stp T δ.s G G' H H' → H a = none → G' a = none → H' a = some (.lst us) → RpA K G' ds us → Q (.ref a) H'
def lA (K : PySem.W.Frag) (T : Tbl) (E : XK) (t : TDL) : TA := fun σ H Q => ∃ δ G0 H0 G P EP, Lv K T E G0 H0 G H σ δ EP ∧ t δ P EP ∧ ∀ ds, P ds → ∀ vs H' G', Stp T δ.s G G' H H' → RpA K G' ds vs → Q vs H'
def lAR (K : PySem.W.Frag) (T : Tbl) (E : XK) (t : TDL) : TA := fun σ H Q => ∃ δ G0 H0 G P EP, Lv K T E G0 H0 G H σ δ EP ∧ t δ P EP ∧ ∀ ds, P ds → ∀ vs H', Gr T δ.s H H' → RpA K (vw δ.s H') ds vs → Q vs H'
def lB (K : PySem.W.Frag) (T : Tbl) (E : XK) (t : TDB) : TT := fun σ H Q => ∃ δ G0 H0 G P EP, Lv K T E G0 H0 G H σ δ EP ∧ t δ P EP ∧ ∀ b, P b → ∀ H', Gr T δ.s H H' → Q b H'
section
variable {X : Cx} {e : Expr} {K : PySem.W.Frag} {T : Tbl} {E : XK}
theorem pe_imp {t t' : TE} (h : PE X e t) (i : ∀ σ H Q, t' σ H Q → t σ H Q) : PE X e t' := ⟨fun pins s σ H Q I q => h.run pins s σ H Q I (i σ H Q q)⟩
theorem pt_imp {t t' : TT} (h : PT X e t) (i : ∀ σ H Q, t' σ H Q → t σ H Q) : PT X e t' := ⟨fun pins s σ H Q I q => h.run pins s σ H Q I (i σ H Q q)⟩
theorem pw_imp {t t' : TT} (h : PW X e t) (i : ∀ σ H Q, t' σ H Q → t σ H Q) : PW X e t' := ⟨fun whole pins s σ H Q I q => h.run whole pins s σ H Q I (i σ H Q q)⟩
theorem pa_imp {es : List Expr} {t t' : TA} (h : PA X es t) (i : ∀ σ H Q, t' σ H Q → t σ H Q) : PA X es t' := ⟨fun pos pins s σ H Q I q => h.run pos pins s σ H Q I (i σ H Q q)⟩
/-- what stands still may be read -/
theorem pd_R {t : TD} (h : PE X e (lF K T E t)) : PE X e (lR K T E t) :=
  pe_imp h fun σ H Q ⟨δ, G0, H0, G, P, EP, L, ht, k⟩ => ⟨δ, G0, H0, G, P, EP, L, ht, fun d hd v H' G' x r => k d hd v H' x.gr (r.mono x.gv)⟩
def tNF (t : TDL) : TD := fun δ P EP => t δ (fun ds => P (.lst ds)) EP
/-- a new list that stands still from now on -/
theorem pd_NF {t : TDL} (h : PE X e (lN K T E t)) : PE X e (lF K T E (tNF t)) :=
  pe_imp h fun σ H Q ⟨δ, G0, H0, G, P, EP, L, ht, k⟩ => ⟨δ, G0, H0, G, _, EP, L, ht, fun ds hd a us H' G' x h1 h2 h3 r => by
    have sa : δ.s ≠ some a := fun z => by
      obtain ⟨p, q, e, _⟩ := L.rep.src a z
      rw [h1] at e
      cases e
    refine k _ hd (.ref a) H' (upd G' a (.lst us)) ⟨x.gr, (x.gg).trans (Wn.Same.new h2), fun b o e => ?_, fun b hb => ?_⟩ ⟨a, us, rfl, upd_same, r.mono (Wn.Same.new h2)⟩
    · by_cases c : b = a
      · rw [c, upd_same] at e
        cases e
        rw [c]
        exact vw_at h3 sa fun ps z => by cases z
      · rw [upd_ne c] at e
        exact x.gv b o e
    · by_cases c : b = a
      · rw [c]
        exact .inr h1
      · rw [upd_ne c] at hb
        exact x.nw b hb⟩
theorem pd_NR {t : TDL} (h : PE X e (lN K T E t)) : PE X e (lR K T E (tNF t)) := pd_R (pd_NF h)
/-- data that are no objects -/
def isSc : D → Bool
  | .non => true
  | .bl _ => true
  | .int _ => true
  | .str _ => true
  | .ref _ => true
  | _ => false
theorem Rp.sc {G : Hp} {d : D} {v : V} (h : isSc d = true) (r : Rp K G d v) (G' : Hp) : Rp K G' d v := by
  cases d <;> first
    | exact r
    | cases h
def tSc (t : TD) : TD := fun δ P EP => t δ (fun d => isSc d = true ∧ P d) EP
/-- a value that is no object may be read any time -/
theorem pd_RF {t : TD} (h : PE X e (lR K T E t)) : PE X e (lF K T E (tSc t)) :=
  pe_imp h fun σ H Q ⟨δ, G0, H0, G, P, EP, L, ht, k⟩ => ⟨δ, G0, H0, G, _, EP, L, ht, fun d hd v H' g r => k d hd.2 v H' G (.of_gr L.rep.gv g) (r.sc hd.1 G)⟩
end
/-! ### names and constants -/
def tK (d : D) : TD := fun _ P _ => P d
def tN (i : Nat) : TD := fun δ P _ => match δ.sl[i]? with
  | some (.d x) => P x
  | some (.sr a) => P (.ref a)
  | _ => False
def rdS : Slot → Option D
  | .no => none
  | .d x => some x
  | .sr a => some (.ref a)
  | .ow xs => some (.lst xs)
  | .oK ks vs => some (.dK ks vs)
  | .oT ks vs => some (.dT ks vs)
  | .oA _ xs => some (.lst xs)
def tR (i : Nat) : TD := fun δ P _ => match δ.sl[i]? with
  | some o => (match rdS o with
    | some x => P x
    | none => False)
  | none => False
section
variable {X : Cx} {K : PySem.W.Frag} {T : Tbl} {E : XK} {pos : Pos}
theorem pd_k {e : Expr} {d : D} {v : V} (h : PE X e (tC v)) (r : ∀ G, Rp K G d v) : PE X e (lF K T E (tK d)) :=
  pe_imp h fun σ H Q ⟨δ, G0, H0, G, P, EP, L, ht, k⟩ => k _ ht v H G (.refl L.rep.gv) (r G)
theorem pd_int {i j} : PE X (.Constant (.int i) j pos) (lF K T E (tK (.int i))) := pd_k pe_int fun _ => rfl
theorem pd_bl {b j} : PE X (.Constant (.bool b) j pos) (lF K T E (tK (.bl b))) := pd_k pe_bl fun _ => rfl
theorem pd_non {j} : PE X (.Constant .none j pos) (lF K T E (tK .non)) := pd_k pe_non fun _ => rfl
theorem pd_str {x j} : PE X (.Constant (.str x) j pos) (lF K T E (tK (.str x))) := pd_k pe_str fun _ => rfl
/-- a name of the module that holds an int -/
theorem pd_gint {x : Str} {i : Int} (hm : ∃ t, X.mg x = some (.int i t)) (hg : Gl X x) (hd : (x == ("__debug__" : Str)) = false := by decide) : PE X (.Name x pos) (lF K T E (tK (.int i))) := by
  obtain ⟨t, e⟩ := hm
  exact pd_k (pe_glob (v := .int i) hg e ⟨t, rfl⟩ hd) fun _ => rfl
theorem pd_gref {x : Str} {a : Addr} (hm : X.mg x = some (.ref a)) (hg : Gl X x) (hd : (x == ("__debug__" : Str)) = false := by decide) : PE X (.Name x pos) (lF K T E (tK (.ref a))) := pd_k (pe_glob (v := .ref a) hg hm rfl hd) fun _ => rfl
theorem rep_d {G0 H0 G H : Hp} {σ : L2.St} {δ : DE} {i : Nat} {x : D} (R : Rep K T G0 H0 G H σ δ) (e : δ.sl[i]? = some (.d x)) : ∃ v, σ[i]? = some (some v) ∧ Rp K G x v := by
  obtain ⟨v, h1, u, h2, r⟩ := R.sl i _ e
  exact ⟨u, by rw [h1, h2], r⟩
theorem rep_r {G0 H0 G H : Hp} {σ : L2.St} {δ : DE} {i : Nat} {o : Slot} {x : D} (R : Rep K T G0 H0 G H σ δ) (e : δ.sl[i]? = some o) (hx : rdS o = some x) : ∃ v, σ[i]? = some (some v) ∧ Rp K (vw δ.s H) x v := by
  obtain ⟨v, h1, h2⟩ := R.sl i _ e
  cases o with
  | no => cases hx
  | d y =>
    cases hx
    obtain ⟨u, e2, r⟩ := h2
    exact ⟨u, by rw [h1, e2], r.mono R.gv⟩
  | sr a =>
    cases hx
    exact ⟨.ref a, by rw [h1, h2.1], rfl⟩
  | ow xs =>
    cases hx
    obtain ⟨a, us, e2, q1, q2, q3, q4, q5⟩ := h2
    exact ⟨.ref a, by rw [h1, e2], a, us, rfl, vw_at q4 q2 (fun ps z => by cases z), q5.mono R.gv⟩
  | oK ks xs =>
    cases hx
    obtain ⟨a, us, e2, q1, q2, q3, q4, q6, q5⟩ := h2
    exact ⟨.ref a, by rw [h1, e2], a, us, rfl, vw_at q4 q2 (fun ps z => by cases z), q6, q5.mono R.gv⟩
  | oT ks xs =>
    cases hx
    obtain ⟨a, us, e2, q1, q2, q3, q4, q6, q5⟩ := h2
    exact ⟨.ref a, by rw [h1, e2], a, us, rfl, vw_at q4 q2 (fun ps z => by cases z), q6, q5.mono R.gv⟩
  | oA a xs =>
    cases hx
    obtain ⟨us, e2, q1, q2, q3, q4, q5⟩ := h2
    exact ⟨.ref a, by rw [h1, e2], a, us, rfl, vw_at q4 q2 (fun ps z => by cases z), q5.mono R.gv⟩
theorem pd_n (i : Nat) {x : Str} (hN : X.N[i]? = some x := by rfl) (hv : Vis X.env.scope x := by first | exact Or.inl rfl | exact Or.inr (Or.inl rfl) | exact Or.inr (Or.inr rfl)) (hd : (x == ("__debug__" : Str)) = false := by decide)
    (hcd : (x == ("__classdict__" : Str)) = false := by decide) : PE X (.Name x pos) (lF K T E (tN i)) :=
  pe_imp (pe_var hN hv hd hcd) fun σ H Q ⟨δ, G0, H0, G, P, EP, L, ht, k⟩ => by
    unfold tN at ht
    cases e : δ.sl[i]? with
    | none =>
      rw [e] at ht
      exact ht.elim
    | some o =>
      rw [e] at ht
      cases o with
      | d y =>
        obtain ⟨v, h1, r⟩ := rep_d L.rep e
        exact ⟨v, h1, k y ht v H G (.refl L.rep.gv) r⟩
      | sr a =>
        obtain ⟨v, h1, h2, _⟩ := L.rep.sl i _ e
        exact ⟨.ref a, by rw [h1, h2], k _ ht _ H G (.refl L.rep.gv) rfl⟩
      | _ => exact ht.elim
theorem pd_r (i : Nat) {x : Str} (hN : X.N[i]? = some x := by rfl) (hv : Vis X.env.scope x := by first | exact Or.inl rfl | exact Or.inr (Or.inl rfl) | exact Or.inr (Or.inr rfl)) (hd : (x == ("__debug__" : Str)) = false := by decide)
    (hcd : (x == ("__classdict__" : Str)) = false := by decide) : PE X (.Name x pos) (lR K T E (tR i)) :=
  pe_imp (pe_var hN hv hd hcd) fun σ H Q ⟨δ, G0, H0, G, P, EP, L, ht, k⟩ => by
    unfold tR at ht
    cases e : δ.sl[i]? with
    | none =>
      rw [e] at ht
      exact ht.elim
    | some o =>
      rw [e] at ht
      cases hx : rdS o with
      | none =>
        have ht : (match rdS o with | some x => P x | none => False) := ht
        rw [hx] at ht
        exact ht.elim
      | some y =>
        have ht : (match rdS o with | some x => P x | none => False) := ht
        rw [hx] at ht
        obtain ⟨v, h1, r⟩ := rep_r L.rep e hx
        exact ⟨v, h1, k y ht v H .refl r⟩
end
/-! ### operators on values -/
/-- r on what is read as x, y gives what f says, no object -/
def Sop (K : PySem.W.Frag) (r : R2) (f : D → D → (D → Prop) → Prop) : Prop :=
  ∀ (s : Option Addr) (H : Hp) (dx dy : D) (x y : V) (P : D → Prop) (Q : VK), Rp K (vw s H) dx x → Rp K (vw s H) dy y → f dx dy P → (∀ d v, P d → (∀ G, Rp K G d v) → Q v H) → r x y H Q
def t2 (f : D → D → (D → Prop) → Prop) (ta tb : TD) : TD := fun δ P EP => ta δ (fun x => tb δ (fun y => f x y P) EP) EP
section
variable {X : Cx} {K : PySem.W.Frag} {T : Tbl} {E : XK} {a b c : Expr} {ta tb tc : TD} {pos : Pos} {r r' : R2} {f f' : D → D → (D → Prop) → Prop}
theorem two_run {σ : L2.St} {H : Hp} {Q : VK} (hs : Sop K r f) (h : lF K T E (t2 f ta tb) σ H Q) : tOp r (lR K T E ta) (lR K T E tb) σ H Q := by
  obtain ⟨δ, G0, H0, G, P, EP, L, ht, k⟩ := h
  refine ⟨δ, G0, H0, G, _, EP, L, ht, fun dx hx x H1 g1 r1 => ⟨δ, G0, H0, G, _, EP, L.gr g1, hx, fun dy hy y H2 g2 r2 => ?_⟩⟩
  exact hs δ.s H2 dx dy x y P Q (r1.mono g2.ex) r2 hy fun d v hd rr => k d hd v H2 G (.of_gr L.rep.gv (g1.trans g2)) (rr G)
theorem pd_op {op : Operator} (ho : OpR X (binaryOp op) r) (hs : Sop K r f) (ha : PE X a (lR K T E ta)) (hb : PE X b (lR K T E tb)) : PE X (.BinOp a op b pos) (lF K T E (t2 f ta tb)) := pe_imp (pe_op ho ha hb) fun _ _ _ h => two_run hs h
theorem pd_cmp {op : CmpOp} (ho : OpR X (compareOp op) r) (hs : Sop K r f) (ha : PE X a (lR K T E ta)) (hb : PE X b (lR K T E tb)) (hm : behindInMarks op b = false) : PE X (.Compare a [op] [b] pos) (lF K T E (t2 f ta tb)) := pe_imp (pe_cmpR ho ha hb hm) fun _ _ _ h => two_run hs h
def tCh (f f' : D → D → (D → Prop) → Prop) (ta tb tc : TD) : TD := fun δ P EP => ta δ (fun x => tb δ (fun y => f x y (fun z => match z with
  | .bl true => tc δ (fun u => f' y u P) EP
  | .bl false => P (.bl false)
  | _ => False)) EP) EP
theorem chain_run {σ : L2.St} {H : Hp} {Q : VK} (hs : Sop K r f) (hs' : Sop K r' f') (h : lF K T E (tCh f f' ta tb tc) σ H Q) : tChain r r' (lR K T E ta) (lR K T E tb) (lR K T E tc) σ H Q := by
  obtain ⟨δ, G0, H0, G, P, EP, L, ht, k⟩ := h
  refine ⟨δ, G0, H0, G, _, EP, L, ht, fun dx hx x H1 g1 r1 => ⟨δ, G0, H0, G, _, EP, L.gr g1, hx, fun dy hy y H2 g2 r2 => ?_⟩⟩
  refine hs δ.s H2 dx dy x y _ _ (r1.mono g2.ex) r2 hy fun d v hd rr => ?_
  cases d with
  | bl q =>
    have e : v = .bl q := rr G
    refine ⟨q, e, ?_⟩
    cases q with
    | true =>
      refine iteT ⟨δ, G0, H0, G, _, EP, (L.gr g1).gr g2, hd, fun du hu u H3 g3 r3 => ?_⟩
      exact hs' δ.s H3 dy du y u P Q (r2.mono g3.ex) r3 hu fun d' v' hd' rr' => k d' hd' v' H3 G (.of_gr L.rep.gv ((g1.trans g2).trans g3)) (rr' G)
    | false => exact iteF (k _ hd _ H2 G (.of_gr L.rep.gv (g1.trans g2)) rfl)
  | _ => exact hd.elim
theorem pd_chain {op op' : CmpOp} (ho : OpR X (compareOp op) r) (ho' : OpR X (compareOp op') r') (hs : Sop K r f) (hs' : Sop K r' f') (ha : PE X a (lR K T E ta)) (hb : PE X b (lR K T E tb)) (hc : PE X c (lR K T E tc))
    (hm : lastMarks [op, op'] [b, c] = false := by with_unfolding_all rfl) : PE X (.Compare a [op, op'] [b, c] pos) (lF K T E (tCh f f' ta tb tc)) :=
  pe_imp (pe_chain ho ho' ha hb hc hm) fun σ H Q h => chain_run hs hs' h
end
/-- ints under C -/
def fI (C : Int → Int → Prop) (g : Int → Int → D) : D → D → (D → Prop) → Prop := fun x y P => match x, y with
  | .int i, .int j => C i j ∧ P (g i j)
  | _, _ => False
def fI0 (g : Int → Int → D) : D → D → (D → Prop) → Prop := fun x y P => match x, y with
  | .int i, .int j => P (g i j)
  | _, _ => False
theorem sopI {K : PySem.W.Frag} {C : Int → Int → Prop} {g : Int → Int → V} {g' : Int → Int → D} (hg : ∀ i j G, Rp K G (g' i j) (g i j)) : Sop K (rI C g) (fI C g') := by
  intro s H dx dy x y P Q rx ry h k
  unfold fI at h
  cases dx with
  | int i =>
    cases dy with
    | int j => exact ⟨i, j, rx, ry, h.1, k _ _ h.2 (hg i j)⟩
    | _ => exact h.elim
  | _ => exact h.elim
theorem sopI0 {K : PySem.W.Frag} {g : Int → Int → V} {g' : Int → Int → D} (hg : ∀ i j G, Rp K G (g' i j) (g i j)) : Sop K (rI0 g) (fI0 g') := by
  intro s H dx dy x y P Q rx ry h k
  unfold fI0 at h
  cases dx with
  | int i =>
    cases dy with
    | int j => exact ⟨i, j, rx, ry, k _ _ h (hg i j)⟩
    | _ => exact h.elim
  | _ => exact h.elim
abbrev dAdd := fI0 fun i j => .int (i + j)
abbrev dSub := fI0 fun i j => .int (i - j)
abbrev dMul := fI CMul fun i j => .int (i * j)
abbrev dMulW := fI CMulW fun i j => .int (i * j)
abbrev dFdiv := fI CDiv fun i j => .int (i / j)
abbrev dFdivW := fI CDivW fun i j => .int (i / j)
abbrev dMod := fI (fun _ j => 0 < j) fun i j => .int (i % j)
abbrev dPow := fI CPow fun i j => .int (i ^ j.toNat)
abbrev dLt := fI0 fun i j => .bl (decide (i < j))
abbrev dLe := fI0 fun i j => .bl (decide (i ≤ j))
abbrev dGt := fI0 fun i j => .bl (decide (j < i))
abbrev dGe := fI0 fun i j => .bl (decide (j ≤ i))
section
variable {X : Cx} {K : PySem.W.Frag} {T : Tbl} {E : XK} {a b c : Expr} {ta tb tc : TD} {pos : Pos}
theorem pd_add (ha : PE X a (lR K T E ta)) (hb : PE X b (lR K T E tb)) : PE X (.BinOp a .Add b pos) (lF K T E (t2 dAdd ta tb)) := pd_op op_add (sopI0 fun _ _ _ => rfl) ha hb
theorem pd_sub (ha : PE X a (lR K T E ta)) (hb : PE X b (lR K T E tb)) : PE X (.BinOp a .Sub b pos) (lF K T E (t2 dSub ta tb)) := pd_op op_sub (sopI0 fun _ _ _ => rfl) ha hb
theorem pd_mul (ha : PE X a (lR K T E ta)) (hb : PE X b (lR K T E tb)) : PE X (.BinOp a .Mult b pos) (lF K T E (t2 dMul ta tb)) := pd_op op_mul (sopI fun _ _ _ => rfl) ha hb
theorem pd_mulW (ha : PE X a (lR K T E ta)) (hb : PE X b (lR K T E tb)) : PE X (.BinOp a .Mult b pos) (lF K T E (t2 dMulW ta tb)) := pd_op op_mulW (sopI fun _ _ _ => rfl) ha hb
theorem pd_fdiv (ha : PE X a (lR K T E ta)) (hb : PE X b (lR K T E tb)) : PE X (.BinOp a .FloorDiv b pos) (lF K T E (t2 dFdiv ta tb)) := pd_op op_fdiv (sopI fun _ _ _ => rfl) ha hb
theorem pd_fdivW (ha : PE X a (lR K T E ta)) (hb : PE X b (lR K T E tb)) : PE X (.BinOp a .FloorDiv b pos) (lF K T E (t2 dFdivW ta tb)) := pd_op op_fdivW (sopI fun _ _ _ => rfl) ha hb
theorem pd_mod (ha : PE X a (lR K T E ta)) (hb : PE X b (lR K T E tb)) : PE X (.BinOp a .Mod b pos) (lF K T E (t2 dMod ta tb)) := pd_op op_mod (sopI fun _ _ _ => rfl) ha hb
theorem pd_pow (ha : PE X a (lR K T E ta)) (hb : PE X b (lR K T E tb)) : PE X (.BinOp a .Pow b pos) (lF K T E (t2 dPow ta tb)) := pd_op op_pow (sopI fun _ _ _ => rfl) ha hb
theorem pd_lt (ha : PE X a (lR K T E ta)) (hb : PE X b (lR K T E tb)) : PE X (.Compare a [.Lt] [b] pos) (lF K T E (t2 dLt ta tb)) := pd_cmp op_lt (sopI0 fun _ _ _ => rfl) ha hb (nomark _)
theorem pd_le (ha : PE X a (lR K T E ta)) (hb : PE X b (lR K T E tb)) : PE X (.Compare a [.LtE] [b] pos) (lF K T E (t2 dLe ta tb)) := pd_cmp op_le (sopI0 fun _ _ _ => rfl) ha hb (nomark _)
theorem pd_gt (ha : PE X a (lR K T E ta)) (hb : PE X b (lR K T E tb)) : PE X (.Compare a [.Gt] [b] pos) (lF K T E (t2 dGt ta tb)) := pd_cmp op_gt (sopI0 fun _ _ _ => rfl) ha hb (nomark _)
theorem pd_ge (ha : PE X a (lR K T E ta)) (hb : PE X b (lR K T E tb)) : PE X (.Compare a [.GtE] [b] pos) (lF K T E (t2 dGe ta tb)) := pd_cmp op_ge (sopI0 fun _ _ _ => rfl) ha hb (nomark _)
theorem pd_lele (ha : PE X a (lR K T E ta)) (hb : PE X b (lR K T E tb)) (hc : PE X c (lR K T E tc)) (hm : lastMarks [CmpOp.LtE, CmpOp.LtE] [b, c] = false := by with_unfolding_all rfl) : PE X (.Compare a [.LtE, .LtE] [b, c] pos) (lF K T E (tCh dLe dLe ta tb tc)) :=
  pd_chain op_le op_le (sopI0 fun _ _ _ => rfl) (sopI0 fun _ _ _ => rfl) ha hb hc hm
theorem pd_ltlt (ha : PE X a (lR K T E ta)) (hb : PE X b (lR K T E tb)) (hc : PE X c (lR K T E tc)) (hm : lastMarks [CmpOp.Lt, CmpOp.Lt] [b, c] = false := by with_unfolding_all rfl) : PE X (.Compare a [.Lt, .Lt] [b, c] pos) (lF K T E (tCh dLt dLt ta tb tc)) :=
  pd_chain op_lt op_lt (sopI0 fun _ _ _ => rfl) (sopI0 fun _ _ _ => rfl) ha hb hc hm
theorem pd_ltle (ha : PE X a (lR K T E ta)) (hb : PE X b (lR K T E tb)) (hc : PE X c (lR K T E tc)) (hm : lastMarks [CmpOp.Lt, CmpOp.LtE] [b, c] = false := by with_unfolding_all rfl) : PE X (.Compare a [.Lt, .LtE] [b, c] pos) (lF K T E (tCh dLt dLe ta tb tc)) :=
  pd_chain op_lt op_le (sopI0 fun _ _ _ => rfl) (sopI0 fun _ _ _ => rfl) ha hb hc hm
end
/-! ### equality of data -/
mutual
def D.py : D → Option PyData
  | .non => some .none
  | .bl b => some (.bool b)
  | .int i => some (.int i)
  | .str x => some (.str x)
  | .tup ds => (D.pyA ds).map PyData.tuple
  | .lst ds => (D.pyA ds).map PyData.list
  | _ => none
def D.pyA : List D → Option (List PyData)
  | [] => some []
  | d :: ds => match D.py d, D.pyA ds with
    | some x, some r => some (x :: r)
    | _, _ => none
end
mutual
theorem Rp.dp {K : PySem.W.Frag} {G : Hp} : ∀ (d : D) (v : V) (p : PyData), Rp K G d v → d.py = some p → Dp K G v p
  | .non, v, p, h, e => by
    rw [show v = .non from h]
    cases (show some PyData.none = some p from e)
    exact .non
  | .bl b, v, p, h, e => by
    rw [show v = .bl b from h]
    cases (show some (PyData.bool b) = some p from e)
    exact .bl b
  | .int i, v, p, h, e => by
    rw [show v = .int i from h]
    cases (show some (PyData.int i) = some p from e)
    exact .int i
  | .str x, v, p, h, e => by
    rw [show v = .str x from h]
    cases (show some (PyData.str x) = some p from e)
    exact .str x
  | .tup ds, v, p, ⟨a, xs, e1, h1, h2⟩, e => by
    have e : (D.pyA ds).map PyData.tuple = some p := by
      unfold D.py at e
      exact e
    cases q : D.pyA ds with
    | none =>
      rw [q] at e
      cases e
    | some ps =>
      rw [q] at e
      cases e
      rw [e1]
      exact .tup (.of h1) (RpA.dp ds xs ps h2 q)
  | .lst ds, v, p, ⟨a, xs, e1, h1, h2⟩, e => by
    have e : (D.pyA ds).map PyData.list = some p := by
      unfold D.py at e
      exact e
    cases q : D.pyA ds with
    | none =>
      rw [q] at e
      cases e
    | some ps =>
      rw [q] at e
      cases e
      rw [e1]
      exact .lst (.of h1) (RpA.dp ds xs ps h2 q)
  | .ref _, _, _, _, e => by
    unfold D.py at e
    cases e
  | .kl _, _, _, _, e => by
    unfold D.py at e
    cases e
  | .kt _, _, _, _, e => by
    unfold D.py at e
    cases e
  | .dK _ _, _, _, _, e => by
    unfold D.py at e
    cases e
  | .dT _ _, _, _, _, e => by
    unfold D.py at e
    cases e
theorem RpA.dp {K : PySem.W.Frag} {G : Hp} : ∀ (ds : List D) (vs : List V) (ps : List PyData), RpA K G ds vs → D.pyA ds = some ps → DpAll K G vs ps
  | [], vs, ps, h, e => by
    rw [show vs = [] from h]
    have e : some [] = some ps := by
      unfold D.pyA at e
      exact e
    cases e
    exact .nil
  | d :: ds, vs, ps, ⟨x, r, e1, h1, h2⟩, e => by
    unfold D.pyA at e
    cases q1 : D.py d with
    | none =>
      rw [q1] at e
      cases e
    | some p1 =>
      rw [q1] at e
      cases q2 : D.pyA ds with
      | none =>
        rw [q2] at e
        cases e
      | some p2 =>
        rw [q2] at e
        cases e
        rw [e1]
        exact .cons (Rp.dp d x p1 h1 q1) (RpA.dp ds r p2 h2 q2)
end
theorem sqT_vw {K : PySem.W.Frag} {s : Option Addr} {H : Hp} {a : Addr} {xs : List V} (h : SqT K (vw s H) a xs) : SqT K H a xs := same_seqT vw_sub h
theorem sqL_vw {K : PySem.W.Frag} {s : Option Addr} {H : Hp} {a : Addr} {xs : List V} (h : SqL K (vw s H) a xs) : SqL K H a xs := vw_sub.seq h
theorem Rp.at {K : PySem.W.Frag} {s : Option Addr} {H : Hp} {d : D} {v : V} (h : Rp K (vw s H) d v) : Rp K H d v := h.mono vw_sub
/-- == of data; both small enough in depth -/
def dEq (neg : Bool) : D → D → (D → Prop) → Prop := fun x y P => match x.py, y.py with
  | some p, some q => (SeqAt.shaped p = true ∧ SeqAt.shaped q = true) ∧ P (.bl (if neg then !PyData.eqv p q else PyData.eqv p q))
  | _, _ => False
section
variable {X : Cx} {K : PySem.W.Frag} {T : Tbl} {E : XK} {a b c : Expr} {ta tb tc : TD} {pos : Pos}
theorem sop_eq : Sop K (rEqD K) (dEq false) := by
  intro s H dx dy x y P Q rx ry h k
  unfold dEq at h
  cases ex : dx.py with
  | none =>
    rw [ex] at h
    exact h.elim
  | some p =>
    cases ey : dy.py with
    | none =>
      rw [ex, ey] at h
      exact h.elim
    | some q =>
      rw [ex, ey] at h
      exact ⟨p, q, rx.at.dp _ _ _ ex, ry.at.dp _ _ _ ey, h.1.1, h.1.2, k _ _ h.2 fun _ => rfl⟩
theorem sop_ne : Sop K (rNeD K) (dEq true) := by
  intro s H dx dy x y P Q rx ry h k
  unfold dEq at h
  cases ex : dx.py with
  | none =>
    rw [ex] at h
    exact h.elim
  | some p =>
    cases ey : dy.py with
    | none =>
      rw [ex, ey] at h
      exact h.elim
    | some q =>
      rw [ex, ey] at h
      exact ⟨p, q, rx.at.dp _ _ _ ex, ry.at.dp _ _ _ ey, h.1.1, h.1.2, k _ _ h.2 fun _ => rfl⟩
theorem pd_eq (hu : X.A.units + 64 < cLine) (ha : PE X a (lR X.K T E ta)) (hb : PE X b (lR X.K T E tb)) : PE X (.Compare a [.Eq] [b] pos) (lF X.K T E (t2 (dEq false) ta tb)) := pd_cmp (op_eqD hu) sop_eq ha hb (nomark _)
theorem pd_ne (hu : X.A.units + 64 < cLine) (ha : PE X a (lR X.K T E ta)) (hb : PE X b (lR X.K T E tb)) : PE X (.Compare a [.NotEq] [b] pos) (lF X.K T E (t2 (dEq true) ta tb)) := pd_cmp (op_neD hu) sop_ne ha hb (nomark _)
/-- is None -/
def D.isNon : D → Bool
  | .non => true
  | _ => false
def dIsN (neg : Bool) : D → D → (D → Prop) → Prop := fun x y P => match y with
  | .non => P (.bl (if neg then !x.isNon else x.isNon))
  | _ => False
theorem rp_non {G : Hp} : ∀ {d : D} {v : V} (_ : Rp K G d v), decide (v = .non) = d.isNon := by
  intro d v r
  cases d with
  | non => exact decide_eq_true r
  | bl b => exact decide_eq_false fun z => by cases (show v = .bl b from r).symm.trans z
  | int i => exact decide_eq_false fun z => by cases (show v = .int i from r).symm.trans z
  | str x => exact decide_eq_false fun z => by cases (show v = .str x from r).symm.trans z
  | ref a => exact decide_eq_false fun z => by cases (show v = .ref a from r).symm.trans z
  | kl ds =>
    obtain ⟨a, xs, e, _⟩ := r
    exact decide_eq_false fun z => by cases e.symm.trans z
  | kt ds =>
    obtain ⟨a, xs, e, _⟩ := r
    exact decide_eq_false fun z => by cases e.symm.trans z
  | tup ds =>
    obtain ⟨a, xs, e, _⟩ := r
    exact decide_eq_false fun z => by cases e.symm.trans z
  | lst ds =>
    obtain ⟨a, xs, e, _⟩ := r
    exact decide_eq_false fun z => by cases e.symm.trans z
  | dK ks ds =>
    obtain ⟨a, xs, e, _⟩ := r
    exact decide_eq_false fun z => by cases e.symm.trans z
  | dT ks ds =>
    obtain ⟨a, xs, e, _⟩ := r
    exact decide_eq_false fun z => by cases e.symm.trans z
theorem sop_isN : Sop K (fun x y H Q => y = .non ∧ Q (.bl (decide (x = .non))) H) (dIsN false) := by
  intro s H dx dy x y P Q rx ry h k
  unfold dIsN at h
  cases dy with
  | non =>
    refine ⟨ry, k _ _ h fun _ => ?_⟩
    show V.bl _ = V.bl _
    rw [rp_non rx] <;> rfl
  | _ => exact h.elim
theorem sop_notN : Sop K (fun x y H Q => y = .non ∧ Q (.bl (!decide (x = .non))) H) (dIsN true) := by
  intro s H dx dy x y P Q rx ry h k
  unfold dIsN at h
  cases dy with
  | non =>
    refine ⟨ry, k _ _ h fun _ => ?_⟩
    show V.bl _ = V.bl _
    rw [rp_non rx] <;> rfl
  | _ => exact h.elim
theorem pd_isN (ha : PE X a (lR X.K T E ta)) (hb : PE X b (lR X.K T E tb)) : PE X (.Compare a [.Is] [b] pos) (lF X.K T E (t2 (dIsN false) ta tb)) := pd_cmp op_isN sop_isN ha hb (nomark _)
theorem pd_notN (ha : PE X a (lR X.K T E ta)) (hb : PE X b (lR X.K T E tb)) : PE X (.Compare a [.IsNot] [b] pos) (lF X.K T E (t2 (dIsN true) ta tb)) := pd_cmp op_notN sop_notN ha hb (nomark _)
end
end Wn

set_option Elab.async false
set_option linter.all false
set_option maxRecDepth 100000
set_option maxHeartbeats 4000000
namespace Wn
open PySem L2
/-! ### tests -/
def tBl (t : TD) : TDB := fun δ P EP => t δ (fun d => match d with
  | .bl b => P b
  | _ => False) EP
def tAndB (t u : TDB) : TDB := fun δ P EP => t δ (fun b => match b with
  | true => u δ P EP
  | false => P false) EP
def tOrB (t u : TDB) : TDB := fun δ P EP => t δ (fun b => match b with
  | true => P true
  | false => u δ P EP) EP
def tNotB (t : TDB) : TDB := fun δ P EP => t δ (fun b => P (!b)) EP
def tBV (t : TDB) : TD := fun δ P EP => t δ (fun b => P (.bl b)) EP
def tAndD (t u : TD) : TD := fun δ P EP => t δ (fun d => match d with
  | .bl true => u δ P EP
  | .bl false => P (.bl false)
  | _ => False) EP
def tOrD (t u : TD) : TD := fun δ P EP => t δ (fun d => match d with
  | .bl true => P (.bl true)
  | .bl false => u δ P EP
  | _ => False) EP
def tNotD (t : TD) : TD := fun δ P EP => t δ (fun d => match d with
  | .bl b => P (.bl (!b))
  | _ => False) EP
def tNeg (t : TD) : TD := fun δ P EP => t δ (fun d => match d with
  | .int i => P (.int (-i))
  | _ => False) EP
def tIfE (c : TDB) (t u : TD) : TD := fun δ P EP => c δ (fun b => match b with
  | true => t δ P EP
  | false => u δ P EP) EP
def tIfL (c : TDB) (t u : TDL) : TDL := fun δ P EP => c δ (fun b => match b with
  | true => t δ P EP
  | false => u δ P EP) EP
section
variable {X : Cx} {K : PySem.W.Frag} {T : Tbl} {E : XK} {e a b c : Expr} {t ta tb : TD} {tA tB' : TDB} {pos : Pos} {rest : List Expr}
theorem pd_t (h : PE X e (lR K T E t)) (he : ∀ whole, isTrue e X.env whole = (do let v ← whole; standAt e.pos; holding [v] (truthy v)) := by intro _; rfl) : PT X e (lB K T E (tBl t)) :=
  pt_imp (pt_val h he) fun σ H Q ⟨δ, G0, H0, G, P, EP, L, ht, k⟩ => ⟨δ, G0, H0, G, _, EP, L, ht, fun d hd v H' g r => by
    cases d with
    | bl b => exact ⟨b, r, k b hd H' g⟩
    | _ => exact hd.elim⟩
/-- comparisons as tests -/
theorem pd_tcmp {op : CmpOp} {r : R2} {f : D → D → (D → Prop) → Prop} (ho : OpR X (compareOp op) r) (hs : Sop K r f) (ha : PE X a (lR K T E ta)) (hb : PE X b (lR K T E tb)) (hm : behindInMarks op b = false) : PT X (.Compare a [op] [b] pos) (lB K T E (tBl (t2 f ta tb))) :=
  pt_imp (pt_cmpR ho ha hb hm) fun σ H Q ⟨δ, G0, H0, G, P, EP, L, ht, k⟩ => two_run (r := r) (f := f) (Q := fun x H' => ∃ k, x = .bl k ∧ Q k H') hs ⟨δ, G0, H0, G, _, EP, L, ht, fun d hd v H' G' x r => by
    cases d with
    | bl b => exact ⟨b, r, k b hd H' x.gr⟩
    | _ => exact hd.elim⟩
theorem pd_tchain {op op' : CmpOp} {r r' : R2} {f f' : D → D → (D → Prop) → Prop} {tc : TD} (ho : OpR X (compareOp op) r) (ho' : OpR X (compareOp op') r') (hs : Sop K r f) (hs' : Sop K r' f') (ha : PE X a (lR K T E ta)) (hb : PE X b (lR K T E tb)) (hc : PE X c (lR K T E tc))
    (hm : lastMarks [op, op'] [b, c] = false := by with_unfolding_all rfl) : PT X (.Compare a [op, op'] [b, c] pos) (lB K T E (tBl (tCh f f' ta tb tc))) :=
  pt_imp (pt_chain ho ho' ha hb hc hm) fun σ H Q ⟨δ, G0, H0, G, P, EP, L, ht, k⟩ => chain_run (r := r) (r' := r') (f := f) (f' := f') (Q := fun x H' => ∃ k, x = .bl k ∧ Q k H') hs hs' ⟨δ, G0, H0, G, _, EP, L, ht, fun d hd v H' G' x r => by
    cases d with
    | bl b => exact ⟨b, r, k b hd H' x.gr⟩
    | _ => exact hd.elim⟩
theorem pd_tlt (ha : PE X a (lR K T E ta)) (hb : PE X b (lR K T E tb)) : PT X (.Compare a [.Lt] [b] pos) (lB K T E (tBl (t2 dLt ta tb))) := pd_tcmp op_lt (sopI0 fun _ _ _ => rfl) ha hb (nomark _)
theorem pd_tle (ha : PE X a (lR K T E ta)) (hb : PE X b (lR K T E tb)) : PT X (.Compare a [.LtE] [b] pos) (lB K T E (tBl (t2 dLe ta tb))) := pd_tcmp op_le (sopI0 fun _ _ _ => rfl) ha hb (nomark _)
theorem pd_tgt (ha : PE X a (lR K T E ta)) (hb : PE X b (lR K T E tb)) : PT X (.Compare a [.Gt] [b] pos) (lB K T E (tBl (t2 dGt ta tb))) := pd_tcmp op_gt (sopI0 fun _ _ _ => rfl) ha hb (nomark _)
theorem pd_tge (ha : PE X a (lR K T E ta)) (hb : PE X b (lR K T E tb)) : PT X (.Compare a [.GtE] [b] pos) (lB K T E (tBl (t2 dGe ta tb))) := pd_tcmp op_ge (sopI0 fun _ _ _ => rfl) ha hb (nomark _)
theorem pd_teq (hu : X.A.units + 64 < cLine) (ha : PE X a (lR X.K T E ta)) (hb : PE X b (lR X.K T E tb)) : PT X (.Compare a [.Eq] [b] pos) (lB X.K T E (tBl (t2 (dEq false) ta tb))) := pd_tcmp (op_eqD hu) sop_eq ha hb (nomark _)
theorem pd_tne (hu : X.A.units + 64 < cLine) (ha : PE X a (lR X.K T E ta)) (hb : PE X b (lR X.K T E tb)) : PT X (.Compare a [.NotEq] [b] pos) (lB X.K T E (tBl (t2 (dEq true) ta tb))) := pd_tcmp (op_neD hu) sop_ne ha hb (nomark _)
theorem pd_tisN (ha : PE X a (lR X.K T E ta)) (hb : PE X b (lR X.K T E tb)) : PT X (.Compare a [.Is] [b] pos) (lB X.K T E (tBl (t2 (dIsN false) ta tb))) := pd_tcmp op_isN sop_isN ha hb (nomark _)
theorem pd_tnotN (ha : PE X a (lR X.K T E ta)) (hb : PE X b (lR X.K T E tb)) : PT X (.Compare a [.IsNot] [b] pos) (lB X.K T E (tBl (t2 (dIsN true) ta tb))) := pd_tcmp op_notN sop_notN ha hb (nomark _)
theorem pd_tlele {tc : TD} (ha : PE X a (lR K T E ta)) (hb : PE X b (lR K T E tb)) (hc : PE X c (lR K T E tc)) (hm : lastMarks [CmpOp.LtE, CmpOp.LtE] [b, c] = false := by with_unfolding_all rfl) : PT X (.Compare a [.LtE, .LtE] [b, c] pos) (lB K T E (tBl (tCh dLe dLe ta tb tc))) :=
  pd_tchain op_le op_le (sopI0 fun _ _ _ => rfl) (sopI0 fun _ _ _ => rfl) ha hb hc hm
theorem pd_tltlt {tc : TD} (ha : PE X a (lR K T E ta)) (hb : PE X b (lR K T E tb)) (hc : PE X c (lR K T E tc)) (hm : lastMarks [CmpOp.Lt, CmpOp.Lt] [b, c] = false := by with_unfolding_all rfl) : PT X (.Compare a [.Lt, .Lt] [b, c] pos) (lB K T E (tBl (tCh dLt dLt ta tb tc))) :=
  pd_tchain op_lt op_lt (sopI0 fun _ _ _ => rfl) (sopI0 fun _ _ _ => rfl) ha hb hc hm
theorem pd_tltle {tc : TD} (ha : PE X a (lR K T E ta)) (hb : PE X b (lR K T E tb)) (hc : PE X c (lR K T E tc)) (hm : lastMarks [CmpOp.Lt, CmpOp.LtE] [b, c] = false := by with_unfolding_all rfl) : PT X (.Compare a [.Lt, .LtE] [b, c] pos) (lB K T E (tBl (tCh dLt dLe ta tb tc))) :=
  pd_tchain op_lt op_le (sopI0 fun _ _ _ => rfl) (sopI0 fun _ _ _ => rfl) ha hb hc hm
theorem pd_and1 (ha : PT X a (lB K T E tA)) : PW X (.BoolOp .And [a] pos) (lB K T E tA) := pw_and1 ha
theorem pd_or1 (ha : PT X a (lB K T E tA)) : PW X (.BoolOp .Or [a] pos) (lB K T E tA) := pw_or1 ha
theorem pd_and (ha : PT X a (lB K T E tA)) (hb : PW X (.BoolOp .And (b :: rest) pos) (lB K T E tB')) : PW X (.BoolOp .And (a :: b :: rest) pos) (lB K T E (tAndB tA tB')) :=
  pw_imp (pw_and ha hb) fun σ H Q ⟨δ, G0, H0, G, P, EP, L, ht, k⟩ => ⟨δ, G0, H0, G, _, EP, L, ht, fun c hc H1 g => by
    cases c with
    | true => exact iteT ⟨δ, G0, H0, G, P, EP, L.gr g, hc, fun b hb H' g' => k b hb H' (g.trans g')⟩
    | false => exact iteF (k _ hc H1 g)⟩
theorem pd_or (ha : PT X a (lB K T E tA)) (hb : PW X (.BoolOp .Or (b :: rest) pos) (lB K T E tB')) : PW X (.BoolOp .Or (a :: b :: rest) pos) (lB K T E (tOrB tA tB')) :=
  pw_imp (pw_or ha hb) fun σ H Q ⟨δ, G0, H0, G, P, EP, L, ht, k⟩ => ⟨δ, G0, H0, G, _, EP, L, ht, fun c hc H1 g => by
    cases c with
    | true => exact iteT (k _ hc H1 g)
    | false => exact iteF ⟨δ, G0, H0, G, P, EP, L.gr g, hc, fun b hb H' g' => k b hb H' (g.trans g')⟩⟩
theorem pd_notT (ha : PT X a (lB K T E tA)) : PT X (.UnaryOp .Not a pos) (lB K T E (tNotB tA)) :=
  pt_imp (pt_not ha) fun σ H Q ⟨δ, G0, H0, G, P, EP, L, ht, k⟩ => ⟨δ, G0, H0, G, _, EP, L, ht, fun c hc H1 g => k _ hc H1 g⟩
/-- and, or, not as values -/
theorem pd_one {op} (h : PE X a (lR K T E t)) : PE X (.BoolOp op [a] pos) (lR K T E t) := pe_one h
theorem pd_oneF {op} (h : PE X a (lF K T E t)) : PE X (.BoolOp op [a] pos) (lF K T E t) := pe_one h
theorem pd_andV (ha : PE X a (lR K T E ta)) (hb : PE X (.BoolOp .And (b :: rest) pos) (lF K T E tb)) : PE X (.BoolOp .And (a :: b :: rest) pos) (lF K T E (tAndD ta tb)) :=
  pe_imp (pe_and ha hb) fun σ H Q ⟨δ, G0, H0, G, P, EP, L, ht, k⟩ => ⟨δ, G0, H0, G, _, EP, L, ht, fun d hd v H1 g r => by
    cases d with
    | bl q =>
      refine ⟨q, r, ?_⟩
      cases q with
      | true => exact iteT ⟨δ, G0, H0, G, P, EP, L.gr g, hd, fun d' hd' v' H' G' x r' => k d' hd' v' H' G' ((Stp.of_gr L.rep.gv g).trans x) r'⟩
      | false => exact iteF (k _ hd _ H1 G (.of_gr L.rep.gv g) rfl)
    | _ => exact hd.elim⟩
theorem pd_orV (ha : PE X a (lR K T E ta)) (hb : PE X (.BoolOp .Or (b :: rest) pos) (lF K T E tb)) : PE X (.BoolOp .Or (a :: b :: rest) pos) (lF K T E (tOrD ta tb)) :=
  pe_imp (pe_or ha hb) fun σ H Q ⟨δ, G0, H0, G, P, EP, L, ht, k⟩ => ⟨δ, G0, H0, G, _, EP, L, ht, fun d hd v H1 g r => by
    cases d with
    | bl q =>
      refine ⟨q, r, ?_⟩
      cases q with
      | true => exact iteT (k _ hd _ H1 G (.of_gr L.rep.gv g) rfl)
      | false => exact iteF ⟨δ, G0, H0, G, P, EP, L.gr g, hd, fun d' hd' v' H' G' x r' => k d' hd' v' H' G' ((Stp.of_gr L.rep.gv g).trans x) r'⟩
    | _ => exact hd.elim⟩
theorem pd_notV (ha : PE X a (lR K T E ta)) : PE X (.UnaryOp .Not a pos) (lF K T E (tNotD ta)) :=
  pe_imp (pe_not ha) fun σ H Q ⟨δ, G0, H0, G, P, EP, L, ht, k⟩ => ⟨δ, G0, H0, G, _, EP, L, ht, fun d hd v H1 g r => by
    cases d with
    | bl q => exact ⟨q, r, k _ hd _ H1 G (.of_gr L.rep.gv g) rfl⟩
    | _ => exact hd.elim⟩
theorem pd_neg (ha : PE X a (lR K T E ta)) : PE X (.UnaryOp .USub a pos) (lF K T E (tNeg ta)) :=
  pe_imp (pe_un un_neg ha) fun σ H Q ⟨δ, G0, H0, G, P, EP, L, ht, k⟩ => ⟨δ, G0, H0, G, _, EP, L, ht, fun d hd v H1 g r => by
    cases d with
    | int q => exact ⟨q, r, k _ hd _ H1 G (.of_gr L.rep.gv g) rfl⟩
    | _ => exact hd.elim⟩
theorem pd_ifF (hc : PT X c (lB K T E tA)) (ha : PE X a (lF K T E ta)) (hb : PE X b (lF K T E tb)) : PE X (.IfExp c a b pos) (lF K T E (tIfE tA ta tb)) :=
  pe_imp (pe_ifExp hc ha hb) fun σ H Q ⟨δ, G0, H0, G, P, EP, L, ht, k⟩ => ⟨δ, G0, H0, G, _, EP, L, ht, fun c hc H1 g => by
    cases c with
    | true => exact iteT ⟨δ, G0, H0, G, P, EP, L.gr g, hc, fun d' hd' v' H' G' x r' => k d' hd' v' H' G' ((Stp.of_gr L.rep.gv g).trans x) r'⟩
    | false => exact iteF ⟨δ, G0, H0, G, P, EP, L.gr g, hc, fun d' hd' v' H' G' x r' => k d' hd' v' H' G' ((Stp.of_gr L.rep.gv g).trans x) r'⟩⟩
theorem pd_ifR (hc : PT X c (lB K T E tA)) (ha : PE X a (lR K T E ta)) (hb : PE X b (lR K T E tb)) : PE X (.IfExp c a b pos) (lR K T E (tIfE tA ta tb)) :=
  pe_imp (pe_ifExp hc ha hb) fun σ H Q ⟨δ, G0, H0, G, P, EP, L, ht, k⟩ => ⟨δ, G0, H0, G, _, EP, L, ht, fun c hc H1 g => by
    cases c with
    | true => exact iteT ⟨δ, G0, H0, G, P, EP, L.gr g, hc, fun d' hd' v' H' x r' => k d' hd' v' H' (g.trans x) r'⟩
    | false => exact iteF ⟨δ, G0, H0, G, P, EP, L.gr g, hc, fun d' hd' v' H' x r' => k d' hd' v' H' (g.trans x) r'⟩⟩
theorem pd_ifN {ta tb : TDL} (hc : PT X c (lB K T E tA)) (ha : PE X a (lN K T E ta)) (hb : PE X b (lN K T E tb)) : PE X (.IfExp c a b pos) (lN K T E (tIfL tA ta tb)) :=
  pe_imp (pe_ifExp hc ha hb) fun σ H Q ⟨δ, G0, H0, G, P, EP, L, ht, k⟩ => ⟨δ, G0, H0, G, _, EP, L, ht, fun c hc H1 g => by
    cases c with
    | true => exact iteT ⟨δ, G0, H0, G, P, EP, L.gr g, hc, fun d' hd' v' us H' G' x h1 h2 h3 r' => k d' hd' v' us H' G' ((Stp.of_gr L.rep.gv g).trans x) (g.none_of h1) h2 h3 r'⟩
    | false => exact iteF ⟨δ, G0, H0, G, P, EP, L.gr g, hc, fun d' hd' v' us H' G' x h1 h2 h3 r' => k d' hd' v' us H' G' ((Stp.of_gr L.rep.gv g).trans x) (g.none_of h1) h2 h3 r'⟩⟩
end
/-! ### arguments, displays -/
def tA0 : TDL := fun _ P _ => P []
def tA1 (t : TD) (r : TDL) : TDL := fun δ P EP => t δ (fun x => r δ (fun xs => P (x :: xs)) EP) EP
def tSize (t : TDL) : TDL := fun δ P EP => t δ (fun ds => match Nat.ble ds.length 100000 with
  | true => P ds
  | false => False) EP
def tTupD (t : TDL) : TD := fun δ P EP => tSize t δ (fun ds => P (.tup ds)) EP
theorem size_line {n : Nat} (h : Nat.ble n 100000 = true) : n ≤ sizeLine := Nat.le_trans (Nat.le_of_ble_eq_true h) (by decide)
section
variable {X : Cx} {K : PySem.W.Frag} {T : Tbl} {E : XK} {e : Expr} {es : List Expr} {t : TD} {r : TDL} {pos : Pos}
theorem pd_a0 : PA X [] (lA K T E tA0) := pa_imp pa_nil fun σ H Q ⟨δ, G0, H0, G, P, EP, L, ht, k⟩ => k [] ht [] H G (.refl L.rep.gv) rfl
theorem pd_a1 (h : PE X e (lF K T E t)) (hr : PA X es (lA K T E r)) (hs : starEach (e :: es) X.env = (false, eval e X.env) :: starEach es X.env := by rfl) : PA X (e :: es) (lA K T E (tA1 t r)) :=
  pa_imp (pa_cons h hr hs) fun σ H Q ⟨δ, G0, H0, G, P, EP, L, ht, k⟩ => ⟨δ, G0, H0, G, _, EP, L, ht, fun d hd v H1 G1 x1 r1 => ⟨δ, G0, H0, G1, _, EP, L.stp x1, hd, fun ds hds vs H2 G2 x2 r2 =>
    k _ hds _ H2 G2 (x1.trans x2) (.cons (r1.mono x2.gg) r2)⟩⟩
theorem pd_b0 : PA X [] (lAR K T E tA0) := pa_imp pa_nil fun σ H Q ⟨δ, G0, H0, G, P, EP, L, ht, k⟩ => k [] ht [] H .refl rfl
theorem pd_b1 (h : PE X e (lR K T E t)) (hr : PA X es (lAR K T E r)) (hs : starEach (e :: es) X.env = (false, eval e X.env) :: starEach es X.env := by rfl) : PA X (e :: es) (lAR K T E (tA1 t r)) :=
  pa_imp (pa_cons h hr hs) fun σ H Q ⟨δ, G0, H0, G, P, EP, L, ht, k⟩ => ⟨δ, G0, H0, G, _, EP, L, ht, fun d hd v H1 g1 r1 => ⟨δ, G0, H0, G, _, EP, L.gr g1, hd, fun ds hds vs H2 g2 r2 =>
    k _ hds _ H2 (g1.trans g2) (.cons (r1.mono g2.ex) r2)⟩⟩
theorem pd_tup {x1} (h : PA X es (lA K T E r)) : PE X (.Tuple es x1 pos) (lF K T E (tTupD r)) :=
  pe_imp (pe_tup h) fun σ H Q ⟨δ, G0, H0, G, P, EP, L, ht, k⟩ => ⟨δ, G0, H0, G, _, EP, L, ht, fun ds hds vs H1 G1 x1 r1 => by
    cases q : Nat.ble ds.length 100000 with
    | false =>
      rw [q] at hds
      exact hds.elim
    | true =>
      rw [q] at hds
      refine ⟨by rw [r1.len]; exact size_line q, fun p hp => ?_⟩
      have x2 : Stp T δ.s G1 (upd G1 p (.tup vs)) H1 (upd H1 p (.tup vs)) := (L.stp x1).rep.fresh hp fun ps z => by cases z
      exact k _ hds (.ref p) _ _ (x1.trans x2) ⟨p, vs, rfl, upd_same, r1.mono x2.gg⟩⟩
theorem pd_lst (h : PA X es (lA K T E r)) : PE X (.List es pos) (lN K T E (tSize r)) :=
  pe_imp (pe_lst h) fun σ H Q ⟨δ, G0, H0, G, P, EP, L, ht, k⟩ => ⟨δ, G0, H0, G, _, EP, L, ht, fun ds hds vs H1 G1 x1 r1 => by
    cases q : Nat.ble ds.length 100000 with
    | false =>
      rw [q] at hds
      exact hds.elim
    | true =>
      rw [q] at hds
      refine ⟨by rw [r1.len]; exact size_line q, fun p hp => ?_⟩
      have R1 := (L.stp x1).rep
      have g1 : G1 p = none := by
        cases z : G1 p with
        | none => rfl
        | some u =>
          have z2 := (vw_of (R1.gv _ _ z)).1
          rw [hp] at z2
          cases z2
      exact k _ hds p vs _ G1 (x1.trans (.of_gr R1.gv (.new hp))) (x1.gr.none_of hp) g1 upd_same r1⟩
end
/-! ### built-ins by values -/
/-- r on what is read as ds gives what f says, no object -/
def Cop (K : PySem.W.Frag) (r : List V → Hp → VK → Prop) (f : List D → (D → Prop) → Prop) : Prop :=
  ∀ (s : Option Addr) (H : Hp) (ds : List D) (vs : List V) (P : D → Prop) (Q : VK), RpA K (vw s H) ds vs → f ds P → (∀ d v, P d → (∀ G, Rp K G d v) → Q v H) → r vs H Q
def tCD (f : List D → (D → Prop) → Prop) (t : TDL) : TD := fun δ P EP => t δ (fun ds => f ds P) EP
section
variable {X : Cx} {K : PySem.W.Frag} {T : Tbl} {E : XK} {e : Expr} {es : List Expr} {t : TDL} {x : Str} {p pos : Pos} {id Ty : String} {r : List V → Hp → VK → Prop} {f : List D → (D → Prop) → Prop}
theorem cb_run {σ : L2.St} {H : Hp} {Q : VK} (hf : Cop K r f) (h : lF K T E (tCD f t) σ H Q) : tCB r (lAR K T E t) σ H Q := by
  obtain ⟨δ, G0, H0, G, P, EP, L, ht, k⟩ := h
  exact ⟨δ, G0, H0, G, _, EP, L, ht, fun ds hds vs H1 g1 r1 => hf δ.s H1 ds vs P Q r1 hds fun d v hd rr => k d hd v H1 G (.of_gr L.rep.gv g1) (rr G)⟩
theorem pd_cb (hc : CallR X (.builtin id) r) (hf : Cop K r f) (hg : Gl X x) (hm : X.mg x = none) (hv : bootBuiltins x = some (.builtin id)) (ha : PA X (e :: es) (lAR K T E t)) (hn : x ≠ "__name__" := by decide) (hdb : (x == ("__debug__" : Str)) = false := by decide)
    (he : starEach (e :: es) X.env = (false, eval e X.env) :: starEach es X.env := by rfl) (hpl : (backTo pos (starEach es X.env)).any (·.1) = false := by rfl) : PE X (.Call (.Name x p) (e :: es) [] pos) (lF K T E (tCD f t)) :=
  pe_imp (pe_callB hc hg hm hv ha hn hdb he hpl) fun _ _ _ h => cb_run hf h
theorem pd_ct (hc : CallR X (.type Ty) r) (hf : Cop K r f) (hg : Gl X x) (hm : X.mg x = none) (hv : bootBuiltins x = some (.type Ty)) (ha : PA X (e :: es) (lAR K T E t)) (hn : x ≠ "__name__" := by decide) (hdb : (x == ("__debug__" : Str)) = false := by decide)
    (he : starEach (e :: es) X.env = (false, eval e X.env) :: starEach es X.env := by rfl) (hpl : (backTo pos (starEach es X.env)).any (·.1) = false := by rfl) : PE X (.Call (.Name x p) (e :: es) [] pos) (lF K T E (tCD f t)) :=
  pe_imp (pe_callTy hc hg hm hv ha hn hdb he hpl) fun _ _ _ h => cb_run hf h
end
def fLen : List D → (D → Prop) → Prop := fun ds P => match ds with
  | [.lst xs] => P (.int xs.length)
  | [.tup xs] => P (.int xs.length)
  | [.kl xs] => P (.int xs.length)
  | [.kt xs] => P (.int xs.length)
  | [.str x] => x.length ≤ sizeLine ∧ P (.int x.length)
  | _ => False
def fAbs : List D → (D → Prop) → Prop := fun ds P => match ds with
  | [.int i] => P (.int (if i < 0 then -i else i))
  | _ => False
def fInt : List D → (D → Prop) → Prop := fun ds P => match ds with
  | [.int i] => P (.int i)
  | [.bl b] => P (.int (if b then 1 else 0))
  | _ => False
def fBool : List D → (D → Prop) → Prop := fun ds P => match ds with
  | [.int i] => P (.bl (i != 0))
  | [.bl b] => P (.bl b)
  | _ => False
def fStrI : List D → (D → Prop) → Prop := fun ds P => match ds with
  | [.int i] => i.natAbs.log2 < 1920 ∧ P (.str (toString i))
  | _ => False
def intsOf : List D → Option (List Int)
  | [] => some []
  | .int i :: ds => (intsOf ds).map (i :: ·)
  | _ => none
def blsOf : List D → Option (List Bool)
  | [] => some []
  | .bl i :: ds => (blsOf ds).map (i :: ·)
  | _ => none
theorem intsOf_map : ∀ ns : List Int, intsOf (ns.map D.int) = some ns
  | [] => rfl
  | n :: ns => by
    show (intsOf (ns.map D.int)).map (n :: ·) = _
    rw [intsOf_map ns] <;> rfl
theorem blsOf_map : ∀ ns : List Bool, blsOf (ns.map D.bl) = some ns
  | [] => rfl
  | n :: ns => by
    show (blsOf (ns.map D.bl)).map (n :: ·) = _
    rw [blsOf_map ns] <;> rfl
theorem of_intsOf : ∀ {ds : List D} {ns : List Int}, intsOf ds = some ns → ds = ns.map D.int
  | [], ns, h => by
    cases h
    rfl
  | d :: ds, ns, h => by
    cases d with
    | int i =>
      have h : (intsOf ds).map (i :: ·) = some ns := h
      cases q : intsOf ds with
      | none =>
        rw [q] at h
        cases h
      | some ms =>
        rw [q] at h
        cases h
        rw [of_intsOf q] <;> rfl
    | _ => cases h
theorem of_blsOf : ∀ {ds : List D} {ns : List Bool}, blsOf ds = some ns → ds = ns.map D.bl
  | [], ns, h => by
    cases h
    rfl
  | d :: ds, ns, h => by
    cases d with
    | bl i =>
      have h : (blsOf ds).map (i :: ·) = some ns := h
      cases q : blsOf ds with
      | none =>
        rw [q] at h
        cases h
      | some ms =>
        rw [q] at h
        cases h
        rw [of_blsOf q] <;> rfl
    | _ => cases h
/-- sum, of a list or a tuple of ints -/
def itemsD : D → Option (List D)
  | .lst xs => some xs
  | .tup xs => some xs
  | _ => none
def onInts (d : D) (k : List Int → Prop) : Prop := match itemsD d with
  | some xs => (match intsOf xs with
    | some ns => k ns
    | none => False)
  | none => False
def onBls (d : D) (k : List Bool → Prop) : Prop := match d with
  | .lst xs => (match blsOf xs with
    | some ns => k ns
    | none => False)
  | _ => False
theorem onInts_of {d : D} {k : List Int → Prop} (h : onInts d k) : ∃ ns, k ns ∧ (d = .lst (ns.map D.int) ∨ d = .tup (ns.map D.int)) := by
  unfold onInts at h
  cases q : itemsD d with
  | none =>
    rw [q] at h
    exact h.elim
  | some xs =>
    rw [q] at h
    have h : (match intsOf xs with | some ns => k ns | none => False) := h
    cases q2 : intsOf xs with
    | none =>
      rw [q2] at h
      exact h.elim
    | some ns =>
      rw [q2] at h
      have e := of_intsOf q2
      refine ⟨ns, h, ?_⟩
      cases d with
      | lst ys =>
        cases q
        rw [e]
        exact .inl rfl
      | tup ys =>
        cases q
        rw [e]
        exact .inr rfl
      | _ => cases q
theorem onBls_of {d : D} {k : List Bool → Prop} (h : onBls d k) : ∃ ns, k ns ∧ d = .lst (ns.map D.bl) := by
  unfold onBls at h
  cases d with
  | lst xs =>
    have h : (match blsOf xs with | some ns => k ns | none => False) := h
    cases q2 : blsOf xs with
    | none =>
      rw [q2] at h
      exact h.elim
    | some ns =>
      rw [q2] at h
      rw [of_blsOf q2]
      exact ⟨ns, h, rfl⟩
  | _ => exact h.elim
def fSum : List D → (D → Prop) → Prop := fun ds P => match ds with
  | [d] => onInts d fun ns => P (.int ns.sum)
  | _ => False
def fMax : List D → (D → Prop) → Prop := fun ds P => match ds with
  | [.lst xs] => onInts (.lst xs) fun ns => 0 < ns.length ∧ ∀ m, m ∈ ns → (∀ y, y ∈ ns → y ≤ m) → P (.int m)
  | [.int i, .int j] => P (.int (if j > i then j else i))
  | _ => False
def fMin : List D → (D → Prop) → Prop := fun ds P => match ds with
  | [.lst xs] => onInts (.lst xs) fun ns => 0 < ns.length ∧ ∀ m, m ∈ ns → (∀ y, y ∈ ns → m ≤ y) → P (.int m)
  | [.int i, .int j] => P (.int (if j < i then j else i))
  | _ => False
def fAll : List D → (D → Prop) → Prop := fun ds P => match ds with
  | [d] => onBls d fun ns => P (.bl (ns.all id))
  | _ => False
def fAny : List D → (D → Prop) → Prop := fun ds P => match ds with
  | [d] => onBls d fun ns => P (.bl (ns.any id))
  | _ => False
section
variable {K : PySem.W.Frag} {G : Hp}
theorem RpA.one {d : D} {vs : List V} (h : RpA K G [d] vs) : ∃ v, vs = [v] ∧ Rp K G d v := by
  obtain ⟨x, r, e, h1, h2⟩ := h
  rw [show r = [] from h2] at e
  exact ⟨x, e, h1⟩
theorem RpA.two {d d' : D} {vs : List V} (h : RpA K G [d, d'] vs) : ∃ v v', vs = [v, v'] ∧ Rp K G d v ∧ Rp K G d' v' := by
  obtain ⟨x, r, e, h1, h2⟩ := h
  obtain ⟨y, e2, h3⟩ := RpA.one h2
  rw [e2] at e
  exact ⟨x, y, e, h1, h3⟩
theorem cop_len : Cop K (fun xs H Q => ∃ x n, xs = [x] ∧ LenV K x H n ∧ Q (.int n) H) fLen := by
  intro s H ds vs P Q r h k
  unfold fLen at h
  split at h
  · obtain ⟨v, e, a, us, ev, h1, h2⟩ := RpA.one r
    refine ⟨v, _, e, ?_, k _ _ h fun _ => rfl⟩
    rw [ev]
    exact .inl ⟨us, .of (vw_sub _ _ h1), h2.len.symm⟩
  · obtain ⟨v, e, a, us, ev, h1, h2⟩ := RpA.one r
    refine ⟨v, _, e, ?_, k _ _ h fun _ => rfl⟩
    rw [ev]
    exact .inr ⟨us, .of (vw_sub _ _ h1), h2.len.symm⟩
  · obtain ⟨v, e, a, us, ev, h1, h2⟩ := RpA.one r
    refine ⟨v, _, e, ?_, k _ _ h fun _ => rfl⟩
    rw [ev]
    exact .inl ⟨us, sqL_vw h1, h2.len.symm⟩
  · obtain ⟨v, e, a, us, ev, h1, h2⟩ := RpA.one r
    refine ⟨v, _, e, ?_, k _ _ h fun _ => rfl⟩
    rw [ev]
    exact .inr ⟨us, sqT_vw h1, h2.len.symm⟩
  · obtain ⟨v, e, ev⟩ := RpA.one r
    refine ⟨v, _, e, ?_, k _ _ h.2 fun _ => rfl⟩
    rw [show v = _ from ev]
    exact ⟨h.1, rfl⟩
  · exact h.elim
theorem cop_abs : Cop K (fun xs H Q => ∃ i, xs = [.int i] ∧ Q (.int (if i < 0 then -i else i)) H) fAbs := by
  intro s H ds vs P Q r h k
  unfold fAbs at h
  split at h
  · obtain ⟨v, e, ev⟩ := RpA.one r
    exact ⟨_, by rw [e, show v = _ from ev], k _ _ h fun _ => rfl⟩
  · exact h.elim
theorem cop_int : Cop K (fun xs H Q => (∃ i, xs = [.int i] ∧ Q (.int i) H) ∨ ∃ k, xs = [.bl k] ∧ Q (.int (if k then 1 else 0)) H) fInt := by
  intro s H ds vs P Q r h k
  unfold fInt at h
  split at h
  · obtain ⟨v, e, ev⟩ := RpA.one r
    exact .inl ⟨_, by rw [e, show v = _ from ev], k _ _ h fun _ => rfl⟩
  · obtain ⟨v, e, ev⟩ := RpA.one r
    exact .inr ⟨_, by rw [e, show v = _ from ev], k _ _ h fun _ => rfl⟩
  · exact h.elim
theorem cop_bool : Cop K (fun xs H Q => (∃ i, xs = [.int i] ∧ Q (.bl (i != 0)) H) ∨ ∃ k, xs = [.bl k] ∧ Q (.bl k) H) fBool := by
  intro s H ds vs P Q r h k
  unfold fBool at h
  split at h
  · obtain ⟨v, e, ev⟩ := RpA.one r
    exact .inl ⟨_, by rw [e, show v = _ from ev], k _ _ h fun _ => rfl⟩
  · obtain ⟨v, e, ev⟩ := RpA.one r
    exact .inr ⟨_, by rw [e, show v = _ from ev], k _ _ h fun _ => rfl⟩
  · exact h.elim
theorem cop_strI : Cop K (fun xs H Q => ∃ i, xs = [.int i] ∧ i.natAbs.log2 < 1920 ∧ Q (.str (toString i)) H) fStrI := by
  intro s H ds vs P Q r h k
  unfold fStrI at h
  split at h
  · obtain ⟨v, e, ev⟩ := RpA.one r
    exact ⟨_, by rw [e, show v = _ from ev], h.1, k _ _ h.2 fun _ => rfl⟩
  · exact h.elim
def rSumT (K : PySem.W.Frag) : List V → Hp → VK → Prop := fun vs H Q => ∃ (a : Addr) (ns : List Int), vs = [V.ref a] ∧ SqT K H a (ns.map V.int) ∧ Q (.int ns.sum) H
theorem cr_sumT {X : Cx} (hc : X.calm = true) : CallR X (.builtin "sum") (rSumT X.K) := by
  intro pins s σ H vs us Q I r h
  obtain ⟨a, ns, rfl, hs, q⟩ := h
  obtain ⟨its, rv, hl, _⟩ := I.tuple hs
  rw [Vals.ref1 r]
  obtain ⟨xs, e⟩ := rv.ints.allInts.items
  have hn : numsOf (intItems xs).toList = ns := by
    rw [← e]
    exact rv.ints.numsOf
  rw [nums_intItems] at hn
  have hT : s.heap.IsTuple a (intItems xs) := by
    rw [← e]
    exact hl
  refine PySem.W.ktm_sumG (I.ok.hd hc) hT fun h' tk t' hk => ?_
  rw [preSum_eq, List.take_of_length_le (by simp), hn]
  exact ⟨.int _, H, I.kept hk, ⟨_, rfl⟩, q⟩
theorem cop_sum : Cop K (fun xs H Q => rSum K xs H Q ∨ rSumT K xs H Q) fSum := by
  intro s H ds vs P Q r h k
  unfold fSum at h
  split at h
  · obtain ⟨v, e, ev⟩ := RpA.one r
    obtain ⟨ns, hp, e2⟩ := onInts_of h
    rcases e2 with e2 | e2
    · subst e2
      obtain ⟨a, us, e3, h1, h2⟩ := ev
      exact .inl ⟨a, ns, by rw [e, e3], by rw [← h2.ints]; exact .of (vw_sub _ _ h1), k _ _ hp fun _ => rfl⟩
    · subst e2
      obtain ⟨a, us, e3, h1, h2⟩ := ev
      exact .inr ⟨a, ns, by rw [e, e3], by rw [← h2.ints]; exact .of (vw_sub _ _ h1), k _ _ hp fun _ => rfl⟩
  · exact h.elim
theorem cop_max : Cop K (fun xs H Q => rMax K xs H Q ∨ ∃ i j, xs = [.int i, .int j] ∧ Q (.int (if j > i then j else i)) H) fMax := by
  intro s H ds vs P Q r h k
  unfold fMax at h
  split at h
  · obtain ⟨v, e, ev⟩ := RpA.one r
    obtain ⟨ns, hp, e2⟩ := onInts_of h
    rcases e2 with e2 | e2
    · cases e2
      obtain ⟨a, us, e3, h1, h2⟩ := ev
      exact .inl ⟨a, ns, by rw [e, e3], by rw [← h2.ints]; exact .of (vw_sub _ _ h1), hp.1, fun m hm hy => k _ _ (hp.2 m hm hy) fun _ => rfl⟩
    · cases e2
  · obtain ⟨v, v', e, e1, e2⟩ := RpA.two r
    exact .inr ⟨_, _, by rw [e, show v = _ from e1, show v' = _ from e2], k _ _ h fun _ => rfl⟩
  · exact h.elim
theorem cop_min : Cop K (fun xs H Q => rMin K xs H Q ∨ ∃ i j, xs = [.int i, .int j] ∧ Q (.int (if j < i then j else i)) H) fMin := by
  intro s H ds vs P Q r h k
  unfold fMin at h
  split at h
  · obtain ⟨v, e, ev⟩ := RpA.one r
    obtain ⟨ns, hp, e2⟩ := onInts_of h
    rcases e2 with e2 | e2
    · cases e2
      obtain ⟨a, us, e3, h1, h2⟩ := ev
      exact .inl ⟨a, ns, by rw [e, e3], by rw [← h2.ints]; exact .of (vw_sub _ _ h1), hp.1, fun m hm hy => k _ _ (hp.2 m hm hy) fun _ => rfl⟩
    · cases e2
  · obtain ⟨v, v', e, e1, e2⟩ := RpA.two r
    exact .inr ⟨_, _, by rw [e, show v = _ from e1, show v' = _ from e2], k _ _ h fun _ => rfl⟩
  · exact h.elim
theorem cop_all : Cop K (rAll K) fAll := by
  intro s H ds vs P Q r h k
  unfold fAll at h
  split at h
  · obtain ⟨v, e, ev⟩ := RpA.one r
    obtain ⟨ns, hp, e2⟩ := onBls_of h
    subst e2
    obtain ⟨a, us, e3, h1, h2⟩ := ev
    exact ⟨a, ns, by rw [e, e3], by rw [← h2.bls]; exact .of (vw_sub _ _ h1), k _ _ hp fun _ => rfl⟩
  · exact h.elim
theorem cop_any : Cop K (rAny K) fAny := by
  intro s H ds vs P Q r h k
  unfold fAny at h
  split at h
  · obtain ⟨v, e, ev⟩ := RpA.one r
    obtain ⟨ns, hp, e2⟩ := onBls_of h
    subst e2
    obtain ⟨a, us, e3, h1, h2⟩ := ev
    exact ⟨a, ns, by rw [e, e3], by rw [← h2.bls]; exact .of (vw_sub _ _ h1), k _ _ hp fun _ => rfl⟩
  · exact h.elim
end
section
variable {X : Cx} {T : Tbl} {E : XK} {e : Expr} {es : List Expr} {t : TDL} {p pos : Pos}
theorem pd_len (hm : X.mg "len" = none) (ha : PA X (e :: es) (lAR X.K T E t)) (hg : Gl X "len" := by rfl) (he : starEach (e :: es) X.env = (false, eval e X.env) :: starEach es X.env := by rfl) (hpl : (backTo pos (starEach es X.env)).any (·.1) = false := by rfl) :
    PE X (.Call (.Name "len" p) (e :: es) [] pos) (lF X.K T E (tCD fLen t)) := pd_cb call_len cop_len hg hm (by decide +kernel) ha (by decide) (by decide) he hpl
theorem pd_abs (hm : X.mg "abs" = none) (ha : PA X (e :: es) (lAR X.K T E t)) (hg : Gl X "abs" := by rfl) (he : starEach (e :: es) X.env = (false, eval e X.env) :: starEach es X.env := by rfl) (hpl : (backTo pos (starEach es X.env)).any (·.1) = false := by rfl) :
    PE X (.Call (.Name "abs" p) (e :: es) [] pos) (lF X.K T E (tCD fAbs t)) := pd_cb call_abs cop_abs hg hm (by decide +kernel) ha (by decide) (by decide) he hpl
theorem pd_sum (hc : X.calm = true) (hm : X.mg "sum" = none) (ha : PA X (e :: es) (lAR X.K T E t)) (hg : Gl X "sum" := by rfl) (he : starEach (e :: es) X.env = (false, eval e X.env) :: starEach es X.env := by rfl) (hpl : (backTo pos (starEach es X.env)).any (·.1) = false := by rfl) :
    PE X (.Call (.Name "sum" p) (e :: es) [] pos) (lF X.K T E (tCD fSum t)) := pd_cb ((cr_sum hc).or (cr_sumT hc)) cop_sum hg hm (by decide +kernel) ha (by decide) (by decide) he hpl
theorem pd_max (hc : X.calm = true) (hm : X.mg "max" = none) (ha : PA X (e :: es) (lAR X.K T E t)) (hg : Gl X "max" := by rfl) (he : starEach (e :: es) X.env = (false, eval e X.env) :: starEach es X.env := by rfl) (hpl : (backTo pos (starEach es X.env)).any (·.1) = false := by rfl) :
    PE X (.Call (.Name "max" p) (e :: es) [] pos) (lF X.K T E (tCD fMax t)) := pd_cb ((cr_max hc).or (call_max2 hc)) cop_max hg hm (by decide +kernel) ha (by decide) (by decide) he hpl
theorem pd_min (hc : X.calm = true) (hm : X.mg "min" = none) (ha : PA X (e :: es) (lAR X.K T E t)) (hg : Gl X "min" := by rfl) (he : starEach (e :: es) X.env = (false, eval e X.env) :: starEach es X.env := by rfl) (hpl : (backTo pos (starEach es X.env)).any (·.1) = false := by rfl) :
    PE X (.Call (.Name "min" p) (e :: es) [] pos) (lF X.K T E (tCD fMin t)) := pd_cb ((cr_min hc).or (call_min2 hc)) cop_min hg hm (by decide +kernel) ha (by decide) (by decide) he hpl
theorem pd_all (hc : X.calm = true) (hm : X.mg "all" = none) (ha : PA X (e :: es) (lAR X.K T E t)) (hg : Gl X "all" := by rfl) (he : starEach (e :: es) X.env = (false, eval e X.env) :: starEach es X.env := by rfl) (hpl : (backTo pos (starEach es X.env)).any (·.1) = false := by rfl) :
    PE X (.Call (.Name "all" p) (e :: es) [] pos) (lF X.K T E (tCD fAll t)) := pd_cb (cr_all hc) cop_all hg hm (by decide +kernel) ha (by decide) (by decide) he hpl
theorem pd_any (hc : X.calm = true) (hm : X.mg "any" = none) (ha : PA X (e :: es) (lAR X.K T E t)) (hg : Gl X "any" := by rfl) (he : starEach (e :: es) X.env = (false, eval e X.env) :: starEach es X.env := by rfl) (hpl : (backTo pos (starEach es X.env)).any (·.1) = false := by rfl) :
    PE X (.Call (.Name "any" p) (e :: es) [] pos) (lF X.K T E (tCD fAny t)) := pd_cb (cr_any hc) cop_any hg hm (by decide +kernel) ha (by decide) (by decide) he hpl
theorem pd_intc (hm : X.mg "int" = none) (ha : PA X (e :: es) (lAR X.K T E t)) (hg : Gl X "int" := by rfl) (he : starEach (e :: es) X.env = (false, eval e X.env) :: starEach es X.env := by rfl) (hpl : (backTo pos (starEach es X.env)).any (·.1) = false := by rfl) :
    PE X (.Call (.Name "int" p) (e :: es) [] pos) (lF X.K T E (tCD fInt t)) := pd_ct call_int1 cop_int hg hm (by decide +kernel) ha (by decide) (by decide) he hpl
theorem pd_boolc (hm : X.mg "bool" = none) (ha : PA X (e :: es) (lAR X.K T E t)) (hg : Gl X "bool" := by rfl) (he : starEach (e :: es) X.env = (false, eval e X.env) :: starEach es X.env := by rfl) (hpl : (backTo pos (starEach es X.env)).any (·.1) = false := by rfl) :
    PE X (.Call (.Name "bool" p) (e :: es) [] pos) (lF X.K T E (tCD fBool t)) := pd_ct call_bool1 cop_bool hg hm (by decide +kernel) ha (by decide) (by decide) he hpl
theorem pd_strI (hm : X.mg "str" = none) (ha : PA X (e :: es) (lAR X.K T E t)) (hg : Gl X "str" := by rfl) (he : starEach (e :: es) X.env = (false, eval e X.env) :: starEach es X.env := by rfl) (hpl : (backTo pos (starEach es X.env)).any (·.1) = false := by rfl) :
    PE X (.Call (.Name "str" p) (e :: es) [] pos) (lF X.K T E (tCD fStrI t)) := pd_ct call_str_int cop_strI hg hm (by decide +kernel) ha (by decide) (by decide) he hpl
end
end Wn

set_option Elab.async false
set_option linter.all false
set_option maxRecDepth 100000
set_option maxHeartbeats 4000000
namespace Wn
open PySem L2
/-- the list's items stand still, the list may be the frame's own -/
def lL (K : PySem.W.Frag) (T : Tbl) (E : XK) (t : TDL) : TE := fun σ H Q => ∃ δ G0 H0 G P EP, Lv K T E G0 H0 G H σ δ EP ∧ t δ P EP ∧ ∀ ds, P ds → ∀ a us H' G', Stp T δ.s G G' H H' → vw δ.s H' a = some (.lst us) → RpA K G' ds us → Q (.ref a) H'
def tItl (t : TD) : TDL := fun δ P EP => t δ (fun d => match d with
  | .lst xs => P xs
  | _ => False) EP
def tOwn (i : Nat) : TDL := fun δ P _ => match δ.sl[i]? with
  | some (.ow xs) => P xs
  | some (.d (.lst xs)) => P xs
  | _ => False
section
variable {X : Cx} {K : PySem.W.Frag} {T : Tbl} {E : XK} {e : Expr} {pos : Pos} {t : TD} {tl : TDL}
theorem pd_FL (h : PE X e (lF K T E t)) : PE X e (lL K T E (tItl t)) :=
  pe_imp h fun σ H Q ⟨δ, G0, H0, G, P, EP, L, ht, k⟩ => ⟨δ, G0, H0, G, _, EP, L, ht, fun d hd v H' G' x r => by
    cases d with
    | lst xs =>
      obtain ⟨a, us, e, h1, h2⟩ := r
      rw [e]
      exact k xs hd a us H' G' x (x.gv _ _ h1) h2
    | _ => exact hd.elim⟩
theorem pd_NL (h : PE X e (lN K T E tl)) : PE X e (lL K T E tl) :=
  pe_imp h fun σ H Q ⟨δ, G0, H0, G, P, EP, L, ht, k⟩ => ⟨δ, G0, H0, G, _, EP, L, ht, fun ds hd a us H' G' x h1 h2 h3 r => by
    have sa : δ.s ≠ some a := fun z => by
      obtain ⟨p, q, e, _⟩ := L.rep.src a z
      rw [h1] at e
      cases e
    exact k ds hd a us H' G' x (vw_at h3 sa fun ps z => by cases z) r⟩
theorem pd_o (i : Nat) {x : Str} (hN : X.N[i]? = some x := by rfl) (hv : Vis X.env.scope x := by first | exact Or.inl rfl | exact Or.inr (Or.inl rfl) | exact Or.inr (Or.inr rfl)) (hd : (x == ("__debug__" : Str)) = false := by decide)
    (hcd : (x == ("__classdict__" : Str)) = false := by decide) : PE X (.Name x pos) (lL K T E (tOwn i)) :=
  pe_imp (pe_var hN hv hd hcd) fun σ H Q ⟨δ, G0, H0, G, P, EP, L, ht, k⟩ => by
    unfold tOwn at ht
    cases e : δ.sl[i]? with
    | none =>
      rw [e] at ht
      exact ht.elim
    | some o =>
      rw [e] at ht
      cases o with
      | d y =>
        cases y with
        | lst xs =>
          obtain ⟨v, h1, a, us, e2, h2, h3⟩ := rep_d L.rep e
          exact ⟨v, h1, by rw [e2]; exact k xs ht a us H G (.refl L.rep.gv) (L.rep.gv _ _ h2) h3⟩
        | _ => exact ht.elim
      | ow xs =>
        obtain ⟨v, h1, a, us, e2, q1, q2, q3, q4, q5⟩ := L.rep.sl i _ e
        exact ⟨.ref a, by rw [h1, e2], k xs ht a us H G (.refl L.rep.gv) (vw_at q4 q2 fun ps z => by cases z) q5⟩
      | _ => exact ht.elim
end
/-! ### isinstance of a built-in type -/
inductive Ty where
  | non | bl | int | str | tup | lst | dct
def Ty.nm : Ty → String
  | .non => "NoneType"
  | .bl => "bool"
  | .int => "int"
  | .str => "str"
  | .tup => "tuple"
  | .lst => "list"
  | .dct => "dict"
def D.ty : D → Option Ty
  | .non => some .non
  | .bl _ => some .bl
  | .int _ => some .int
  | .str _ => some .str
  | .tup _ => some .tup
  | .lst _ => some .lst
  | .dK _ _ => some .dct
  | .dT _ _ => some .dct
  | .ref _ => none
  | .kl _ => none
  | .kt _ => some .tup
def isTy : Ty → Ty → Bool
  | .non, .non => true
  | .bl, .bl => true
  | .bl, .int => true
  | .int, .int => true
  | .str, .str => true
  | .tup, .tup => true
  | .lst, .lst => true
  | .dct, .dct => true
  | _, _ => false
def Ty.asked : Ty → Bool
  | .non => false
  | .dct => false
  | _ => true
def tIs (k : Ty) (t : TD) : TD := fun δ P EP => t δ (fun d => match d.ty with
  | some a => P (.bl (isTy a k))
  | none => False) EP
section
variable {K : PySem.W.Frag} {s : Option Addr} {H : Hp}
theorem tyX_of {d : D} {v : V} {a : Ty} (r : Rp K (vw s H) d v) (h : d.ty = some a) : TyX K H v (.type a.nm) := by
  cases d with
  | non =>
    cases h
    rw [show v = _ from r]
    exact .base .non
  | bl b =>
    cases h
    rw [show v = _ from r]
    exact .base (.bl b)
  | int b =>
    cases h
    rw [show v = _ from r]
    exact .base (.int b)
  | str b =>
    cases h
    rw [show v = _ from r]
    exact .base (.str b)
  | ref b => cases h
  | kl ds => cases h
  | kt ds =>
    cases h
    obtain ⟨a, us, e, h1, _⟩ := r
    rw [e]
    rcases sqT_vw h1 with (z | ⟨o, z⟩) | ⟨o, its, n, z1, z2, _⟩
    · exact .base (.tup z)
    · exact .fTuple z
    · exact .kTuple z1 z2
  | tup ds =>
    cases h
    obtain ⟨a, us, e, h1, _⟩ := r
    rw [e]
    exact .base (.tup (vw_sub _ _ h1))
  | lst ds =>
    cases h
    obtain ⟨a, us, e, h1, _⟩ := r
    rw [e]
    exact .base (.lst (vw_sub _ _ h1))
  | dK ks ds =>
    cases h
    obtain ⟨a, us, e, h1, _⟩ := r
    rw [e]
    exact .base (.dK (vw_sub _ _ h1))
  | dT ks ds =>
    cases h
    obtain ⟨a, us, e, h1, _⟩ := r
    rw [e]
    exact .base (.dT (vw_sub _ _ h1))
end
theorem kitB_ok : ∀ (a b : Ty), b.asked = true → kitB a.nm b.nm = some (isTy a b) := by
  intro a b h
  cases b <;> first
    | (cases h; done)
    | (cases a <;> decide +kernel)
section
variable {X : Cx} {T : Tbl} {E : XK} {e : Expr} {p p2 pos : Pos} {t : TD} {Tn : Str}
theorem pd_isi (tn : Ty) (hm : X.mg "isinstance" = none) (hmT : X.mg Tn = none) (hv : bootBuiltins Tn = some (.type tn.nm)) (he : PE X e (lR X.K T E t)) (hT : tn.asked = true := by rfl) (hg : Gl X "isinstance" := by rfl) (hgT : Gl X Tn := by rfl) (hn : Tn ≠ "__name__" := by decide)
    (hdb : (Tn == ("__debug__" : Str)) = false := by decide) (hs : starEach [e, Expr.Name Tn p2] X.env = (false, eval e X.env) :: starEach [Expr.Name Tn p2] X.env := by rfl) (hs2 : starEach [Expr.Name Tn p2] X.env = (false, eval (Expr.Name Tn p2) X.env) :: starEach [] X.env := by rfl) (hpl : (backTo pos (starEach [Expr.Name Tn p2] X.env)).any (·.1) = false := by rfl) :
    PE X (.Call (.Name "isinstance" p) [e, .Name Tn p2] [] pos) (lF X.K T E (tIs tn t)) :=
  pe_imp (pe_callB call_isi hg hm (by decide +kernel) (pa_cons he (pa_cons (pe_bltn (v := .ty tn.nm) hgT hmT hv rfl hn hdb) pa_nil hs2) hs) (by decide) (by decide) hs hpl) fun σ H Q ⟨δ, G0, H0, G, P, EP, L, ht, k⟩ => ⟨δ, G0, H0, G, _, EP, L, ht, fun d hd v H1 g r => by
    cases q : d.ty with
    | none =>
      rw [q] at hd
      exact hd.elim
    | some a =>
      rw [q] at hd
      exact ⟨v, .ty tn.nm, .type a.nm, .type tn.nm, isTy a tn, rfl, .ty tn.nm, tyX_of r q, kit_ty (kitB_ok a tn hT), k _ hd _ H1 G (.of_gr L.rep.gv g) rfl⟩⟩
end
/-! ### in -/
def D.flat : D → Option V
  | .non => some .non
  | .bl b => some (.bl b)
  | .int i => some (.int i)
  | .str x => some (.str x)
  | _ => none
def flatsOf : List D → Option (List V)
  | [] => some []
  | d :: ds => match d.flat, flatsOf ds with
    | some v, some vs => some (v :: vs)
    | _, _ => none
theorem Rp.flat {K : PySem.W.Frag} {G : Hp} {d : D} {v u : V} (r : Rp K G d v) (h : d.flat = some u) : v = u ∧ flatV u = true := by
  cases d <;> first
    | (cases h; exact ⟨r, rfl⟩)
    | cases h
theorem RpA.flats {K : PySem.W.Frag} {G : Hp} : ∀ {ds : List D} {vs us : List V}, RpA K G ds vs → flatsOf ds = some us → vs = us ∧ us.all flatV = true
  | [], vs, us, h, e => by
    cases e
    exact ⟨h, rfl⟩
  | d :: ds, vs, us, ⟨x, r, e1, h1, h2⟩, e => by
    unfold flatsOf at e
    cases q1 : d.flat with
    | none =>
      rw [q1] at e
      cases e
    | some v =>
      rw [q1] at e
      cases q2 : flatsOf ds with
      | none =>
        rw [q2] at e
        cases e
      | some ws =>
        rw [q2] at e
        cases e
        obtain ⟨a1, a2⟩ := h1.flat q1
        obtain ⟨b1, b2⟩ := RpA.flats h2 q2
        rw [e1, a1, b1]
        exact ⟨rfl, by rw [List.all_cons, a2, b2] <;> rfl⟩
def itemsX : D → Option (List D)
  | .lst xs => some xs
  | .tup xs => some xs
  | .kl xs => some xs
  | .kt xs => some xs
  | _ => none
def dIn (neg : Bool) : D → D → (D → Prop) → Prop := fun x y P => match x.flat, (itemsX y).bind flatsOf with
  | some v, some vs => P (.bl (if neg then !inV v vs else inV v vs))
  | _, _ => False
theorem sop_in {K : PySem.W.Frag} {neg : Bool} : Sop K (rIn K neg) (dIn neg) := by
  intro s H dx dy x y P Q rx ry h k
  unfold dIn at h
  cases q1 : dx.flat with
  | none =>
    rw [q1] at h
    exact h.elim
  | some v =>
    cases q2 : (itemsX dy).bind flatsOf with
    | none =>
      rw [q1, q2] at h
      exact h.elim
    | some vs =>
      rw [q1, q2] at h
      obtain ⟨e1, f1⟩ := rx.flat q1
      obtain ⟨xs, q3, q4⟩ := Option.bind_eq_some_iff.mp q2
      rw [e1]
      cases dy with
      | lst ys =>
        cases q3
        obtain ⟨a, us, e, h1, h2⟩ := ry
        obtain ⟨e2, f2⟩ := h2.flats q4
        rw [e2] at h1
        exact ⟨a, vs, e, .inl (.of (vw_sub _ _ h1)), f1, f2, k _ _ h fun _ => rfl⟩
      | tup ys =>
        cases q3
        obtain ⟨a, us, e, h1, h2⟩ := ry
        obtain ⟨e2, f2⟩ := h2.flats q4
        rw [e2] at h1
        exact ⟨a, vs, e, .inr (.of (vw_sub _ _ h1)), f1, f2, k _ _ h fun _ => rfl⟩
      | kl ys =>
        cases q3
        obtain ⟨a, us, e, h1, h2⟩ := ry
        obtain ⟨e2, f2⟩ := h2.flats q4
        rw [e2] at h1
        exact ⟨a, vs, e, .inl (sqL_vw h1), f1, f2, k _ _ h fun _ => rfl⟩
      | kt ys =>
        cases q3
        obtain ⟨a, us, e, h1, h2⟩ := ry
        obtain ⟨e2, f2⟩ := h2.flats q4
        rw [e2] at h1
        exact ⟨a, vs, e, .inr (sqT_vw h1), f1, f2, k _ _ h fun _ => rfl⟩
      | _ => cases q3
section
variable {X : Cx} {T : Tbl} {E : XK} {a b : Expr} {pos : Pos} {ta tb : TD}
theorem pd_in (ha : PE X a (lR X.K T E ta)) (hb : PE X b (lR X.K T E tb)) (hm : behindInMarks .In b = false := by with_unfolding_all rfl) : PE X (.Compare a [.In] [b] pos) (lF X.K T E (t2 (dIn false) ta tb)) := pd_cmp op_in_seq sop_in ha hb hm
theorem pd_nin (ha : PE X a (lR X.K T E ta)) (hb : PE X b (lR X.K T E tb)) (hm : behindInMarks .NotIn b = false := by with_unfolding_all rfl) : PE X (.Compare a [.NotIn] [b] pos) (lF X.K T E (t2 (dIn true) ta tb)) := pd_cmp op_notIn_seq sop_in ha hb hm
theorem pd_tin (ha : PE X a (lR X.K T E ta)) (hb : PE X b (lR X.K T E tb)) (hm : behindInMarks .In b = false := by with_unfolding_all rfl) : PT X (.Compare a [.In] [b] pos) (lB X.K T E (tBl (t2 (dIn false) ta tb))) := pd_tcmp op_in_seq sop_in ha hb hm
theorem pd_tnin (ha : PE X a (lR X.K T E ta)) (hb : PE X b (lR X.K T E tb)) (hm : behindInMarks .NotIn b = false := by with_unfolding_all rfl) : PT X (.Compare a [.NotIn] [b] pos) (lB X.K T E (tBl (t2 (dIn true) ta tb))) := pd_tcmp op_notIn_seq sop_in ha hb hm
end
/-! ### subscripts -/
theorem RpA.atI {K : PySem.W.Frag} {G : Hp} {ds : List D} {vs : List V} {i : Int} {d : D} (r : RpA K G ds vs) (h : L2.atI ds i = some d) : ∃ v, L2.atI vs i = some v ∧ Rp K G d v := by
  unfold L2.atI at h ⊢
  obtain ⟨j, h1, h2⟩ := Option.bind_eq_some_iff.mp h
  obtain ⟨v, h3, h4⟩ := r.get h2
  exact ⟨v, by rw [r.len, h1]; exact h3, h4⟩
def dIx (x i : D) (P : D → Prop) : Prop := match itemsX x, i with
  | some xs, .int j => (match L2.atI xs j with
    | some d => P d
    | none => False)
  | _, _ => False
def tIx (ta tb : TD) : TD := fun δ P EP => ta δ (fun x => tb δ (fun i => dIx x i P) EP) EP
section
variable {X : Cx} {T : Tbl} {E : XK} {a b : Expr} {pos : Pos} {ta tb : TD} {K : PySem.W.Frag}
theorem ix_run {G H : Hp} {dx dy : D} {x y : V} {P : D → Prop} {Q : VK} {gv : Same G H} (rx : Rp K G dx x) (ry : Rp K H dy y) (h : dIx dx dy P) (k : ∀ d v, P d → Rp K G d v → Q v H) : rIxL K x y H Q ∨ rIxT K x y H Q := by
  unfold dIx at h
  cases q : itemsX dx with
  | none =>
    rw [q] at h
    exact h.elim
  | some xs =>
    rw [q] at h
    cases dy with
    | int j =>
      have h : (match L2.atI xs j with | some d => P d | none => False) := h
      cases q2 : L2.atI xs j with
      | none =>
        rw [q2] at h
        exact h.elim
      | some d =>
        rw [q2] at h
        cases dx with
        | lst ys =>
          cases q
          obtain ⟨p, us, e, h1, h2⟩ := rx
          obtain ⟨v, h3, h4⟩ := h2.atI q2
          exact .inl ⟨p, us, j, v, e, ry, .of (gv _ _ h1), h3, k d v h h4⟩
        | kl ys =>
          cases q
          obtain ⟨p, us, e, h1, h2⟩ := rx
          obtain ⟨v, h3, h4⟩ := h2.atI q2
          exact .inl ⟨p, us, j, v, e, ry, gv.seq h1, h3, k d v h h4⟩
        | kt ys =>
          cases q
          obtain ⟨p, us, e, h1, h2⟩ := rx
          obtain ⟨v, h3, h4⟩ := h2.atI q2
          exact .inr ⟨p, us, j, v, e, ry, same_seqT gv h1, h3, k d v h h4⟩
        | tup ys =>
          cases q
          obtain ⟨p, us, e, h1, h2⟩ := rx
          obtain ⟨v, h3, h4⟩ := h2.atI q2
          exact .inr ⟨p, us, j, v, e, ry, SqT.of (gv _ _ h1), h3, k d v h h4⟩
        | _ => cases q
    | _ => exact h.elim
theorem pd_ix (ha : PE X a (lF X.K T E ta)) (hb : PE X b (lR X.K T E tb)) (hs : PlainIx b := by intro _ _; rfl) : PE X (.Subscript a b pos) (lF X.K T E (tIx ta tb)) :=
  pe_imp (pe_ix (ix_list.or ix_tup) ha hb hs) fun σ H Q ⟨δ, G0, H0, G, P, EP, L, ht, k⟩ => ⟨δ, G0, H0, G, _, EP, L, ht, fun dx hx x H1 G1 x1 r1 => ⟨δ, G0, H0, G1, _, EP, L.stp x1, hx, fun dy hy y H2 g2 r2 =>
    ix_run (G := G1) (gv := fun b o e => vw_sub _ _ (g2.ex _ _ (x1.gv b o e))) r1 r2.at hy fun d v hd r => k d hd v H2 G1 (x1.trans (.of_gr x1.gv g2)) r⟩⟩
theorem pd_ixR (ha : PE X a (lR X.K T E ta)) (hb : PE X b (lR X.K T E tb)) (hs : PlainIx b := by intro _ _; rfl) : PE X (.Subscript a b pos) (lR X.K T E (tIx ta tb)) :=
  pe_imp (pe_ix (ix_list.or ix_tup) ha hb hs) fun σ H Q ⟨δ, G0, H0, G, P, EP, L, ht, k⟩ => ⟨δ, G0, H0, G, _, EP, L, ht, fun dx hx x H1 g1 r1 => ⟨δ, G0, H0, G, _, EP, L.gr g1, hx, fun dy hy y H2 g2 r2 =>
    ix_run (G := vw δ.s H2) (gv := vw_sub) (r1.mono g2.ex) r2.at hy fun d v hd r => k d hd v H2 (g1.trans g2) r⟩⟩
end
/-! ### slices -/
abbrev TDO := DE → (Option Int → Prop) → (Addr → Prop) → Prop
def lO (K : PySem.W.Frag) (T : Tbl) (E : XK) (t : TDO) : TO := fun σ H Q => ∃ δ G0 H0 G P EP, Lv K T E G0 H0 G H σ δ EP ∧ t δ P EP ∧ ∀ o, P o → ∀ H', Gr T δ.s H H' → Q o H'
def tO0 : TDO := fun _ P _ => P none
def tO1 (t : TD) : TDO := fun δ P EP => t δ (fun d => match d with
  | .int i => P (some i)
  | _ => False) EP
def cutD (xs : List D) (lo hi : Option Int) : List D := (xs.drop (HT.sIx xs.length 0 lo)).take (HT.sIx xs.length xs.length hi - HT.sIx xs.length 0 lo)
theorem RpA.cut {K : PySem.W.Frag} {G : Hp} {ds : List D} {vs : List V} (r : RpA K G ds vs) (lo hi : Option Int) : RpA K G (cutD ds lo hi) (cutV vs lo hi) := by
  unfold cutD cutV
  rw [r.len]
  exact (r.drop _).take _
def tSlL (te : TDL) (tl th : TDO) : TDL := fun δ P EP => te δ (fun xs => tl δ (fun lo => th δ (fun hi => P (cutD xs lo hi)) EP) EP) EP
def tSlT (te : TD) (tl th : TDO) : TD := fun δ P EP => te δ (fun x => tl δ (fun lo => th δ (fun hi => match x with
  | .tup xs => P (.tup (cutD xs lo hi))
  | _ => False) EP) EP) EP
section
variable {X : Cx} {T : Tbl} {E : XK} {e : Expr} {lo hi : Option Expr} {p2 pos : Pos} {K : PySem.W.Frag} {t : TD} {te : TDL} {tl th : TDO}
theorem pd_o0 : PO X none (lO K T E tO0) := ⟨fun pins s σ H Q I ⟨δ, G0, H0, G, P, EP, L, ht, k⟩ => po_none.run pins s σ H Q I (k none ht H .refl)⟩
theorem pd_o1 (h : PE X e (lR K T E t)) : PO X (some e) (lO K T E (tO1 t)) := ⟨fun pins s σ H Q I ⟨δ, G0, H0, G, P, EP, L, ht, k⟩ => (po_some h).run pins s σ H Q I ⟨δ, G0, H0, G, _, EP, L, ht, fun d hd v H' g r => by
  cases d with
  | int i => exact ⟨i, r, k _ hd H' g⟩
  | _ => exact hd.elim⟩⟩
theorem pd_slL (he : PE X e (lL X.K T E te)) (hl : PO X lo (lO X.K T E tl)) (hu : PO X hi (lO X.K T E th)) : PE X (.Subscript e (.Slice lo hi none p2) pos) (lN X.K T E (tSlL te tl th)) :=
  pe_imp (pe_slice sl_list he hl hu) fun σ H Q ⟨δ, G0, H0, G, P, EP, L, ht, k⟩ => ⟨δ, G0, H0, G, _, EP, L, ht, fun ds hd a us H1 G1 x1 e1 r1 => ⟨δ, G0, H0, G1, _, EP, L.stp x1, hd, fun l hl H2 g2 => ⟨δ, G0, H0, G1, _, EP, (L.stp x1).gr g2, hl, fun u hu H3 g3 =>
    ⟨a, us, rfl, .of (vw_sub _ _ (g3.ex _ _ (g2.ex _ _ e1))), fun p hp => by
      have R3 := (((L.stp x1).gr g2).gr g3).rep
      have gp : G1 p = none := by
        cases z : G1 p with
        | none => rfl
        | some u =>
          have z2 := (vw_of (R3.gv _ _ z)).1
          rw [hp] at z2
          cases z2
      have g23 := g2.trans g3
      exact k _ hu p _ _ G1 (x1.trans ((Stp.of_gr x1.gv g23).trans (.of_gr R3.gv (.new hp)))) ((x1.gr.trans g23).none_of hp) gp upd_same (r1.cut l u)⟩⟩⟩⟩
theorem pd_slT (he : PE X e (lF X.K T E t)) (hl : PO X lo (lO X.K T E tl)) (hu : PO X hi (lO X.K T E th)) : PE X (.Subscript e (.Slice lo hi none p2) pos) (lF X.K T E (tSlT t tl th)) :=
  pe_imp (pe_slice sl_tupA he hl hu) fun σ H Q ⟨δ, G0, H0, G, P, EP, L, ht, k⟩ => ⟨δ, G0, H0, G, _, EP, L, ht, fun d hd v H1 G1 x1 r1 => ⟨δ, G0, H0, G1, _, EP, L.stp x1, hd, fun l hl H2 g2 => ⟨δ, G0, H0, G1, _, EP, (L.stp x1).gr g2, hl, fun u hu H3 g3 => by
    cases d with
    | tup xs =>
      obtain ⟨a, us, e, h1, h2⟩ := r1
      have R3 := (((L.stp x1).gr g2).gr g3).rep
      have x3 : Stp T δ.s G G1 H H3 := x1.trans (.of_gr x1.gv (g2.trans g3))
      refine ⟨a, us, e, .of (vw_sub _ _ (R3.gv _ _ h1)), fun hw => ?_, fun hw p hp => ?_⟩
      · have ec : cutD xs l u = xs := by
          unfold cutD
          rw [← h2.len, hw.1, hw.2, List.drop_zero, Nat.sub_zero, h2.len, List.take_length]
        refine k _ hu (.ref a) H3 G1 x3 ⟨a, us, rfl, h1, ?_⟩
        rw [ec]
        exact h2
      · have x4 := R3.fresh (G := G1) (o := .tup (cutV us l u)) hp fun ps z => by cases z
        exact k _ hu (.ref p) _ _ (x3.trans x4) ⟨p, _, rfl, upd_same, (h2.cut l u).mono x4.gg⟩
    | _ => exact hu.elim⟩⟩⟩
def tRev (t : TDL) : TDL := fun δ P EP => t δ (fun xs => P xs.reverse) EP
/-- xs[::-1] of a list -/
theorem pd_rev {k : Nat} {p1 p3 : Pos} (he : PE X e (lL X.K T E te)) : PE X (.Subscript e (.Slice none none (some (.UnaryOp .USub (.Constant (.int 1) k p1) p2)) p3) pos) (lN X.K T E (tRev te)) :=
  pe_imp (pe_revL he) fun σ H Q ⟨δ, G0, H0, G, P, EP, L, ht, k⟩ => ⟨δ, G0, H0, G, _, EP, L, ht, fun ds hd a us H1 G1 x1 e1 r1 => ⟨a, us, rfl, .of (vw_sub _ _ e1), fun p hp => by
    have R1 := (L.stp x1).rep
    have gp : G1 p = none := by
      cases z : G1 p with
      | none => rfl
      | some u =>
        have z2 := (vw_of (R1.gv _ _ z)).1
        rw [hp] at z2
        cases z2
    exact k _ hd p _ _ G1 (x1.trans (.of_gr R1.gv (.new hp))) (x1.gr.none_of hp) gp upd_same r1.rev⟩⟩
end
/-! ### +, * of lists and tuples; list(), tuple() -/
def szOk (n : Nat) (p : Prop) : Prop := match Nat.ble n 100000 with
  | true => p
  | false => False
theorem szOk.get {n : Nat} {p : Prop} (h : szOk n p) : n ≤ sizeLine ∧ p := by
  unfold szOk at h
  cases q : Nat.ble n 100000 with
  | true =>
    rw [q] at h
    exact ⟨size_line q, h⟩
  | false =>
    rw [q] at h
    exact h.elim
theorem szOk.mk {n : Nat} {p : Prop} (h : n ≤ 100000) (q : p) : szOk n p := by
  unfold szOk
  rw [Nat.ble_eq_true_of_le h]
  exact q
def tCatL (ta tb : TDL) : TDL := fun δ P EP => ta δ (fun xs => tb δ (fun ys => szOk (xs.length + ys.length) (P (xs ++ ys))) EP) EP
def tRepL (ta : TDL) (tb : TD) : TDL := fun δ P EP => ta δ (fun xs => tb δ (fun d => match d with
  | .int k => (-(2 ^ 63) ≤ k ∧ k < 2 ^ 63) ∧ szOk (xs.length * k.toNat) (P (List.replicate k.toNat xs).flatten)
  | _ => False) EP) EP
def tCatT (ta tb : TD) : TD := fun δ P EP => ta δ (fun x => tb δ (fun y => match x, y with
  | .tup xs, .tup ys => szOk (xs.length + ys.length) (P (.tup (xs ++ ys)))
  | _, _ => False) EP) EP
section
variable {X : Cx} {T : Tbl} {E : XK} {a b : Expr} {pos : Pos} {K : PySem.W.Frag} {ta tb : TDL} {t u : TD}
theorem RpA.rep {G : Hp} {ds : List D} {vs : List V} (r : RpA K G ds vs) : ∀ n : Nat, RpA K G (List.replicate n ds).flatten (List.replicate n vs).flatten
  | 0 => rfl
  | n + 1 => by
    rw [List.replicate_succ, List.replicate_succ, List.flatten_cons, List.flatten_cons]
    exact r.app (RpA.rep r n)
theorem Rep.gnone {T : Tbl} {G0 H0 G H : Hp} {σ : L2.St} {δ : DE} (R : Rep K T G0 H0 G H σ δ) {p : Addr} (hp : H p = none) : G p = none := by
  cases z : G p with
  | none => rfl
  | some u =>
    have z2 := (vw_of (R.gv _ _ z)).1
    rw [hp] at z2
    cases z2
theorem pd_catL (ha : PE X a (lL X.K T E ta)) (hb : PE X b (lL X.K T E tb)) : PE X (.BinOp a .Add b pos) (lN X.K T E (tCatL ta tb)) :=
  pe_imp (pe_op op_cat ha hb) fun σ H Q ⟨δ, G0, H0, G, P, EP, L, ht, k⟩ => ⟨δ, G0, H0, G, _, EP, L, ht, fun xs hx l us H1 G1 x1 e1 r1 => ⟨δ, G0, H0, G1, _, EP, L.stp x1, hx, fun ys hy m ws H2 G2 x2 e2 r2 => by
    obtain ⟨z1, z2⟩ := hy.get
    have R2 := ((L.stp x1).stp x2).rep
    exact ⟨l, m, us, ws, rfl, rfl, vw_sub _ _ (x2.gr.ex _ _ e1), vw_sub _ _ e2, by rw [r1.len, r2.len]; exact z1, fun p hp =>
      k _ z2 p _ _ G2 ((x1.trans x2).trans (.of_gr R2.gv (.new hp))) ((x1.gr.trans x2.gr).none_of hp) (R2.gnone hp) upd_same ((r1.mono x2.gg).app r2)⟩⟩⟩
theorem pd_repL (ha : PE X a (lL X.K T E ta)) (hb : PE X b (lR X.K T E u)) : PE X (.BinOp a .Mult b pos) (lN X.K T E (tRepL ta u)) :=
  pe_imp (pe_op op_rep ha hb) fun σ H Q ⟨δ, G0, H0, G, P, EP, L, ht, k⟩ => ⟨δ, G0, H0, G, _, EP, L, ht, fun xs hx l us H1 G1 x1 e1 r1 => ⟨δ, G0, H0, G1, _, EP, L.stp x1, hx, fun d hd v H2 g2 r2 => by
    cases d with
    | int j =>
      obtain ⟨⟨b1, b2⟩, h3⟩ := hd
      obtain ⟨z1, z2⟩ := h3.get
      have R2 := ((L.stp x1).gr g2).rep
      exact ⟨l, j, us, rfl, r2, vw_sub _ _ (g2.ex _ _ e1), b1, b2, by rw [r1.len]; exact z1, fun p hp =>
        k _ z2 p _ _ G1 ((x1.trans (.of_gr x1.gv g2)).trans (.of_gr R2.gv (.new hp))) ((x1.gr.trans g2).none_of hp) (R2.gnone hp) upd_same (r1.rep _)⟩
    | _ => exact hd.elim⟩⟩
theorem pd_catT (ha : PE X a (lF X.K T E t)) (hb : PE X b (lF X.K T E u)) : PE X (.BinOp a .Add b pos) (lF X.K T E (tCatT t u)) :=
  pe_imp (pe_op op_catA ha hb) fun σ H Q ⟨δ, G0, H0, G, P, EP, L, ht, k⟩ => ⟨δ, G0, H0, G, _, EP, L, ht, fun dx hx x H1 G1 x1 r1 => ⟨δ, G0, H0, G1, _, EP, L.stp x1, hx, fun dy hy y H2 G2 x2 r2 => by
    cases dx with
    | tup xs =>
      cases dy with
      | tup ys =>
        obtain ⟨z1, z2⟩ := hy.get
        obtain ⟨p, us, e1, h1, q1⟩ := r1.mono x2.gg
        obtain ⟨m, ws, e2, h2, q2⟩ := r2
        have R2 := ((L.stp x1).stp x2).rep
        refine ⟨p, m, us, ws, e1, e2, .of (vw_sub _ _ (R2.gv _ _ h1)), .of (vw_sub _ _ (R2.gv _ _ h2)), by rw [q1.len, q2.len]; exact z1, fun n1 => ?_, fun n1 n2 => ?_, fun n1 n2 q hq => ?_⟩
        · have e : xs = [] := List.eq_nil_of_length_eq_zero (by rw [← q1.len, n1] <;> rfl)
          subst e
          exact k _ z2 _ H2 G2 (x1.trans x2) ⟨m, ws, rfl, h2, q2⟩
        · have e : ys = [] := List.eq_nil_of_length_eq_zero (by rw [← q2.len, n2] <;> rfl)
          subst e
          rw [List.append_nil] at z2
          exact k _ z2 _ H2 G2 (x1.trans x2) ⟨p, us, rfl, h1, q1⟩
        · have x3 := R2.fresh (G := G2) (o := .tup (us ++ ws)) hq fun ps z => by cases z
          exact k _ z2 _ _ _ ((x1.trans x2).trans x3) ⟨q, _, rfl, upd_same, (q1.app q2).mono x3.gg⟩
      | _ => exact hy.elim
    | _ => exact hy.elim⟩⟩
/-- t * k of a tuple, k at least 2 -/
def tRepT (ta tb : TD) : TD := fun δ P EP => ta δ (fun x => tb δ (fun y => match x, y with
  | .tup xs, .int k => (xs ≠ [] ∧ 2 ≤ k ∧ k ≤ 1000 ∧ xs.length ≤ 1000) ∧ P (.tup (List.replicate k.toNat xs).flatten)
  | _, _ => False) EP) EP
theorem pd_repT (ha : PE X a (lF X.K T E t)) (hb : PE X b (lR X.K T E u)) : PE X (.BinOp a .Mult b pos) (lF X.K T E (tRepT t u)) :=
  pe_imp (pe_op op_repT ha hb) fun σ H Q ⟨δ, G0, H0, G, P, EP, L, ht, k⟩ => ⟨δ, G0, H0, G, _, EP, L, ht, fun dx hx x H1 G1 x1 r1 => ⟨δ, G0, H0, G1, _, EP, L.stp x1, hx, fun dy hy y H2 g2 r2 => by
    cases dx with
    | tup xs =>
      cases dy with
      | int j =>
        obtain ⟨⟨b1, b2, b3, b4⟩, z2⟩ := hy
        obtain ⟨p, us, e1, h1, q1⟩ := r1
        have R2 := ((L.stp x1).gr g2).rep
        refine ⟨p, j, us, e1, r2, .of (vw_sub _ _ (R2.gv _ _ h1)), fun z => b1 (List.eq_nil_of_length_eq_zero (by rw [← q1.len, z] <;> rfl)), b2, b3, by rw [q1.len]; exact b4, fun q hq => ?_⟩
        have x3 := R2.fresh (G := G1) (o := .tup (List.replicate j.toNat us).flatten) hq fun ps z => by cases z
        exact k _ z2 _ _ _ ((x1.trans (.of_gr x1.gv g2)).trans x3) ⟨q, _, rfl, upd_same, (q1.rep _).mono x3.gg⟩
      | _ => exact hy.elim
    | _ => exact hy.elim⟩⟩
/-- one argument, the frame's own list -/
def lL1 (K : PySem.W.Frag) (T : Tbl) (E : XK) (t : TDL) : TA := tCons (lL K T E t) tNil
theorem pd_l1 (h : PE X a (lL K T E ta)) (hs : starEach [a] X.env = (false, eval a X.env) :: starEach [] X.env := by rfl) : PA X [a] (lL1 K T E ta) := pa_cons h pa_nil hs
/-- list(xs) of a list -/
theorem pd_listL {p : Pos} (hm : X.mg "list" = none) (h : PE X a (lL X.K T E ta)) (hg : Gl X "list" := by rfl) (hs : starEach [a] X.env = (false, eval a X.env) :: starEach [] X.env := by rfl) (hpl : (backTo pos (starEach [] X.env)).any (·.1) = false := by rfl) :
    PE X (.Call (.Name "list" p) [a] [] pos) (lN X.K T E ta) :=
  pe_imp (pe_callTy call_list_of hg hm (by decide +kernel) (pd_l1 h hs) (by decide) (by decide) hs hpl) fun σ H Q ⟨δ, G0, H0, G, P, EP, L, ht, k⟩ => ⟨δ, G0, H0, G, _, EP, L, ht, fun ds hd l us H1 G1 x1 e1 r1 => ⟨l, us, rfl, .inl (.of (vw_sub _ _ e1)), fun p hp =>
    k ds hd p _ _ G1 (x1.trans (.of_gr x1.gv (.new hp))) (x1.gr.none_of hp) ((L.stp x1).rep.gnone hp) upd_same r1⟩⟩
def tTupI (t : TD) : TDL := fun δ P EP => t δ (fun d => match d with
  | .tup xs => P xs
  | _ => False) EP
/-- list(t) of a tuple -/
theorem pd_listT {p : Pos} (hm : X.mg "list" = none) (h : PE X a (lF X.K T E t)) (hg : Gl X "list" := by rfl) (hs : starEach [a] X.env = (false, eval a X.env) :: starEach [] X.env := by rfl) (hpl : (backTo pos (starEach [] X.env)).any (·.1) = false := by rfl) :
    PE X (.Call (.Name "list" p) [a] [] pos) (lN X.K T E (tTupI t)) :=
  pe_imp (pe_callTy call_list_of hg hm (by decide +kernel) (pa_cons h pa_nil hs) (by decide) (by decide) hs hpl) fun σ H Q ⟨δ, G0, H0, G, P, EP, L, ht, k⟩ => ⟨δ, G0, H0, G, _, EP, L, ht, fun d hd v H1 G1 x1 r1 => by
    cases d with
    | tup xs =>
      obtain ⟨l, us, e, h1, h2⟩ := r1
      exact ⟨l, us, by rw [e], .inr (.of (vw_sub _ _ (x1.gv _ _ h1))), fun p hp =>
        k xs hd p _ _ G1 (x1.trans (.of_gr x1.gv (.new hp))) (x1.gr.none_of hp) ((L.stp x1).rep.gnone hp) upd_same h2⟩
    | _ => exact hd.elim⟩
/-- tuple(xs) of a list -/
def tTupL (t : TDL) : TD := fun δ P EP => t δ (fun xs => P (.tup xs)) EP
theorem pd_tupL {p : Pos} (hm : X.mg "tuple" = none) (h : PE X a (lL X.K T E ta)) (hg : Gl X "tuple" := by rfl) (hs : starEach [a] X.env = (false, eval a X.env) :: starEach [] X.env := by rfl) (hpl : (backTo pos (starEach [] X.env)).any (·.1) = false := by rfl) :
    PE X (.Call (.Name "tuple" p) [a] [] pos) (lF X.K T E (tTupL ta)) :=
  pe_imp (pe_callTy call_tuple_of hg hm (by decide +kernel) (pd_l1 h hs) (by decide) (by decide) hs hpl) fun σ H Q ⟨δ, G0, H0, G, P, EP, L, ht, k⟩ => ⟨δ, G0, H0, G, _, EP, L, ht, fun ds hd l us H1 G1 x1 e1 r1 => ⟨l, us, rfl, .inl ⟨.of (vw_sub _ _ e1), fun p hp => by
    have x2 := (L.stp x1).rep.fresh (G := G1) (o := .tup us) hp fun ps z => by cases z
    exact k _ hd _ _ _ (x1.trans x2) ⟨p, us, rfl, upd_same, r1.mono x2.gg⟩⟩⟩⟩
end
end Wn

set_option Elab.async false
set_option linter.all false
set_option maxRecDepth 100000
set_option maxHeartbeats 4000000
namespace Wn
open PySem L2
/-! ### promises by data -/
abbrev Fn := Option Addr → List D → (D → Prop) → (Addr → Prop) → Prop
abbrev FnL := Option Addr → List D → (List D → Prop) → (Addr → Prop) → Prop
def spD (K : PySem.W.Frag) (T : Tbl) (n : Nat) (φ : Fn) : Sp := fun vs H Q E => ∃ s G ds P EP, (∀ a, s = some a → Src a H) ∧ LamX.Tabs T H ∧ Same G (vw s H) ∧ RpA K G ds vs ∧ ds.length = n ∧ φ s ds P EP ∧
  (∀ d, P d → ∀ v H' G', Stp T s G G' H H' → Rp K G' d v → Q v H') ∧ ∀ c, EP c → ∀ H', Gr T s H H' → E (.ref c) none H'
def spN (K : PySem.W.Frag) (T : Tbl) (n : Nat) (φ : FnL) : Sp := fun vs H Q E => ∃ s G ds P EP, (∀ a, s = some a → Src a H) ∧ LamX.Tabs T H ∧ Same G (vw s H) ∧ RpA K G ds vs ∧ ds.length = n ∧ φ s ds P EP ∧
  (∀ es, P es → ∀ a us H' G', Stp T s G G' H H' → H a = none → G' a = none → H' a = some (.lst us) → RpA K G' es us → Q (.ref a) H') ∧ ∀ c, EP c → ∀ H', Gr T s H H' → E (.ref c) none H'
/-- the module's def x keeps a promise -/
structure Cl (P : Program) (w : World) (K : PySem.W.Frag) (mg : Str → Option Value) (base : Heap) (k : Nat) (x : Str) (sp : Sp) : Prop where
  ex : ∃ f fd ps, FnOk P w K mg base (L2N.CX P w) k f fd ps sp ∧ mg x = some (.ref f) ∧ PySem.W.keepIn K (.ref f) = true ∧ L2.Binds K fd ps []
def tCl (n : Nat) (φ : Fn) (t : TDL) : TD := fun δ P EP => t δ (fun ds => match Nat.beq ds.length n with
  | true => φ δ.s ds P EP
  | false => False) EP
def tClN (n : Nat) (φ : FnL) (t : TDL) : TDL := fun δ P EP => t δ (fun ds => match Nat.beq ds.length n with
  | true => φ δ.s ds P EP
  | false => False) EP
theorem pass_E0 {P : Program} {w : World} {X : Cx} (h1 : X.prog = P) (h2 : X.w = w) : Passes (L2N.CX P w) X E0 := by
  intro pins σ H s e s' I c
  obtain ⟨a, B, H', cls, d, _, _, _, _, _, _, _, q⟩ := c
  exact q.elim
section
variable {X : Cx} {K : PySem.W.Frag} {T : Tbl} {E : XK} {e : Expr} {es : List Expr} {x : Str} {p pos : Pos} {t : TDL} {n k j : Nat} {φ : Fn} {ψ : FnL}
theorem pd_cl (c : Cl X.prog X.w X.K X.mg X.base k x (spD X.K T n φ)) (hr : Room j X.A) (hk : k ≤ j) (hx : Passes (L2N.CX X.prog X.w) X E) (ha : PA X (e :: es) (lA X.K T E t)) (hg : Gl X x := by rfl) (hdb : (x == ("__debug__" : Str)) = false := by decide)
    (he : starEach (e :: es) X.env = (false, eval e X.env) :: starEach es X.env := by rfl) (hpl : (backTo pos (starEach es X.env)).any (·.1) = false := by rfl) : PE X (.Call (.Name x p) (e :: es) [] pos) (lF X.K T E (tCl n φ t)) := by
  obtain ⟨f, fd, ps, F, hm, kp, hb⟩ := c.ex
  refine pe_imp (pe_call F (hr.mono hk) hg hm kp hb .nil hx ha hdb he hpl) fun σ H Q ⟨δ, G0, H0, G, P, EP, L, ht, q⟩ => ⟨δ, G0, H0, G, _, EP, L, ht, fun ds hd vs H1 G1 x1 r1 => ?_⟩
  cases z : Nat.beq ds.length n with
  | false =>
    rw [z] at hd
    exact hd.elim
  | true =>
    rw [z] at hd
    rw [List.append_nil]
    have L1 := L.stp x1
    exact ⟨δ.s, G1, ds, P, EP, L1.rep.src, L1.rep.tab, x1.gv, r1, Nat.eq_of_beq_eq_true z, hd, fun d hd' v H' G' x2 r2 => q d hd' v H' G' (x1.trans x2) r2, fun c hc H' g => L1.ex c hc H' g⟩
/-- arguments that may be the frame's own -/
theorem pd_clR (c : Cl X.prog X.w X.K X.mg X.base k x (spD X.K T n φ)) (hr : Room j X.A) (hk : k ≤ j) (hx : Passes (L2N.CX X.prog X.w) X E) (ha : PA X (e :: es) (lAR X.K T E t)) (hg : Gl X x := by rfl) (hdb : (x == ("__debug__" : Str)) = false := by decide)
    (he : starEach (e :: es) X.env = (false, eval e X.env) :: starEach es X.env := by rfl) (hpl : (backTo pos (starEach es X.env)).any (·.1) = false := by rfl) : PE X (.Call (.Name x p) (e :: es) [] pos) (lR X.K T E (tCl n φ t)) := by
  obtain ⟨f, fd, ps, F, hm, kp, hb⟩ := c.ex
  refine pe_imp (pe_call F (hr.mono hk) hg hm kp hb .nil hx ha hdb he hpl) fun σ H Q ⟨δ, G0, H0, G, P, EP, L, ht, q⟩ => ⟨δ, G0, H0, G, _, EP, L, ht, fun ds hd vs H1 g1 r1 => ?_⟩
  cases z : Nat.beq ds.length n with
  | false =>
    rw [z] at hd
    exact hd.elim
  | true =>
    rw [z] at hd
    rw [List.append_nil]
    have L1 := L.gr g1
    exact ⟨δ.s, vw δ.s H1, ds, P, EP, L1.rep.src, L1.rep.tab, .refl _, r1, Nat.eq_of_beq_eq_true z, hd, fun d hd' v H' G' x2 r2 => q d hd' v H' (g1.trans x2.gr) (r2.mono x2.gv), fun c hc H' g => L1.ex c hc H' g⟩
theorem pd_clN (c : Cl X.prog X.w X.K X.mg X.base k x (spN X.K T n ψ)) (hr : Room j X.A) (hk : k ≤ j) (hx : Passes (L2N.CX X.prog X.w) X E) (ha : PA X (e :: es) (lA X.K T E t)) (hg : Gl X x := by rfl) (hdb : (x == ("__debug__" : Str)) = false := by decide)
    (he : starEach (e :: es) X.env = (false, eval e X.env) :: starEach es X.env := by rfl) (hpl : (backTo pos (starEach es X.env)).any (·.1) = false := by rfl) : PE X (.Call (.Name x p) (e :: es) [] pos) (lN X.K T E (tClN n ψ t)) := by
  obtain ⟨f, fd, ps, F, hm, kp, hb⟩ := c.ex
  refine pe_imp (pe_call F (hr.mono hk) hg hm kp hb .nil hx ha hdb he hpl) fun σ H Q ⟨δ, G0, H0, G, P, EP, L, ht, q⟩ => ⟨δ, G0, H0, G, _, EP, L, ht, fun ds hd vs H1 G1 x1 r1 => ?_⟩
  cases z : Nat.beq ds.length n with
  | false =>
    rw [z] at hd
    exact hd.elim
  | true =>
    rw [z] at hd
    rw [List.append_nil]
    have L1 := L.stp x1
    exact ⟨δ.s, G1, ds, P, EP, L1.rep.src, L1.rep.tab, x1.gv, r1, Nat.eq_of_beq_eq_true z, hd, fun d hd' a us H' G' x2 h1 h2 h3 r2 => q d hd' a us H' G' (x1.trans x2) (x1.gr.none_of h1) h2 h3 r2, fun c hc H' g => L1.ex c hc H' g⟩
end
/-! ### statements -/
structure DEnds where
  nx : DE → Prop
  rt : Option Addr → D → Prop
  rn : Option Addr → List D → Prop
  ex : Option Addr → Addr → Prop
  bk : DE → Prop := fun _ => False
  ct : DE → Prop := fun _ => False
abbrev TDS := DE → DEnds → Prop
structure Fits (K : PySem.W.Frag) (T : Tbl) (E : XK) (G0 H0 G : Hp) (D : Ends) (Z : DEnds) : Prop where
  nx : ∀ δ G' σ H, Same G G' → Rep K T G0 H0 G' H σ δ → Z.nx δ → D.nx σ H
  bk : ∀ δ G' σ H, Same G G' → Rep K T G0 H0 G' H σ δ → Z.bk δ → D.bk σ H
  ct : ∀ δ G' σ H, Same G G' → Rep K T G0 H0 G' H σ δ → Z.ct δ → D.ct σ H
  rt : ∀ s d, Z.rt s d → ∀ v G' H, Stp T s G0 G' H0 H → Rp K G' d v → D.rt v H
  rn : ∀ s ds, Z.rn s ds → ∀ a us G' H, Stp T s G0 G' H0 H → H0 a = none → G' a = none → s ≠ some a → H a = some (.lst us) → RpA K G' ds us → D.rt (.ref a) H
  ex : ∀ s c, Z.ex s c → ∀ H, Gr T s H0 H → E (.ref c) none H
def lS (K : PySem.W.Frag) (T : Tbl) (E : XK) (t : TDS) : TS := fun D σ H => ∃ δ G0 H0 G Z, Rep K T G0 H0 G H σ δ ∧ t δ Z ∧ Fits K T E G0 H0 G D Z
theorem Fits.up {K : PySem.W.Frag} {T : Tbl} {E : XK} {G0 H0 G G1 : Hp} {D : Ends} {Z : DEnds} (F : Fits K T E G0 H0 G D Z) (g : Same G G1) : Fits K T E G0 H0 G1 D Z :=
  ⟨fun δ G' σ H h => F.nx δ G' σ H (g.trans h), fun δ G' σ H h => F.bk δ G' σ H (g.trans h), fun δ G' σ H h => F.ct δ G' σ H (g.trans h), F.rt, F.rn, F.ex⟩
theorem Fits.lv {K : PySem.W.Frag} {T : Tbl} {E : XK} {G0 H0 G H : Hp} {σ : L2.St} {δ : DE} {D : Ends} {Z : DEnds} (F : Fits K T E G0 H0 G D Z) (R : Rep K T G0 H0 G H σ δ) : Lv K T E G0 H0 G H σ δ (Z.ex δ.s) :=
  ⟨R, fun c hc H' g => F.ex δ.s c hc H' (R.st.gr.trans g)⟩
def sqD (t u : TDS) : TDS := fun δ Z => t δ { Z with nx := fun δ' => u δ' Z }
def nxD : TDS := fun δ Z => Z.nx δ
section
variable {X : Cx} {K : PySem.W.Frag} {T : Tbl} {E : XK} {st : Stmt} {rest : List Stmt} {t u : TDS} {e : Expr} {pos : Pos}
theorem ps_imp {t t' : TS} (h : PS X st t) (i : ∀ D σ H, t' D σ H → t D σ H) : PS X st t' := ⟨fun pins s σ H D I q => h.run pins s σ H D I (i D σ H q)⟩
theorem pss_imp {sts : List Stmt} {t t' : TS} (h : PSs X sts t) (i : ∀ D σ H, t' D σ H → t D σ H) : PSs X sts t' := ⟨fun pins s σ H D I q => h.run pins s σ H D I (i D σ H q)⟩
theorem pd_nil : PSs X [] (lS K T E nxD) := pss_imp pss_nil fun D σ H ⟨δ, G0, H0, G, Z, R, h, F⟩ => F.nx δ G σ H (.refl _) R h
theorem pd_sq (h1 : PS X st (lS K T E t)) (h2 : PSs X rest (lS K T E u)) : PSs X (st :: rest) (lS K T E (sqD t u)) :=
  pss_imp (pss_cons h1 h2) fun D σ H ⟨δ, G0, H0, G, Z, R, h, F⟩ => ⟨δ, G0, H0, G, _, R, h, ⟨fun δ' G' σ' H' g R' h' => ⟨δ', G0, H0, G', Z, R', h', F.up g⟩, F.bk, F.ct, F.rt, F.rn, F.ex⟩⟩
theorem pd_s1 (h1 : PS X st (lS K T E t)) : PSs X [st] (lS K T E t) := pss_one h1
theorem pd_pass : PS X (.Pass pos) (lS K T E nxD) := ps_imp ps_pass fun D σ H ⟨δ, G0, H0, G, Z, R, h, F⟩ => F.nx δ G σ H (.refl _) R h
/-- the frame's own list in slot i stands still from now on -/
def fzD (i : Nat) (δ : DE) : DE := match δ.sl[i]? with
  | some (.ow xs) => δ.set i (.d (.lst xs))
  | some (.oK ks xs) => δ.set i (.d (.dK ks xs))
  | some (.oT ks xs) => δ.set i (.d (.dT ks xs))
  | _ => δ
def tFz (i : Nat) (t : TDS) : TDS := fun δ Z => t (fzD i δ) Z
theorem rep_fz {G0 H0 G H : Hp} {σ : L2.St} {δ : DE} (i : Nat) (R : Rep K T G0 H0 G H σ δ) : ∃ G', Same G G' ∧ Rep K T G0 H0 G' H σ (fzD i δ) := by
  unfold fzD
  cases e : δ.sl[i]? with
  | none => exact ⟨G, .refl _, R⟩
  | some o =>
    obtain ⟨v, h1, h2⟩ := R.sl i o e
    cases o with
    | no => exact ⟨G, .refl _, R⟩
    | d x => exact ⟨G, .refl _, R⟩
    | sr a => exact ⟨G, .refl _, R⟩
    | ow xs =>
      obtain ⟨a, us, ev, q1, q2, q3, q4, q5⟩ := h2
      rw [ev] at h1
      exact ⟨_, Wn.Same.new q3, R.fz e rfl h1 q1 q2 q3 q4 trivial ⟨a, us, rfl, upd_same, q5.mono (Wn.Same.new q3)⟩⟩
    | oK ks xs =>
      obtain ⟨a, us, ev, q1, q2, q3, q4, q6, q5⟩ := h2
      rw [ev] at h1
      exact ⟨_, Wn.Same.new q3, R.fz e rfl h1 q1 q2 q3 q4 trivial ⟨a, us, rfl, upd_same, q6, q5.mono (Wn.Same.new q3)⟩⟩
    | oT ks xs =>
      obtain ⟨a, us, ev, q1, q2, q3, q4, q6, q5⟩ := h2
      rw [ev] at h1
      exact ⟨_, Wn.Same.new q3, R.fz e rfl h1 q1 q2 q3 q4 trivial ⟨a, us, rfl, upd_same, q6, q5.mono (Wn.Same.new q3)⟩⟩
    | oA a xs => exact ⟨G, .refl _, R⟩
theorem pd_fz (i : Nat) (h : PS X st (lS K T E t)) : PS X st (lS K T E (tFz i t)) := ps_imp h fun D σ H ⟨δ, G0, H0, G, Z, R, h, F⟩ => by
  obtain ⟨G', g, R'⟩ := rep_fz i R
  exact ⟨_, G0, H0, G', Z, R', h, F.up g⟩
/-- an expression alone -/
def tEx (te : TD) : TDS := fun δ Z => te δ (fun _ => Z.nx δ) (Z.ex δ.s)
theorem pd_ex {te : TD} (he : PE X e (lR K T E te)) (hs : swapsWith e none pos.line X.env = pure false := by rfl) : PS X (.Expr e pos) (lS K T E (tEx te)) :=
  ps_imp (ps_expr he hs) fun D σ H ⟨δ, G0, H0, G, Z, R, h, F⟩ => ⟨δ, G0, H0, G, _, _, F.lv R, h, fun d hd v H' g r => F.nx δ G σ H' (.refl _) (R.gr g) hd⟩
/-- return -/
def tRt (te : TD) : TDS := fun δ Z => te δ (fun d => Z.rt δ.s d) (Z.ex δ.s)
theorem pd_rt {te : TD} (he : PE X e (lF K T E te)) : PS X (.Return (some e) pos) (lS K T E (tRt te)) :=
  ps_imp (ps_ret he) fun D σ H ⟨δ, G0, H0, G, Z, R, h, F⟩ => ⟨δ, G0, H0, G, _, _, F.lv R, h, fun d hd v H' G' x r => F.rt δ.s d hd v G' H' (R.st.trans x) r⟩
def tRn (te : TDL) : TDS := fun δ Z => te δ (fun ds => Z.rn δ.s ds) (Z.ex δ.s)
theorem pd_rn {te : TDL} (he : PE X e (lN K T E te)) : PS X (.Return (some e) pos) (lS K T E (tRn te)) :=
  ps_imp (ps_ret he) fun D σ H ⟨δ, G0, H0, G, Z, R, h, F⟩ => ⟨δ, G0, H0, G, _, _, F.lv R, h, fun ds hd a us H' G' x h1 h2 h3 r => by
    have sa : δ.s ≠ some a := fun z => by
      obtain ⟨p, q, e, _⟩ := R.src a z
      rw [h1] at e
      cases e
    exact F.rn δ.s ds hd a us G' H' (R.st.trans x) (R.st.gr.none_of h1) h2 sa h3 r⟩
/-- return found, the frame's own list -/
def tRo (i : Nat) : TDS := fun δ Z => match δ.sl[i]? with
  | some (.ow xs) => Z.rn δ.s xs
  | _ => False
theorem pd_ro (i : Nat) {x : Str} {p : Pos} (hN : X.N[i]? = some x := by rfl) (hv : Vis X.env.scope x := by first | exact Or.inl rfl | exact Or.inr (Or.inl rfl) | exact Or.inr (Or.inr rfl)) (hd : (x == ("__debug__" : Str)) = false := by decide)
    (hcd : (x == ("__classdict__" : Str)) = false := by decide) : PS X (.Return (some (.Name x p)) pos) (lS K T E (tRo i)) :=
  ps_imp (ps_ret (pe_var hN hv hd hcd)) fun D σ H ⟨δ, G0, H0, G, Z, R, h, F⟩ => by
    unfold tRo at h
    cases e : δ.sl[i]? with
    | none =>
      rw [e] at h
      exact h.elim
    | some o =>
      rw [e] at h
      cases o with
      | ow xs =>
        obtain ⟨v, h1, a, us, e2, q1, q2, q3, q4, q5⟩ := R.sl i _ e
        exact ⟨.ref a, by rw [h1, e2], F.rn δ.s xs h a us G H R.st q1 q3 q2 q4 q5⟩
      | _ => exact h.elim
/-- x = e -/
def tSet (i : Nat) (te : TD) : TDS := fun δ Z => te δ (fun d => Z.nx (δ.set i (.d d))) (Z.ex δ.s)
theorem pd_set (i : Nat) {x : Str} {te : TD} {pos' : Pos} (hN : X.N.Nodup) (he : PE X e (lF K T E te)) (hi : X.N[i]? = some x := by rfl) (hx : Loc X.env.scope x := by first | exact Or.inl rfl | exact Or.inr rfl) (hs : swapsWith e (some (.Name x pos')) pos.line X.env = pure false := by rfl)
    (hf : X.fn x = true ∨ X.env.scope.names.lookup x = some .local := by first | exact .inl rfl | exact .inr rfl) : PS X (.Assign [.Name x pos'] e pos) (lS K T E (tSet i te)) :=
  ps_imp (ps_set hN hi hx he hs hf) fun D σ H ⟨δ, G0, H0, G, Z, R, h, F⟩ => ⟨δ, G0, H0, G, _, _, F.lv R, h, fun d hd v H' G' x r => F.nx _ G' _ H' x.gg ((R.stp x).setD r) hd⟩
/-- x = a new list -/
def tSetN (i : Nat) (te : TDL) : TDS := fun δ Z => te δ (fun ds => Z.nx (δ.set i (.ow ds))) (Z.ex δ.s)
theorem rep_setN {G0 H0 G H G' H' : Hp} {σ : L2.St} {δ : DE} {i : Nat} {a : Addr} {us : List V} {ds : List D} (R : Rep K T G0 H0 G H σ δ) (x : Stp T δ.s G G' H H') (h1 : H a = none) (h2 : G' a = none) (h3 : H' a = some (.lst us)) (r : RpA K G' ds us) :
    Rep K T G0 H0 G' H' (σ.set i (some (.ref a))) (δ.set i (.ow ds)) := by
  have sa : δ.s ≠ some a := fun z => by
    obtain ⟨p, q, e, _⟩ := R.src a z
    rw [h1] at e
    cases e
  exact (R.stp x).setO ⟨a, us, rfl, R.st.gr.none_of h1, sa, h2, h3, r⟩ fun j _ hj => R.own_ne h1 j hj
theorem pd_setN (i : Nat) {x : Str} {te : TDL} {pos' : Pos} (hN : X.N.Nodup) (he : PE X e (lN K T E te)) (hi : X.N[i]? = some x := by rfl) (hx : Loc X.env.scope x := by first | exact Or.inl rfl | exact Or.inr rfl) (hs : swapsWith e (some (.Name x pos')) pos.line X.env = pure false := by rfl)
    (hf : X.fn x = true ∨ X.env.scope.names.lookup x = some .local := by first | exact .inl rfl | exact .inr rfl) : PS X (.Assign [.Name x pos'] e pos) (lS K T E (tSetN i te)) :=
  ps_imp (ps_set hN hi hx he hs hf) fun D σ H ⟨δ, G0, H0, G, Z, R, h, F⟩ => ⟨δ, G0, H0, G, _, _, F.lv R, h, fun ds hd a us H' G' x h1 h2 h3 r => F.nx _ G' _ H' x.gg (rep_setN R x h1 h2 h3 r) hd⟩
/-- if -/
def tIf (c : TDB) (t u : TDS) : TDS := fun δ Z => c δ (fun b => match b with
  | true => t δ Z
  | false => u δ Z) (Z.ex δ.s)
theorem pd_if {c : Expr} {a b : List Stmt} {tc : TDB} (hc : PT X c (lB K T E tc)) (ha : PSs X a (lS K T E t)) (hb : PSs X b (lS K T E u)) : PS X (.If c a b pos) (lS K T E (tIf tc t u)) :=
  ps_imp (ps_if hc ha hb) fun D σ H ⟨δ, G0, H0, G, Z, R, h, F⟩ => ⟨δ, G0, H0, G, _, _, F.lv R, h, fun b hb H' g => by
    cases b with
    | true => exact iteT ⟨δ, G0, H0, G, Z, R.gr g, hb, F⟩
    | false => exact iteF ⟨δ, G0, H0, G, Z, R.gr g, hb, F⟩⟩
/-- raise X('..') -/
def tRs (C : Addr) : TDS := fun δ Z => Z.ex δ.s C
theorem pd_rs {C : Addr} (hc : X.calm = true) (tk : L2N.Takes X fun cls d _ H => E cls d H) (he : L2N.PMk X e (fun _ H Q => Q (.ref C) none H)) : PS X (.Raise (some e) none pos) (lS K T E (tRs C)) :=
  ps_imp (L2N.ps_raise hc tk he) fun D σ H ⟨δ, G0, H0, G, Z, R, h, F⟩ => F.ex δ.s C h H R.st.gr
end
/-! ### targets -/
abbrev TGD := D → DE → (DE → Prop) → Prop
def setAll : List Nat → List D → DE → Option DE
  | [], [], δ => some δ
  | j :: js, d :: ds, δ => setAll js ds (δ.set j (.d d))
  | _, _, _ => none
def Agree (js : List Nat) (σ σ' : L2.St) : Prop := σ'.length = σ.length ∧ ∀ i, i ∉ js → σ'[i]? = σ[i]?
theorem Agree.refl {js : List Nat} {σ : L2.St} : Agree js σ σ := ⟨rfl, fun _ _ => rfl⟩
theorem Agree.set {js : List Nat} {σ σ' : L2.St} {j : Nat} {v : Option V} (a : Agree js σ σ') (hj : j ∈ js) : Agree js σ (σ'.set j v) := ⟨by rw [List.length_set]; exact a.1, fun i hi => by
  rw [List.getElem?_set_ne (fun z => hi (by rw [← z]; exact hj))]
  exact a.2 i hi⟩
theorem Agree.trans {js : List Nat} {σ σ1 σ2 : L2.St} (a : Agree js σ σ1) (b : Agree js σ1 σ2) : Agree js σ σ2 := ⟨b.1.trans a.1, fun i hi => (b.2 i hi).trans (a.2 i hi)⟩
theorem Agree.mono {js ks : List Nat} {σ σ1 : L2.St} (a : Agree js σ σ1) (h : ∀ i ∈ js, i ∈ ks) : Agree ks σ σ1 := ⟨a.1, fun i hi => a.2 i fun z => hi (h i z)⟩
def lG (K : PySem.W.Frag) (T : Tbl) (js : List Nat) (g : TGD) : TG := fun v σ H Q => ∃ δ G0 H0 G d P, Rep K T G0 H0 G H σ δ ∧ Rp K G d v ∧ g d δ P ∧ ∀ δ' σ', Rep K T G0 H0 G H σ' δ' → δ'.s = δ.s → Agree js σ σ' → P δ' → Q σ' H
def lGs (K : PySem.W.Frag) (T : Tbl) (js : List Nat) : TGs := fun vs σ H Q => ∃ δ G0 H0 G ds, ∃ P : DE → Prop, Rep K T G0 H0 G H σ δ ∧ RpA K G ds vs ∧ (∃ δ', setAll js ds δ = some δ' ∧ P δ') ∧ ∀ δ' σ', Rep K T G0 H0 G H σ' δ' → δ'.s = δ.s → Agree js σ σ' → P δ' → Q σ' H
def gN (j : Nat) : TGD := fun d δ P => P (δ.set j (.d d))
def gT (js : List Nat) : TGD := fun d δ P => match d with
  | .tup ds => (match setAll js ds δ with
    | some δ' => P δ'
    | none => False)
  | _ => False
section
variable {X : Cx} {K : PySem.W.Frag} {T : Tbl} {pos : Pos} {x : Str} {e : Expr} {es : List Expr} {js : List Nat}
theorem pg_imp {t t' : TG} (h : PG X e t) (i : ∀ v σ H Q, t' v σ H Q → t v σ H Q) : PG X e t' := ⟨fun pins s σ H v u Q I r q => h.run pins s σ H v u Q I r (i v σ H Q q)⟩
theorem pgs_imp {t t' : TGs} (h : PGs X es t) (i : ∀ v σ H Q, t' v σ H Q → t v σ H Q) : PGs X es t' := ⟨fun pins s σ H v u Q I r q => h.run pins s σ H v u Q I r (i v σ H Q q)⟩
theorem pd_gn (j : Nat) (hN : X.N.Nodup) (hi : X.N[j]? = some x := by rfl) (hx : Loc X.env.scope x := by first | exact Or.inl rfl | exact Or.inr rfl) (hf : X.fn x = true ∨ X.env.scope.names.lookup x = some .local := by first | exact .inl rfl | exact .inr rfl) :
    PG X (.Name x pos) (lG K T [j] (gN j)) :=
  pg_imp (pg_name hN hi hx hf) fun v σ H Q ⟨δ, G0, H0, G, d, P, R, r, h, k⟩ => k _ _ (R.setD r) rfl (Agree.refl.set (by simp)) h
theorem pd_gs0 : PGs X [] (lGs K T []) := pgs_imp pgs_nil fun vs σ H Q ⟨δ, G0, H0, G, ds, P, R, r, ⟨δ', h, hp⟩, k⟩ => by
  cases ds with
  | nil =>
    cases h
    exact ⟨r, k _ _ R rfl .refl hp⟩
  | cons d ds => cases h
theorem pd_gs1 (j : Nat) (hN : X.N.Nodup) (h2 : PGs X es (lGs K T js)) (hi : X.N[j]? = some x := by rfl) (hx : Loc X.env.scope x := by first | exact Or.inl rfl | exact Or.inr rfl) (hf : X.fn x = true ∨ X.env.scope.names.lookup x = some .local := by first | exact .inl rfl | exact .inr rfl)
    (hs : (assignEach (.Name x pos :: es) X.env).map (·.2) = assign (.Name x pos) X.env :: (assignEach es X.env).map (·.2) := by rfl) : PGs X (.Name x pos :: es) (lGs K T (j :: js)) :=
  pgs_imp (pgs_cons (pg_name hN hi hx hf) h2 hs) fun vs σ H Q ⟨δ, G0, H0, G, ds, P, R, r, ⟨δ', h, hp⟩, k⟩ => by
    cases ds with
    | nil => cases h
    | cons d ds =>
      obtain ⟨v, rs, e, r1, r2⟩ := r
      exact ⟨v, rs, e, _, G0, H0, G, ds, P, R.setD r1, r2, ⟨δ', h, hp⟩, fun δ' σ' R' hs a hp' => k δ' σ' R' hs (((Agree.refl (js := j :: js)).set (by simp)).trans (a.mono fun i hi => List.mem_cons_of_mem _ hi)) hp'⟩
theorem rd_gtup {K : PySem.W.Frag} {n : Nat} (hj : js.length = n) : ∀ v σ H Q, lG K T js (gT js) v σ H Q → L2.gTup K n (lGs K T js) v σ H Q :=
  fun v σ H Q ⟨δ, G0, H0, G, d, P, R, r, h, k⟩ => by
    unfold gT at h
    cases d with
    | tup ds =>
      obtain ⟨a, us, e, h1, h2⟩ := r
      have h : (match setAll js ds δ with | some δ' => P δ' | none => False) := h
      cases q : setAll js ds δ with
      | none =>
        rw [q] at h
        exact h.elim
      | some δ' =>
        rw [q] at h
        have hl : ∀ (js : List Nat) (ds : List D) (δ δ' : DE), setAll js ds δ = some δ' → ds.length = js.length := by
          intro js
          induction js with
          | nil =>
            intro ds δ δ' q
            cases ds with
            | nil => rfl
            | cons d ds => cases q
          | cons j js ih =>
            intro ds δ δ' q
            cases ds with
            | nil => cases q
            | cons d ds => rw [List.length_cons, List.length_cons, ih ds _ _ q]
        exact ⟨a, us, e, .of (vw_sub _ _ (R.gv _ _ h1)), by rw [h2.len, hl js ds δ δ' q, hj], δ, G0, H0, G, ds, P, R, h2, ⟨δ', q, h⟩, k⟩
    | _ => exact h.elim
theorem pd_gtup {kk n : Nat} (hc : X.calm = true) (h : PGs X es (lGs X.K T js)) (hj : js.length = n := by rfl) (hn : (assignEach es X.env).length = n := by rfl) (hst : (assignEach es X.env).findIdx? (·.1) = none := by rfl) : PG X (.Tuple es kk pos) (lG X.K T js (gT js)) :=
  pg_imp (pg_tup (n := n) hc h hn hst) (rd_gtup hj)
/-- targets = e -/
def tSetG (g : TGD) (te : TD) : TDS := fun δ Z => te δ (fun d => g d δ Z.nx) (Z.ex δ.s)
theorem pd_asg {E : XK} {tg : Expr} {te : TD} {g : TGD} (he : PE X e (lF K T E te)) (hg : PG X tg (lG K T js g)) (hs : swapsWithSole [tg] e pos.line X.env = pure false := by rfl) (hw : swappedStores [tg] e X.env = pure none := by rfl)
    (h1 : (assignEach [tg] X.env).map (·.2) = [assign tg X.env] := by rfl) : PS X (.Assign [tg] e pos) (lS K T E (tSetG g te)) :=
  ps_imp (ps_asg he hg hs hw h1) fun D σ H ⟨δ, G0, H0, G, Z, R, h, F⟩ => ⟨δ, G0, H0, G, _, _, F.lv R, h, fun d hd v H' G' x r => ⟨δ, G0, H0, G', d, Z.nx, R.stp x, r, hd, fun δ' σ' R' _ _ hz => F.nx δ' G' σ' H' x.gg R' hz⟩⟩
end
/-! ### loops -/
def loopD (g : TGD) (b : TDS) (Z : DEnds) : List D → DE → Prop
  | [], δ => Z.nx δ
  | x :: r, δ => g x δ fun δ' => b δ' { Z with nx := loopD g b Z r, ct := loopD g b Z r, bk := Z.nx }
def tForL (tl : TDL) (g : TGD) (b : TDS) : TDS := fun δ Z => tl δ (fun xs => loopD g b Z xs δ) (Z.ex δ.s)
def rgD (lo : Int) (n : Nat) : List D := (List.range n).map fun (k : Nat) => D.int (lo + k)
theorem rgD_get {lo : Int} {n i : Nat} (h : i < n) : (rgD lo n).drop i = D.int (lo + i) :: (rgD lo n).drop (i + 1) := by
  have hl : i < (rgD lo n).length := by
    unfold rgD
    rw [List.length_map, List.length_range]
    exact h
  have e : (rgD lo n)[i] = D.int (lo + i) := by simp [rgD]
  rw [List.drop_eq_getElem_cons hl, e]
theorem rgD_len (lo : Int) (n : Nat) : (rgD lo n).length = n := by
  unfold rgD
  rw [List.length_map, List.length_range]
section
variable {X : Cx} {T : Tbl} {E : XK} {tg it : Expr} {body : List Stmt} {pos p : Pos} {js : List Nat} {g : TGD} {b : TDS} {K : PySem.W.Frag} {te : TD} {tl : TDL}
theorem Fits.turn {G0 H0 G : Hp} {D : Ends} {Z : DEnds} {Pv : L2.St → Hp → Prop} {nz : DE → Prop} (F : Fits K T E G0 H0 G D Z) {G1 : Hp} (g1 : Same G G1) (h : ∀ δ G' σ H, Same G1 G' → Rep K T G0 H0 G' H σ δ → nz δ → Pv σ H) :
    Fits K T E G0 H0 G1 { D with nx := Pv, ct := Pv, bk := D.nx } { Z with nx := nz, ct := nz, bk := Z.nx } :=
  ⟨h, fun δ G' σ H s => F.nx δ G' σ H (g1.trans s), h, F.rt, F.rn, F.ex⟩
/-- over a list that stands still -/
theorem pd_for (hp : PassesOwn (model X.prog X.w) X.A X.env X.xe) (hc : X.calm = true) (hi : PE X it (lF X.K T E te)) (hg : PG X tg (lG X.K T js g)) (hb : PSs X body (lS X.K T E b)) (hs : ∀ x, foldedSetIterable it X.env x = pure x := by intro _; rfl) :
    PS X (.For tg it body [] pos) (lS X.K T E (tForL (tItl te) g b)) :=
  ps_imp (ps_for hp hc (pi_list hi) hg hb hs) fun D σ H ⟨δ, G0, H0, G, Z, R, h, F⟩ => ⟨δ, G0, H0, G, _, _, F.lv R, h, fun d hd v H1 G1 x1 r => by
    cases d with
    | lst ds =>
      obtain ⟨a, us, e, h1, h2⟩ := r
      have hd : loopD g b Z ds δ := hd
      refine ⟨a, e, ⟨us, .of (vw_sub _ _ (x1.gv _ _ h1))⟩, for_list (K := X.K) (a := a) (xs := us) (fun i σ' H' => ∃ δ' G', Same G G' ∧ Rep X.K T G0 H0 G' H' σ' δ' ∧ loopD g b Z (ds.drop i) δ' ∧ G' a = some (.lst us) ∧ RpA X.K G' ds us)
        ⟨δ, G1, x1.gg, R.stp x1, hd, h1, h2⟩ (fun i σ' H' _ ⟨δ', G', _, R', _, h', _⟩ => .of (vw_sub _ _ (R'.gv _ _ h'))) (fun i x σ' H' hx ⟨δ', G', gg, R', hl, ha, ra⟩ => ?_) fun σ' H' ⟨δ', G', gg, R', hl, ha, ra⟩ => ?_⟩
      · have hil : i < ds.length := by
          rw [← ra.len]
          exact (List.getElem?_eq_some_iff.mp hx).1
        rw [List.drop_eq_getElem_cons hil] at hl
        obtain ⟨y, hy, ry⟩ := ra.get (List.getElem?_eq_getElem hil)
        rw [hx] at hy
        cases hy
        exact ⟨δ', G0, H0, G', ds[i], _, R', ry, hl, fun δ2 σ2 R2 _ _ h2 => ⟨δ2, G0, H0, G', _, R2, h2, F.turn gg fun δ3 G3 σ3 H3 s3 R3 h3 => ⟨δ3, G3, gg.trans s3, R3, h3, s3 _ _ ha, ra.mono s3⟩⟩⟩
      · rw [ra.len, List.drop_length] at hl
        exact F.nx δ' G' σ' H' gg R' hl
    | _ => exact hd.elim⟩
/-- over a tuple -/
theorem pd_forT (hp : PassesOwn (model X.prog X.w) X.A X.env X.xe) (hc : X.calm = true) (hi : PE X it (lF X.K T E te)) (hg : PG X tg (lG X.K T js g)) (hb : PSs X body (lS X.K T E b)) (hs : ∀ x, foldedSetIterable it X.env x = pure x := by intro _; rfl) :
    PS X (.For tg it body [] pos) (lS X.K T E (tForL (tTupI te) g b)) :=
  ps_imp (ps_for hp hc (pi_tup hi) hg hb hs) fun D σ H ⟨δ, G0, H0, G, Z, R, h, F⟩ => ⟨δ, G0, H0, G, _, _, F.lv R, h, fun d hd v H1 G1 x1 r => by
    cases d with
    | tup ds =>
      obtain ⟨a, us, e, h1, h2⟩ := r
      have hd : loopD g b Z ds δ := hd
      refine ⟨a, e, ⟨us, .of (vw_sub _ _ (x1.gv _ _ h1))⟩, for_tup (K := X.K) (a := a) (xs := us) (fun i σ' H' => ∃ δ' G', Same G G' ∧ Rep X.K T G0 H0 G' H' σ' δ' ∧ loopD g b Z (ds.drop i) δ' ∧ G' a = some (.tup us) ∧ RpA X.K G' ds us)
        ⟨δ, G1, x1.gg, R.stp x1, hd, h1, h2⟩ (fun i σ' H' _ ⟨δ', G', _, R', _, h', _⟩ => .of (vw_sub _ _ (R'.gv _ _ h'))) (fun i x σ' H' hx ⟨δ', G', gg, R', hl, ha, ra⟩ => ?_) fun σ' H' ⟨δ', G', gg, R', hl, ha, ra⟩ => ?_⟩
      · have hil : i < ds.length := by
          rw [← ra.len]
          exact (List.getElem?_eq_some_iff.mp hx).1
        rw [List.drop_eq_getElem_cons hil] at hl
        obtain ⟨y, hy, ry⟩ := ra.get (List.getElem?_eq_getElem hil)
        rw [hx] at hy
        cases hy
        exact ⟨δ', G0, H0, G', ds[i], _, R', ry, hl, fun δ2 σ2 R2 _ _ h2 => ⟨δ2, G0, H0, G', _, R2, h2, F.turn gg fun δ3 G3 σ3 H3 s3 R3 h3 => ⟨δ3, G3, gg.trans s3, R3, h3, s3 _ _ ha, ra.mono s3⟩⟩⟩
      · rw [ra.len, List.drop_length] at hl
        exact F.nx δ' G' σ' H' gg R' hl
    | _ => exact hd.elim⟩
/-- over range(..) -/
def tRg1 (t : TDL) : TDL := fun δ P EP => t δ (fun ds => match ds with
  | [.int j] => (-(2 ^ 62) ≤ j ∧ j < 2 ^ 62) ∧ P (rgD 0 j.toNat)
  | _ => False) EP
def tRg2 (t : TDL) : TDL := fun δ P EP => t δ (fun ds => match ds with
  | [.int i, .int j] => (-(2 ^ 62) ≤ i ∧ i < 2 ^ 62 ∧ -(2 ^ 62) ≤ j ∧ j < 2 ^ 62) ∧ P (rgD i (j - i).toNat)
  | _ => False) EP
theorem rg_loop {G0 H0 G : Hp} {D : Ends} {Z : DEnds} {σ : L2.St} {H1 : Hp} {δ : DE} {lo : Int} {n : Nat} (F : Fits K T E G0 H0 G D Z) (R : Rep K T G0 H0 G H1 σ δ) (h : loopD g b Z (rgD lo n) δ) :
    ∃ W : Nat → Nat → L2.St → Hp → Prop, (∃ m, W 0 m σ H1) ∧ ∀ i m σ H, W i m σ H →
      ((Itr lo n).stop i H ∧ D.nx σ H) ∨ ((Itr lo n).go i H ∧ ∃ N : L2.St → Hp → Prop, (∀ σ' H', N σ' H' → ∃ m', m' < m ∧ W (i + 1) m' σ' H') ∧ ∀ x H', (Itr lo n).yld i H x H' → lG K T js g x σ H' fun σ2 H2 => lS K T E b { D with nx := N, ct := N, bk := D.nx } σ2 H2) :=
  for_range (fun i σ' H' => ∃ δ' G', Same G G' ∧ Rep K T G0 H0 G' H' σ' δ' ∧ loopD g b Z ((rgD lo n).drop i) δ') ⟨δ, G, .refl _, R, h⟩ (fun i σ' H' hi ⟨δ', G', gg, R', hl⟩ => by
    rw [rgD_get hi] at hl
    exact ⟨δ', G0, H0, G', .int (lo + i), _, R', rfl, hl, fun δ2 σ2 R2 _ _ h2 => ⟨δ2, G0, H0, G', _, R2, h2, F.turn gg fun δ3 G3 σ3 H3 s3 R3 h3 => ⟨δ3, G3, gg.trans s3, R3, h3⟩⟩⟩) fun σ' H' ⟨δ', G', gg, R', hl⟩ => by
    rw [List.drop_eq_nil_of_le (by rw [rgD_len]; exact Nat.le_refl _)] at hl
    exact F.nx δ' G' σ' H' gg R' hl
theorem pd_forR1 {a : Expr} {ta : TDL} {p2 : Pos} (hp : PassesOwn (model X.prog X.w) X.A X.env X.xe) (hc : X.calm = true) (hm : X.mg "range" = none) (ha : PA X [a] (lAR X.K T E ta)) (hg : PG X tg (lG X.K T js g)) (hb : PSs X body (lS X.K T E b)) (hgr : Gl X "range" := by rfl)
    (hs1 : starEach [a] X.env = [(false, eval a X.env)] := by rfl) (hs : ∀ x, foldedSetIterable (.Call (.Name "range" p) [a] [] p2) X.env x = pure x := by intro _; rfl) : PS X (.For tg (.Call (.Name "range" p) [a] [] p2) body [] pos) (lS X.K T E (tForL (tRg1 ta) g b)) :=
  ps_imp (ps_for hp hc (pi_range1 hgr hm ha hs1) hg hb hs) fun D σ H ⟨δ, G0, H0, G, Z, R, h, F⟩ => ⟨δ, G0, H0, G, _, _, F.lv R, h, fun ds hd vs H1 g1 r => by
    split at hd
    · obtain ⟨v, e, ev⟩ := RpA.one r
      exact ⟨_, by rw [e, show v = _ from ev], hd.1.1, hd.1.2, rg_loop F (R.gr g1) hd.2⟩
    · exact hd.elim⟩
theorem pd_forR2 {a a2 : Expr} {ta : TDL} {p2 : Pos} (hp : PassesOwn (model X.prog X.w) X.A X.env X.xe) (hc : X.calm = true) (hm : X.mg "range" = none) (ha : PA X [a, a2] (lAR X.K T E ta)) (hg : PG X tg (lG X.K T js g)) (hb : PSs X body (lS X.K T E b)) (hgr : Gl X "range" := by rfl)
    (hs1 : starEach [a, a2] X.env = [(false, eval a X.env), (false, eval a2 X.env)] := by rfl) (hs2 : starEach [a2] X.env = [(false, eval a2 X.env)] := by rfl) (hs : ∀ x, foldedSetIterable (.Call (.Name "range" p) [a, a2] [] p2) X.env x = pure x := by intro _; rfl) : PS X (.For tg (.Call (.Name "range" p) [a, a2] [] p2) body [] pos) (lS X.K T E (tForL (tRg2 ta) g b)) :=
  ps_imp (ps_for hp hc (pi_range2 hgr hm ha hs1 hs2) hg hb hs) fun D σ H ⟨δ, G0, H0, G, Z, R, h, F⟩ => ⟨δ, G0, H0, G, _, _, F.lv R, h, fun ds hd vs H1 g1 r => by
    split at hd
    · obtain ⟨v, v', e, e1, e2⟩ := RpA.two r
      exact ⟨_, _, by rw [e, show v = _ from e1, show v' = _ from e2], hd.1, rg_loop F (R.gr g1) hd.2⟩
    · exact hd.elim⟩
end
end Wn

set_option Elab.async false
set_option linter.all false
set_option maxRecDepth 100000
set_option maxHeartbeats 4000000
namespace Wn
open PySem PySem.Spec PyProof.Rows L2
/-! ### a def by its body -/
def startD (N : List Str) (ds : List D) : List Slot := ds.map Slot.d ++ List.replicate (N.length - ds.length) Slot.no
def bodyF (N : List Str) (b : TDS) : Fn := fun s ds P EP => b ⟨s, startD N ds⟩ { nx := fun δ' => δ'.s = s ∧ P .non, rt := fun s' d => s' = s ∧ P d, rn := fun s' ds => s' = s ∧ P (.lst ds), ex := fun s' c => s' = s ∧ EP c }
def bodyN (N : List Str) (b : TDS) : FnL := fun s ds P EP => b ⟨s, startD N ds⟩ { nx := fun _ => False, rt := fun _ _ => False, rn := fun s' ds => s' = s ∧ P ds, ex := fun s' c => s' = s ∧ EP c }
theorem rep_start {K : PySem.W.Frag} {T : Tbl} {G H : Hp} {s : Option Addr} {ds : List D} {vs : List V} {N : List Str} (src : ∀ a, s = some a → Src a H) (tab : LamX.Tabs T H) (gv : Same G (vw s H)) (r : RpA K G ds vs) : Rep K T G H G H (L2.start N vs) ⟨s, startD N ds⟩ := by
  have noown : ∀ i, isOwn (startD N ds)[i]? = false := fun i => by
    unfold startD
    by_cases c : i < (ds.map Slot.d).length
    · rw [List.getElem?_append_left c, List.getElem?_map]
      cases ds[i]? <;> rfl
    · rw [List.getElem?_append_right (by omega)]
      cases e : (List.replicate (N.length - ds.length) Slot.no)[i - (ds.map Slot.d).length]? with
      | none => rfl
      | some o =>
        have z := List.eq_of_mem_replicate (List.mem_of_getElem? e)
        rw [z] <;> rfl
  refine ⟨.refl gv, src, tab, ?_, fun i o h => ?_, fun i j a _ h1 => ?_⟩
  · show (L2.start N vs).length = (startD N ds).length
    unfold L2.start startD
    simp [r.len]
  · have h : (startD N ds)[i]? = some o := h
    unfold startD at h
    unfold L2.start
    by_cases c : i < ds.length
    · rw [List.getElem?_append_left (by rw [List.length_map]; exact c), List.getElem?_map, List.getElem?_eq_getElem c] at h
      have h : some (Slot.d ds[i]) = some o := h
      cases h
      obtain ⟨v, hv, rv⟩ := r.get (List.getElem?_eq_getElem c)
      refine ⟨some v, ?_, v, rfl, rv⟩
      rw [List.getElem?_append_left (by rw [List.length_map, r.len]; exact c), List.getElem?_map, hv] <;> rfl
    · rw [List.getElem?_append_right (by rw [List.length_map]; omega)] at h
      have z := List.eq_of_mem_replicate (List.mem_of_getElem? h)
      have hl : i - (ds.map Slot.d).length < N.length - ds.length := by
        have q := (List.getElem?_eq_some_iff.mp h).1
        rw [List.length_replicate] at q
        exact q
      rw [List.length_map] at hl
      refine ⟨none, ?_, by rw [z]; trivial⟩
      rw [List.getElem?_append_right (by rw [List.length_map, r.len]; omega), List.length_map, r.len, List.getElem?_replicate, if_pos hl]
  · have z := noown i
    have h1 : isOwn (startD N ds)[i]? = true := h1
    rw [z] at h1
    cases h1
section
variable {P : Program} {w : World} {K : PySem.W.Frag} {T : Tbl} {mg : Str → Option Value} {base : Heap} {x qual : Str} {st : Stmt} {f : Addr} {fd : FuncData} {N ps : List Str} {k n : Nat} {b : TDS}
theorem fn_okX {sp : Sp} (F : L2.Fun K x qual st f fd) (S : FnScope N ps (defScope st)) (len : ∀ vs H Q E, sp vs H Q E → vs.length = ps.length)
    (hbody : ∀ (cdv : Value) (A : Around) (outer : List Env) (s : Shared) (H : Hp) (vs : List V) (Q : VK) (E : XK), Room k (A.deeper (envOfC qual (defScope st) s.heap.objs.size f cdv)) → sp vs H Q E →
      ∃ t, PSs (cxOf (L2N.CX P w) P w K mg base N qual (defScope st) f cdv A outer s H E) (defBody st) t ∧ t { nx := fun _ H' => Q .non H', rt := Q } (L2.start N vs) H) : FnOk P w K mg base (L2N.CX P w) (k + 1) f fd ps sp := by
  obtain ⟨oc, od, kV, doc, pm, an, cdv, ct, osl, rfl, lk, hcd⟩ := F.ex
  exact fn_of lk hcd S len fun A outer s H vs Q E hr hsp => hbody cdv A outer s H vs Q E hr hsp
theorem fn_D (F : L2.Fun K x qual st f fd) (S : FnScope N ps (defScope st)) (hn : ps.length = n) (hb : ∀ (cdv : Value) (A : Around) (outer : List Env) (s : Shared) (H : Hp) (E : XK), Room k (A.deeper (envOfC qual (defScope st) s.heap.objs.size f cdv)) →
      PSs (cxOf (L2N.CX P w) P w K mg base N qual (defScope st) f cdv A outer s H E) (defBody st) (lS K T E b)) : FnOk P w K mg base (L2N.CX P w) (k + 1) f fd ps (spD K T n (bodyF N b)) := by
  refine fn_okX F S (fun vs H Q E ⟨s, G, ds, P, EP, _, _, _, r, hl, _⟩ => by rw [r.len, hl, hn]) fun cdv A outer s0 H vs Q E hr ⟨s, G, ds, P, EP, src, tab, gv, r, hl, h, k1, k2⟩ => ⟨_, hb cdv A outer s0 H E hr, ?_⟩
  refine ⟨⟨s, startD N ds⟩, G, H, G, _, rep_start src tab gv r, h, ⟨fun δ G' σ H' _ R hz => ?_, fun δ G' σ H' _ R hz => hz.elim, fun δ G' σ H' _ R hz => hz.elim, fun s' d hz v G' H' x r' => ?_, fun s' es hz a us G' H' x h1 h2 h4 h3 r' => ?_, fun s' c hz H' g => ?_⟩⟩
  · obtain ⟨e, hp⟩ := hz
    exact k1 _ hp .non H' G' (by rw [← e]; exact R.st) rfl
  · obtain ⟨e, hp⟩ := hz
    exact k1 d hp v H' G' (by rw [← e]; exact x) r'
  · obtain ⟨e, hp⟩ := hz
    rw [e] at x h4
    refine k1 _ hp (.ref a) H' (upd G' a (.lst us)) ⟨x.gr, x.gg.trans (Wn.Same.new h2), fun c o e => ?_, fun c hc => ?_⟩ ⟨a, us, rfl, upd_same, r'.mono (Wn.Same.new h2)⟩
    · by_cases ca : c = a
      · rw [ca, upd_same] at e
        cases e
        rw [ca]
        exact vw_at h3 h4 fun ps z => by cases z
      · rw [upd_ne ca] at e
        exact x.gv c o e
    · by_cases ca : c = a
      · rw [ca]
        exact .inr h1
      · rw [upd_ne ca] at hc
        exact x.nw c hc
  · obtain ⟨e, hp⟩ := hz
    exact k2 c hp H' (by rw [← e]; exact g)
theorem fn_N (F : L2.Fun K x qual st f fd) (S : FnScope N ps (defScope st)) (hn : ps.length = n) (hb : ∀ (cdv : Value) (A : Around) (outer : List Env) (s : Shared) (H : Hp) (E : XK), Room k (A.deeper (envOfC qual (defScope st) s.heap.objs.size f cdv)) →
      PSs (cxOf (L2N.CX P w) P w K mg base N qual (defScope st) f cdv A outer s H E) (defBody st) (lS K T E b)) : FnOk P w K mg base (L2N.CX P w) (k + 1) f fd ps (spN K T n (bodyN N b)) := by
  refine fn_okX F S (fun vs H Q E ⟨s, G, ds, P, EP, _, _, _, r, hl, _⟩ => by rw [r.len, hl, hn]) fun cdv A outer s0 H vs Q E hr ⟨s, G, ds, P, EP, src, tab, gv, r, hl, h, k1, k2⟩ => ⟨_, hb cdv A outer s0 H E hr, ?_⟩
  refine ⟨⟨s, startD N ds⟩, G, H, G, _, rep_start src tab gv r, h, ⟨fun δ G' σ H' _ R hz => hz.elim, fun δ G' σ H' _ R hz => hz.elim, fun δ G' σ H' _ R hz => hz.elim, fun s' d hz v G' H' x r' => hz.elim, fun s' es hz a us G' H' x h1 h2 h4 h3 r' => ?_, fun s' c hz H' g => ?_⟩⟩
  · obtain ⟨e, hp⟩ := hz
    exact k1 es hp a us H' G' (by rw [← e]; exact x) h1 h2 h3 r'
  · obtain ⟨e, hp⟩ := hz
    exact k2 c hp H' (by rw [← e]; exact g)
/-- weaker promises -/
theorem spD_imp {φ ψ : Fn} (h : ∀ s ds P EP, ds.length = n → ψ s ds P EP → φ s ds P EP) : ∀ vs H Q E, spD K T n ψ vs H Q E → spD K T n φ vs H Q E := fun vs H Q E ⟨s, G, ds, P, EP, h1, h2, h3, h4, h5, h6, h7⟩ => ⟨s, G, ds, P, EP, h1, h2, h3, h4, h5, h s ds P EP h5 h6, h7⟩
theorem spN_imp {φ ψ : FnL} (h : ∀ s ds P EP, ds.length = n → ψ s ds P EP → φ s ds P EP) : ∀ vs H Q E, spN K T n ψ vs H Q E → spN K T n φ vs H Q E := fun vs H Q E ⟨s, G, ds, P, EP, h1, h2, h3, h4, h5, h6, h7⟩ => ⟨s, G, ds, P, EP, h1, h2, h3, h4, h5, h s ds P EP h5 h6, h7⟩
theorem Cl.imp {sp sp' : Sp} (c : Cl P w K mg base k x sp) (h : ∀ vs H Q E, sp' vs H Q E → sp vs H Q E) : Cl P w K mg base k x sp' := by
  obtain ⟨f, fd, ps, F, r⟩ := c.ex
  exact ⟨f, fd, ps, F.imp h, r⟩
theorem Cl.mono {sp : Sp} {j : Nat} (c : Cl P w K mg base j x sp) (h : j ≤ k) : Cl P w K mg base k x sp := by
  obtain ⟨f, fd, ps, F, r⟩ := c.ex
  exact ⟨f, fd, ps, F.mono h, r⟩
end
/-- what a def's body wants of exceptions -/
theorem takesE {P : Program} {w : World} {K : PySem.W.Frag} {mg : Str → Option Value} {base : Heap} {N : List Str} {qual : Str} {sc : Scope} {f : Addr} {cd : Value} {A : Around} {outer : List Env} {s : Shared} {H : Hp} {E : XK} :
    L2N.Takes (cxOf (L2N.CX P w) P w K mg base N qual sc f cd A outer s H E) (fun cls d _ H => E cls d H) := L2N.takes_of rfl rfl rfl rfl
theorem passE {P : Program} {w : World} {K : PySem.W.Frag} {mg : Str → Option Value} {base : Heap} {N : List Str} {qual : Str} {sc : Scope} {f : Addr} {cd : Value} {A : Around} {outer : List Env} {s : Shared} {H : Hp} {E : XK} :
    Passes (L2N.CX P w) (cxOf (L2N.CX P w) P w K mg base N qual sc f cd A outer s H E) E := L2N.passes_call takesE fun _ _ _ _ h => h
/-! ### while -/
def tWh (c : TDB) (b : TDS) : TDS := fun δ Z => ∃ W : Nat → DE → Prop, (∃ m, W m δ) ∧ ∀ m δ, W m δ → c δ (fun q => match q with
  | true => b δ { Z with nx := fun δ' => ∃ m', m' < m ∧ W m' δ', ct := fun δ' => ∃ m', m' < m ∧ W m' δ', bk := Z.nx }
  | false => Z.nx δ) (Z.ex δ.s)
section
variable {X : Cx} {K : PySem.W.Frag} {T : Tbl} {E : XK} {c e : Expr} {body : List Stmt} {pos : Pos} {tc : TDB} {b : TDS}
theorem pd_wh (hp : PassesOwn (model X.prog X.w) X.A X.env X.xe) (hc : PT X c (lB K T E tc)) (hb : PSs X body (lS K T E b)) : PS X (.While c body [] pos) (lS K T E (tWh tc b)) :=
  ps_imp (ps_while hp hc hb) fun D σ H ⟨δ, G0, H0, G, Z, R, ⟨W, ⟨m0, w0⟩, hW⟩, F⟩ => ⟨fun m σ' H' => ∃ δ' G', Same G G' ∧ Rep K T G0 H0 G' H' σ' δ' ∧ W m δ', ⟨m0, δ, G, .refl _, R, w0⟩, fun m σ' H' ⟨δ', G', gg, R', wm⟩ =>
    ⟨δ', G0, H0, G', _, _, (F.up gg).lv R', hW m δ' wm, fun q hq H1 g => by
      cases q with
      | true =>
        refine iteT ⟨fun σ2 H2 => ∃ δ2 G2, Same G G2 ∧ Rep K T G0 H0 G2 H2 σ2 δ2 ∧ ∃ m', m' < m ∧ W m' δ2, fun σ2 H2 ⟨δ2, G2, g2, R2, m', hm, w'⟩ => ⟨m', hm, δ2, G2, g2, R2, w'⟩, δ', G0, H0, G', _, R'.gr g, hq, ?_⟩
        exact F.turn (nz := fun δ' => ∃ m', m' < m ∧ W m' δ') gg fun δ3 G3 σ3 H3 s3 R3 h3 => ⟨δ3, G3, gg.trans s3, R3, h3⟩
      | false => exact iteF (F.nx δ' G' σ' H1 gg (R'.gr g) hq)⟩⟩
/-! ### the frame's own lists changed -/
def tApp (i : Nat) (te : TD) : TDS := fun δ Z => match δ.sl[i]? with
  | some (.ow xs) => te δ (fun d => szOk (xs.length + 1) (Z.nx (δ.set i (.ow (xs ++ [d]))))) (Z.ex δ.s)
  | _ => False
theorem rep_ow {G0 H0 G H : Hp} {σ : L2.St} {δ : DE} {i : Nat} {xs : List D} (R : Rep K T G0 H0 G H σ δ) (e : δ.sl[i]? = some (.ow xs)) : ∃ a us, σ[i]? = some (some (.ref a)) ∧ H a = some (.lst us) ∧ RpA K G xs us ∧ vw δ.s H a = some (.lst us) := by
  obtain ⟨v, h1, a, us, ev, q1, q2, q3, q4, q5⟩ := R.sl i _ e
  rw [ev] at h1
  exact ⟨a, us, h1, q4, q5, vw_at q4 q2 fun ps z => by cases z⟩
theorem rep_owW {G0 H0 G H : Hp} {σ : L2.St} {δ : DE} {i : Nat} {xs xs' : List D} {a : Addr} {us' : List V} (R : Rep K T G0 H0 G H σ δ) (e : δ.sl[i]? = some (.ow xs)) (h : σ[i]? = some (some (.ref a))) (r : RpA K G xs' us') : Rep K T G0 H0 G (upd H a (.lst us')) σ (δ.set i (.ow xs')) := by
  obtain ⟨v, h1, a2, us, ev, q1, q2, q3, q4, q5⟩ := R.sl i _ e
  rw [ev, h] at h1
  cases h1
  exact R.wr e rfl h q1 q2 q3 q4 trivial ⟨a, us', rfl, q1, q2, q3, upd_same, r⟩
theorem pd_app (i : Nat) {x : Str} {te : TD} {p apos cpos : Pos} (he : PE X e (lF X.K T E te)) (hN : X.N[i]? = some x := by rfl) (hv : Vis X.env.scope x := by first | exact Or.inl rfl | exact Or.inr (Or.inl rfl) | exact Or.inr (Or.inr rfl)) (hd : (x == ("__debug__" : Str)) = false := by decide)
    (hcd : (x == ("__classdict__" : Str)) = false := by decide) (hs : swapsWith (.Call (.Attribute (.Name x p) "append" apos) [e] [] cpos) none pos.line X.env = pure false := by rfl) (hbase : attributeBase (.Name x p) "append" X.env (eval (.Name x p) X.env) = eval (.Name x p) X.env := by rfl)
    (hfew : ((backTo cpos (starEach [e] X.env)).all (fun x => !x.1) && (backToKw cpos (keywordEach [] X.env)).all (fun x => x.1.isSome)
      && decide ([e].length + ([] : List Keyword).length + (if ([] : List Keyword).isEmpty then 0 else 1) < 30)) = true := by rfl)
    (hline : (apos.endLine == cpos.line) = true := by rfl) (hs2 : starEach [e] X.env = (false, eval e X.env) :: starEach [] X.env := by rfl) (hplain : (backTo cpos (starEach [] X.env)).any (·.1) = false := by rfl) :
    PS X (.Expr (.Call (.Attribute (.Name x p) "append" apos) [e] [] cpos) pos) (lS X.K T E (tApp i te)) :=
  ps_imp (ps_expr (pe_bm PySem.F.plainAttrs_list PySem.F.slot_list_append PySem.F.type_list_append mt_append (pe_var hN hv hd hcd) (pa_cons he pa_nil hs2) hbase hfew hline hs2 hplain) hs) fun D σ H ⟨δ, G0, H0, G, Z, R, h, F⟩ => by
    unfold tApp at h
    cases e0 : δ.sl[i]? with
    | none =>
      rw [e0] at h
      exact h.elim
    | some o =>
      rw [e0] at h
      cases o with
      | ow xs =>
        obtain ⟨a, us, h1, h2, h3, h4⟩ := rep_ow R e0
        refine ⟨.ref a, h1, Or.inl ⟨rfl, us, .of h2⟩, δ, G0, H0, G, _, _, F.lv R, h, fun d hd v H' G' x r => ?_⟩
        obtain ⟨z1, z2⟩ := hd.get
        refine ⟨a, us, v, rfl, rfl, vw_sub _ _ (x.gr.ex _ _ h4), by rw [h3.len]; exact z1, ?_⟩
        exact F.nx _ G' σ _ x.gg (rep_owW (R.stp x) e0 h1 ((h3.mono x.gg).snoc r)) z2
      | _ => exact h.elim
/-- xs[j] = e -/
def tStI (i : Nat) (ti te : TD) : TDS := fun δ Z => te δ (fun d => match δ.sl[i]? with
  | some (.ow xs) => ti δ (fun k => match k with
    | .int j => (match ixN xs.length j with
      | some n => Z.nx (δ.set i (.ow (xs.set n d)))
      | none => False)
    | _ => False) (Z.ex δ.s)
  | _ => False) (Z.ex δ.s)
theorem pd_stI (i : Nat) {x : Str} {ix : Expr} {te ti : TD} {p tpos : Pos} (he : PE X e (lF X.K T E te)) (hi : PE X ix (lR X.K T E ti)) (hN : X.N[i]? = some x := by rfl) (hv : Vis X.env.scope x := by first | exact Or.inl rfl | exact Or.inr (Or.inl rfl) | exact Or.inr (Or.inr rfl)) (hd : (x == ("__debug__" : Str)) = false := by decide)
    (hcd : (x == ("__classdict__" : Str)) = false := by decide)
    (ha : ∀ v, assign (.Subscript (.Name x p) ix tpos) X.env v = (do
      let ov ← holding [v] (eval (.Name x p) X.env)
      let iv ← holding [v, ov] (eval ix X.env)
      standAt tpos
      holding [v, ov, iv] (setItem ov iv v)
      release [v, ov, iv] []) := by intro _; rfl) (hs : swapsWithSole [.Subscript (.Name x p) ix tpos] e pos.line X.env = pure false := by rfl) (hw : swappedStores [.Subscript (.Name x p) ix tpos] e X.env = pure none := by rfl)
    (h1 : (assignEach [.Subscript (.Name x p) ix tpos] X.env).map (·.2) = [assign (.Subscript (.Name x p) ix tpos) X.env] := by rfl) : PS X (.Assign [.Subscript (.Name x p) ix tpos] e pos) (lS X.K T E (tStI i ti te)) :=
  ps_imp (ps_asg he (pg_sub (pe_var hN hv hd hcd) hi set_list ha) hs hw h1) fun D σ H ⟨δ, G0, H0, G, Z, R, h, F⟩ => ⟨δ, G0, H0, G, _, _, F.lv R, h, fun d hd v H' G' x r => by
    cases e0 : δ.sl[i]? with
    | none =>
      rw [e0] at hd
      exact hd.elim
    | some o =>
      rw [e0] at hd
      cases o with
      | ow xs =>
        have R' := R.stp x
        obtain ⟨a, us, h1, h2, h3, h4⟩ := rep_ow R' e0
        refine ⟨.ref a, h1, δ, G0, H0, G', _, _, (F.up x.gg).lv R', hd, fun k hk kv H2 g2 rk => ?_⟩
        cases k with
        | int j =>
          have hk : (match ixN xs.length j with | some n => Z.nx (δ.set i (.ow (xs.set n d))) | none => False) := hk
          cases q : ixN xs.length j with
          | none =>
            rw [q] at hk
            exact hk.elim
          | some n =>
            rw [q] at hk
            exact ⟨a, us, j, n, rfl, rk, vw_sub _ _ (g2.ex _ _ h4), by rw [h3.len]; exact q, F.nx _ G' σ _ x.gg (rep_owW (R'.gr g2) e0 h1 (h3.set r n)) hk⟩
        | _ => exact hk.elim
      | _ => exact hd.elim⟩
end
end Wn

set_option Elab.async false
set_option linter.all false
set_option maxRecDepth 100000
set_option maxHeartbeats 4000000
namespace Wn
open PySem PySem.Spec PyProof.Rows L2
/-! ### comprehensions -/
def wipeD (δ : DE) : List Nat → DE
  | [] => δ
  | v :: vs => (wipeD δ vs).set v .no
def noEx : Addr → Prop := fun _ => False
def compD (g : TGD) (c : TDB) (e : TD) (δ : DE) (P : List D → Prop) : List D → List D → Prop
  | [], acc => P acc
  | x :: r, acc => g x δ fun δ' => c δ' (fun b => match b with
    | true => e δ' (fun y => compD g c e δ P r (acc ++ [y])) noEx
    | false => compD g c e δ P r acc) noEx
def yesD : TDB := fun _ P _ => P true
def tLc (tl : TDL) (vs : List Nat) (g : TGD) (c : TDB) (e : TD) : TDL := fun δ P EP => tl δ (fun xs => szOk xs.length (compD g c e (wipeD δ vs) P xs [])) EP
theorem wipeD_s (δ : DE) : ∀ vs : List Nat, (wipeD δ vs).s = δ.s
  | [] => rfl
  | v :: vs => wipeD_s δ vs
theorem wipe_get (σ : L2.St) : ∀ (vs : List Nat) (i : Nat), (wipe σ vs)[i]? = if i ∈ vs then (if i < σ.length then some none else none) else σ[i]?
  | [], i => by simp [wipe]
  | v :: vs, i => by
    unfold wipe
    by_cases c : v = i
    · subst c
      by_cases h : v < σ.length
      · rw [List.getElem?_set_self (by rw [wipe_length]; exact h), if_pos (by simp), if_pos h]
      · rw [List.getElem?_eq_none (by rw [List.length_set, wipe_length]; omega), if_pos (by simp), if_neg h]
    · rw [List.getElem?_set_ne c, wipe_get σ vs i]
      have e : i ∈ v :: vs ↔ i ∈ vs := by
        rw [List.mem_cons]
        exact ⟨fun h => h.resolve_left (fun z => c z.symm), fun h => .inr h⟩
      by_cases q : i ∈ vs
      · rw [if_pos q, if_pos (e.mpr q)]
      · rw [if_neg q, if_neg (fun z => q (e.mp z))]
theorem wipe_agree {σ σ' : L2.St} {vs js : List Nat} (a : Agree js (wipe σ vs) σ') (h : ∀ i ∈ js, i ∈ vs) : wipe σ' vs = wipe σ vs := by
  have hl : σ'.length = σ.length := by rw [a.1, wipe_length]
  refine List.ext_getElem? fun i => ?_
  rw [wipe_get, wipe_get, hl]
  by_cases c : i ∈ vs
  · rw [if_pos c, if_pos c]
  · rw [if_neg c, if_neg c, a.2 i fun z => c (h i z), wipe_get, if_neg c]
section
variable {K : PySem.W.Frag} {T : Tbl} {s : Option Addr} {G0 H0 G G' H H' H1 : Hp} {σ : L2.St} {δ : DE}
theorem rep_wipe (R : Rep K T G0 H0 G H σ δ) : ∀ vs : List Nat, Rep K T G0 H0 G H (wipe σ vs) (wipeD δ vs)
  | [] => R
  | v :: vs => (rep_wipe R vs).setNo
/-- a thing made since is changed -/
theorem Stp.mut (x : Stp T s G G' H H') {p : Addr} {w u : HO} (hp : H p = none) (hg : G' p = none) (hw : H' p = some w) (ow : OwnO w) (hs : ∀ a, s = some a → Src a H) (tab : LamX.Tabs T H') : Stp T s G G' H (upd H' p u) ∧ (∀ a, s = some a → Src a H → Src a (upd H' p u)) ∧ LamX.Tabs T (upd H' p u) := by
  have sp : ∀ a, s = some a → a ≠ p := fun a e z => by
    obtain ⟨q1, q2, q3, _⟩ := hs a e
    rw [z, hp] at q3
    cases q3
  have tab' : LamX.Tabs T (upd H' p u) := fun q hq => by
    obtain ⟨ps, q1, q2, q3⟩ := tab q hq
    have np : q.1 ≠ p := fun z => by
      rw [z, hw] at q1
      exact ow.nt ps (Option.some.inj q1)
    refine ⟨ps, by rw [upd_ne np]; exact q1, q2, fun pos cv hcv => ?_⟩
    obtain ⟨c, e1, e2⟩ := q3 pos cv hcv
    have nc : c ≠ p := fun z => by
      rw [z, hw] at e2
      have z2 := Option.some.inj e2
      rw [z2] at ow
      exact ow
    exact ⟨c, e1, by rw [upd_ne nc]; exact e2⟩
  have src' : ∀ a, s = some a → Src a H → Src a (upd H' p u) := fun a e q => by
    obtain ⟨q1, q2, q3, q4⟩ := x.gr.sr a e q
    exact ⟨q1, q2, by rw [upd_ne (sp a e)]; exact q3, q4⟩
  refine ⟨⟨⟨fun b o e => ?_, fun b hb => ?_, src', fun _ => tab'⟩, x.gg, fun b o e => ?_, x.nw⟩, src', tab'⟩
  · have ne : b ≠ p := fun z => by
      have q := (vw_of e).1
      rw [z, hp] at q
      cases q
    obtain ⟨e1, e2, e3⟩ := vw_of (x.gr.ex b o e)
    exact vw_at (by rw [upd_ne ne]; exact e1) e2 e3
  · by_cases c : b = p
    · rw [c, upd_same]
      simp
    · rw [upd_ne c]
      exact x.gr.al b hb
  · have ne : b ≠ p := fun z => by
      rw [z, hg] at e
      cases e
    obtain ⟨e1, e2, e3⟩ := vw_of (x.gv b o e)
    exact vw_at (by rw [upd_ne ne]; exact e1) e2 e3
/-- what holds between two turns of a comprehension that has begun at G1, H1 with its list at L -/
def CInv (K : PySem.W.Frag) (T : Tbl) (s : Option Addr) (G1 H1 : Hp) (L : Addr) (k : List D → Hp → Prop) (H : Hp) : Prop := ∃ G us acc, Stp T s G1 G H1 H ∧ G L = none ∧ H L = some (.lst us) ∧ RpA K G acc us ∧ k acc G
theorem c_start (R : Rep K T G0 H0 G H σ δ) {L : Addr} (hL : H L = none) {k : List D → Hp → Prop} (h : k [] G) : CInv K T δ.s G H L k (upd H L (.lst [])) := ⟨G, [], [], .of_gr R.gv (.new hL), R.gnone hL, upd_same, rfl, h⟩
/-- one turn -/
theorem c_turn {js vs : List Nat} {g : TGD} {c : TDB} {e : TD} {L : Addr} {P : List D → Prop} {r : List D} {d : D} {x : V} {k k' : List D → Hp → Prop} {tot i : Nat} (hjs : ∀ i ∈ js, i ∈ vs) (R : Rep K T G0 H0 G H σ δ) (hL : H L = none) (hz : tot ≤ 100000) (hi : i < tot)
    (hk : ∀ acc G2, k acc G2 → compD g c e (wipeD δ vs) P (d :: r) acc ∧ acc.length ≤ i ∧ Rp K G2 d x) (hk' : ∀ acc acc' G2 G3, k acc G2 → Same G2 G3 → compD g c e (wipeD δ vs) P r acc' → acc'.length ≤ i + 1 → k' acc' G3) (I : CInv K T δ.s G H L k H1) :
    lG K T js g x (wipe σ vs) H1 fun σ2 H2 => wipe σ2 vs = wipe σ vs ∧ lB K T E0 c σ2 H2 fun b H3 => if b = true then lF K T E0 e σ2 H3 fun y H4 => ∃ acc, H4 L = some (.lst acc) ∧ acc.length < sizeLine ∧ CInv K T δ.s G H L k' (upd H4 L (.lst (acc ++ [y]))) else CInv K T δ.s G H L k' H3 := by
  obtain ⟨G2, us, acc, x1, hg, hh, ra, hkk⟩ := I
  obtain ⟨hc, hl, rd⟩ := hk acc G2 hkk
  have R1 := rep_wipe (R.stp x1) vs
  have sL : δ.s ≠ some L := fun z => by
    obtain ⟨p, q, e, _⟩ := R.src L z
    rw [hL] at e
    cases e
  have vL : vw δ.s H1 L = some (.lst us) := vw_at hh sL fun ps z => by cases z
  refine ⟨wipeD δ vs, G0, H0, G2, d, _, R1, rd, hc, fun δ' σ' R' hs ag hp => ⟨wipe_agree ag hjs, ?_⟩⟩
  have es : δ'.s = δ.s := hs.trans (wipeD_s δ vs)
  have L1 : Lv K T E0 G0 H0 G2 H1 σ' δ' noEx := ⟨R', fun c h => h.elim⟩
  refine ⟨δ', G0, H0, G2, _, noEx, L1, hp, fun b hb H3 g3 => ?_⟩
  cases b with
  | false =>
    refine iteF ?_
    rw [es] at g3
    exact ⟨G2, us, acc, x1.trans (.of_gr x1.gv g3), hg, (vw_of (g3.ex _ _ vL)).1, ra, hk' acc acc G2 G2 hkk (.refl _) hb (Nat.le_succ_of_le hl)⟩
  | true =>
    refine iteT ⟨δ', G0, H0, G2, _, noEx, L1.gr g3, hb, fun y hy v H4 G4 x4 ry => ?_⟩
    rw [es] at g3 x4
    have x14 : Stp T δ.s G G4 H H4 := (x1.trans (.of_gr x1.gv g3)).trans x4
    have h4 : H4 L = some (.lst us) := (vw_of (x4.gr.ex _ _ (g3.ex _ _ vL))).1
    have g4 : G4 L = none := by
      cases z : G4 L with
      | none => rfl
      | some u =>
        rcases x14.nw L (by rw [z]; simp) with q | q
        · exact absurd (R.gnone hL) q
        · have := (Stp.gv x14 L u z)
          rcases x4.nw L (by rw [z]; simp) with q2 | q2
          · exact absurd hg q2
          · rw [(vw_of (g3.ex _ _ vL)).1] at q2
            cases q2
    obtain ⟨x5, _, _⟩ := Stp.mut x14 (u := .lst (us ++ [v])) hL g4 h4 trivial R.src (x14.gr.tb R.tab)
    exact ⟨us, h4, by rw [ra.len]; exact Nat.lt_of_lt_of_le (Nat.lt_of_le_of_lt hl hi) (Nat.le_trans hz (by decide)), G4, _, acc ++ [y], x5, g4, upd_same, (ra.mono x4.gg).snoc ry,
      hk' acc _ G2 G4 hkk x4.gg hy (by rw [List.length_append, List.length_singleton]; exact Nat.succ_le_succ hl)⟩
end
section
variable {X : Cx} {T : Tbl} {E : XK} {elt tg iter : Expr} {ifs : List Expr} {scope : Scope} {own : List (Str × Nat)} {pos p p2 : Pos} {js : List Nat} {g : TGD} {c : TDB} {e : TD} {te : TDL} {td : TD} {K : PySem.W.Frag}
/-- tests of a clause -/
theorem pd_ts0 : PTs X [] (lB K T E yesD) := ⟨fun pins s σ H Q I ⟨δ, G0, H0, G, P, EP, L, ht, k⟩ => pts_nil.run pins s σ H Q I (k true ht H .refl)⟩
theorem pd_ts1 {a : Expr} {t : TDB} (h : PT X a (lB K T E t)) : PTs X [a] (lB K T E t) := pts_one h
theorem frz_new {G0 H0 G H G' H' : Hp} {σ : L2.St} {δ : DE} {EP : Addr → Prop} {a : Addr} {us : List V} {ds : List D} (L : Lv K T E G0 H0 G H σ δ EP) (x : Stp T δ.s G G' H H') (h1 : H a = none) (h2 : G' a = none) (h3 : H' a = some (.lst us)) (r : RpA K G' ds us) :
    Stp T δ.s G (upd G' a (.lst us)) H H' ∧ Rp K (upd G' a (.lst us)) (.lst ds) (.ref a) := by
  have sa : δ.s ≠ some a := fun z => by
    obtain ⟨p, q, e, _⟩ := L.rep.src a z
    rw [h1] at e
    cases e
  refine ⟨⟨x.gr, (x.gg).trans (Wn.Same.new h2), fun b o e => ?_, fun b hb => ?_⟩, a, us, rfl, upd_same, r.mono (Wn.Same.new h2)⟩
  · by_cases c : b = a
    · rw [c, upd_same] at e
      cases e
      rw [c]
      exact vw_at h3 sa fun ps z => by cases z
    · rw [upd_ne c] at e
      exact x.gv b o e
  · by_cases c : b = a
    · rw [c]
      exact .inr h1
    · rw [upd_ne c] at hb
      exact x.nw b hb
theorem rd_lc {vs : List Nat} (hjs : ∀ i ∈ js, i ∈ vs) : ∀ (σ : L2.St) (H : Hp) (Q : VK), lN K T E (tLc te vs g c e) σ H Q → L2.tLc (iList K (lL K T E te)) (lG K T js g) (lB K T E0 c) (lF K T E0 e) vs σ H Q :=
  fun σ H Q ⟨δ, G0, H0, G, P, EP, L, hh, k⟩ => ⟨δ, G0, H0, G, _, EP, L, hh, fun ds hd a us H1 G1 x1 e1 r1 => by
    obtain ⟨hz, hd⟩ : ds.length ≤ 100000 ∧ compD g c e (wipeD δ vs) P ds [] := by
      unfold szOk at hd
      cases q : Nat.ble ds.length 100000 with
      | true =>
        rw [q] at hd
        exact ⟨Nat.le_of_ble_eq_true q, hd⟩
      | false =>
        rw [q] at hd
        exact hd.elim
    have R1 := (L.stp x1).rep
    refine ⟨a, rfl, ⟨us, .of (vw_sub _ _ e1)⟩, fun D hD => ?_⟩
    refine lc_list (K := K) (a := a) (xs := us) (fun i => CInv K T δ.s G1 H1 D fun acc G2 => compD g c e (wipeD δ vs) P (ds.drop i) acc ∧ acc.length ≤ i ∧ RpA K G2 ds us) (c_start R1 hD ⟨hd, Nat.le_refl _, r1⟩) (fun i H2 _ ⟨G2, ws, acc, x2, _⟩ => .of (vw_sub _ _ (x2.gr.ex _ _ e1))) (fun i x H2 hx I => ?_) fun H2 I => ?_
    · have hil : i < ds.length := by
        rw [← r1.len]
        exact (List.getElem?_eq_some_iff.mp hx).1
      refine c_turn (P := P) (r := ds.drop (i + 1)) (d := ds[i]) (tot := ds.length) (i := i) hjs R1 hD hz hil (fun acc G2 ⟨h1, h2, h3⟩ => ?_) (fun acc acc' G2 G3 ⟨_, _, h3⟩ s23 h1 h2 => ⟨h1, h2, h3.mono s23⟩) I
      rw [List.drop_eq_getElem_cons hil] at h1
      obtain ⟨y, hy, ry⟩ := h3.get (List.getElem?_eq_getElem hil)
      rw [hx] at hy
      cases hy
      exact ⟨h1, h2, ry⟩
    · obtain ⟨G2, ws, acc, x2, h2, h3, h4, h5, _⟩ := I
      rw [r1.len, List.drop_length] at h5
      exact k acc h5 D ws H2 G2 (x1.trans x2) (x1.gr.none_of hD) h2 h3 h4⟩
theorem rd_lcT {vs : List Nat} (hjs : ∀ i ∈ js, i ∈ vs) : ∀ (σ : L2.St) (H : Hp) (Q : VK), lN K T E (tLc (tTupI td) vs g c e) σ H Q → L2.tLc (iTup K (lF K T E td)) (lG K T js g) (lB K T E0 c) (lF K T E0 e) vs σ H Q :=
  fun σ H Q ⟨δ, G0, H0, G, P, EP, L, hh, k⟩ => ⟨δ, G0, H0, G, _, EP, L, hh, fun d hd v H1 G1 x1 r1 => by
    cases d with
    | tup ds =>
      have hd : szOk ds.length (compD g c e (wipeD δ vs) P ds []) := hd
      obtain ⟨hz, hd⟩ : ds.length ≤ 100000 ∧ compD g c e (wipeD δ vs) P ds [] := by
        unfold szOk at hd
        cases q : Nat.ble ds.length 100000 with
        | true =>
          rw [q] at hd
          exact ⟨Nat.le_of_ble_eq_true q, hd⟩
        | false =>
          rw [q] at hd
          exact hd.elim
      obtain ⟨a, us, ev, e1, r1⟩ := r1
      have R1 := (L.stp x1).rep
      refine ⟨a, ev, ⟨us, .of (vw_sub _ _ (x1.gv _ _ e1))⟩, fun D hD => ?_⟩
      refine lc_tup (K := K) (a := a) (xs := us) (fun i => CInv K T δ.s G1 H1 D fun acc G2 => compD g c e (wipeD δ vs) P (ds.drop i) acc ∧ acc.length ≤ i ∧ RpA K G2 ds us) (c_start R1 hD ⟨hd, Nat.le_refl _, r1⟩) (fun i H2 _ ⟨G2, ws, acc, x2, _⟩ => .of (vw_sub _ _ (x2.gr.ex _ _ (x1.gv _ _ e1)))) (fun i x H2 hx I => ?_) fun H2 I => ?_
      · have hil : i < ds.length := by
          rw [← r1.len]
          exact (List.getElem?_eq_some_iff.mp hx).1
        refine c_turn (P := P) (r := ds.drop (i + 1)) (d := ds[i]) (tot := ds.length) (i := i) hjs R1 hD hz hil (fun acc G2 ⟨h1, h2, h3⟩ => ?_) (fun acc acc' G2 G3 ⟨_, _, h3⟩ s23 h1 h2 => ⟨h1, h2, h3.mono s23⟩) I
        rw [List.drop_eq_getElem_cons hil] at h1
        obtain ⟨y, hy, ry⟩ := h3.get (List.getElem?_eq_getElem hil)
        rw [hx] at hy
        cases hy
        exact ⟨h1, h2, ry⟩
      · obtain ⟨G2, ws, acc, x2, h2, h3, h4, h5, _⟩ := I
        rw [r1.len, List.drop_length] at h5
        exact k acc h5 D ws H2 G2 (x1.trans x2) (x1.gr.none_of hD) h2 h3 h4
    | _ => exact hd.elim⟩
/-- over a range -/
theorem lc_rg {σ : L2.St} {G0 H0 G H1 : Hp} {δ : DE} {lo : Int} {n : Nat} {P : List D → Prop} {D : Addr} {Qd : Hp → Prop} {vs : List Nat} (hjs : ∀ i ∈ js, i ∈ vs) (R1 : Rep K T G0 H0 G H1 σ δ) (hD : H1 D = none) (hd : szOk (rgD lo n).length (compD g c e (wipeD δ vs) P (rgD lo n) []))
    (hq : ∀ H2 G2 ws acc, Stp T δ.s G G2 H1 H2 → G2 D = none → H2 D = some (.lst ws) → RpA K G2 acc ws → P acc → Qd H2) :
    ∃ W : Nat → Nat → Hp → Prop, (∃ m, W 0 m (upd H1 D (.lst []))) ∧ ∀ i m H, W i m H →
      ((Itr lo n).stop i H ∧ Qd H) ∨ ((Itr lo n).go i H ∧ ∃ Nx : Hp → Prop, (∀ H', Nx H' → ∃ m', m' < m ∧ W (i + 1) m' H') ∧ ∀ x H', (Itr lo n).yld i H x H' → lG K T js g x (wipe σ vs) H' fun σ2 H2 => wipe σ2 vs = wipe σ vs ∧ lB K T E0 c σ2 H2 fun b H3 =>
        if b = true then lF K T E0 e σ2 H3 fun y H4 => ∃ acc, H4 D = some (.lst acc) ∧ acc.length < sizeLine ∧ Nx (upd H4 D (.lst (acc ++ [y]))) else Nx H3) := by
  obtain ⟨hz, hd⟩ : n ≤ 100000 ∧ compD g c e (wipeD δ vs) P (rgD lo n) [] := by
    rw [rgD_len] at hd
    unfold szOk at hd
    cases q : Nat.ble n 100000 with
    | true =>
      rw [q] at hd
      exact ⟨Nat.le_of_ble_eq_true q, hd⟩
    | false =>
      rw [q] at hd
      exact hd.elim
  refine lc_range (fun i => CInv K T δ.s G H1 D fun acc G2 => compD g c e (wipeD δ vs) P ((rgD lo n).drop i) acc ∧ acc.length ≤ i) (c_start R1 hD ⟨hd, Nat.le_refl _⟩) (fun i H2 hi I => ?_) fun H2 I => ?_
  · refine c_turn (P := P) (r := (rgD lo n).drop (i + 1)) (d := .int (lo + i)) (tot := n) (i := i) hjs R1 hD hz hi (fun acc G2 ⟨h1, h2⟩ => ?_) (fun acc acc' G2 G3 _ s23 h1 h2 => ⟨h1, h2⟩) I
    rw [rgD_get hi] at h1
    exact ⟨h1, h2, rfl⟩
  · obtain ⟨G2, ws, acc, x2, h2, h3, h4, h5, _⟩ := I
    rw [List.drop_eq_nil_of_le (by rw [rgD_len]; exact Nat.le_refl _)] at h5
    exact hq H2 G2 ws acc x2 h2 h3 h4 h5
theorem rd_lcR1 {vs : List Nat} (hjs : ∀ i ∈ js, i ∈ vs) : ∀ (σ : L2.St) (H : Hp) (Q : VK), lN K T E (tLc (tRg1 te) vs g c e) σ H Q → L2.tLc (iRng1 (lAR K T E te)) (lG K T js g) (lB K T E0 c) (lF K T E0 e) vs σ H Q :=
  fun σ H Q ⟨δ, G0, H0, G, P, EP, L, hh, k⟩ => ⟨δ, G0, H0, G, _, EP, L, hh, fun ds hd vs H1 g1 r => by
    split at hd
    · obtain ⟨v, ev, e1⟩ := RpA.one r
      exact ⟨_, by rw [ev, show v = _ from e1], hd.1.1, hd.1.2, fun D hD => lc_rg hjs (L.gr g1).rep hD hd.2 fun H2 G2 ws acc x2 h2 h3 h4 h5 => k acc h5 D ws H2 G2 ((Stp.of_gr L.rep.gv g1).trans x2) (g1.none_of hD) h2 h3 h4⟩
    · exact hd.elim⟩
theorem rd_lcR2 {vs : List Nat} (hjs : ∀ i ∈ js, i ∈ vs) : ∀ (σ : L2.St) (H : Hp) (Q : VK), lN K T E (tLc (tRg2 te) vs g c e) σ H Q → L2.tLc (iRng2 (lAR K T E te)) (lG K T js g) (lB K T E0 c) (lF K T E0 e) vs σ H Q :=
  fun σ H Q ⟨δ, G0, H0, G, P, EP, L, hh, k⟩ => ⟨δ, G0, H0, G, _, EP, L, hh, fun ds hd vs H1 g1 r => by
    split at hd
    · obtain ⟨v, v', ev, e1, e2⟩ := RpA.two r
      exact ⟨_, _, by rw [ev, show v = _ from e1, show v' = _ from e2], hd.1, fun D hD => lc_rg hjs (L.gr g1).rep hD hd.2 fun H2 G2 ws acc x2 h2 h3 h4 h5 => k acc h5 D ws H2 G2 ((Stp.of_gr L.rep.gv g1).trans x2) (g1.none_of hD) h2 h3 h4⟩
    · exact hd.elim⟩
theorem pd_lc (hc : X.calm = true) (hN : X.N.Nodup) (hi : PE X iter (lL X.K T E te)) (ok : BlkOk X.N X.env.scope scope own) (hjs : ∀ i ∈ js, i ∈ own.map (·.2))
    (hg : ∀ (s : Shared) (H : Hp) (C : Addr) (cl : List (Str × Addr)) (fp : List Addr), PG (X.blk s H scope (compEnvC scope cl C X.env) fp) tg (lG X.K T js g)) (ht : ∀ (s : Shared) (H : Hp) (C : Addr) (cl : List (Str × Addr)) (fp : List Addr), PTs (X.blk s H scope (compEnvC scope cl C X.env) fp) ifs (lB X.K T E0 c))
    (he : ∀ (s : Shared) (H : Hp) (C : Addr) (cl : List (Str × Addr)) (fp : List Addr), PE (X.blk s H scope (compEnvC scope cl C X.env) fp) elt (lF X.K T E0 e)) (hs : ∀ x, foldedSetIterable iter X.env x = pure x := by intro _; rfl) :
    PE X (.ListComp elt [⟨tg, iter, ifs, 0⟩] scope pos) (lN X.K T E (tLc te (own.map (·.2)) g c e)) := pe_imp (pe_lc hc hN (pi_list hi) ok hg ht he hs) (rd_lc hjs)
theorem pd_setLc (i : Nat) {y : Str} {py spos : Pos} (hc : X.calm = true) (hN : X.N.Nodup) (hi : PE X iter (lL X.K T E te)) (ok : BlkOk X.N X.env.scope scope own) (hjs : ∀ i ∈ js, i ∈ own.map (·.2))
    (hg : ∀ (s : Shared) (H : Hp) (C : Addr) (cl : List (Str × Addr)) (fp : List Addr), PG (X.blk s H scope (compEnvC scope cl C X.env) fp) tg (lG X.K T js g)) (ht : ∀ (s : Shared) (H : Hp) (C : Addr) (cl : List (Str × Addr)) (fp : List Addr), PTs (X.blk s H scope (compEnvC scope cl C X.env) fp) ifs (lB X.K T E0 c))
    (he : ∀ (s : Shared) (H : Hp) (C : Addr) (cl : List (Str × Addr)) (fp : List Addr), PE (X.blk s H scope (compEnvC scope cl C X.env) fp) elt (lF X.K T E0 e))
    (hsw : swapsWith (.ListComp elt [⟨tg, iter, ifs, 0⟩] scope pos) (some (.Name y py)) spos.line X.env = pure true) (hy : X.N[i]? = some y := by rfl) (hyl : X.env.scope.names.lookup y = some .local := by rfl) (hs : ∀ x, foldedSetIterable iter X.env x = pure x := by intro _; rfl) :
    PS X (.Assign [.Name y py] (.ListComp elt [⟨tg, iter, ifs, 0⟩] scope pos) spos) (lS X.K T E (tSetN i (tLc te (own.map (·.2)) g c e))) :=
  ps_imp (ps_setLc hc hN hy hyl hsw (pi_list hi) ok hg ht he hs) fun D σ H ⟨δ, G0, H0, G, Z, R, h, F⟩ => rd_lc hjs σ H _ ⟨δ, G0, H0, G, _, _, F.lv R, h, fun ds hd a us H' G' x h1 h2 h3 r => F.nx _ G' _ H' x.gg (rep_setN R x h1 h2 h3 r) hd⟩
theorem pd_setLf (i : Nat) {y : Str} {py spos : Pos} (hc : X.calm = true) (hN : X.N.Nodup) (hi : PE X iter (lL X.K T E te)) (ok : BlkOk X.N X.env.scope scope own) (hjs : ∀ i ∈ js, i ∈ own.map (·.2))
    (hg : ∀ (s : Shared) (H : Hp) (C : Addr) (cl : List (Str × Addr)) (fp : List Addr), PG (X.blk s H scope (compEnvC scope cl C X.env) fp) tg (lG X.K T js g)) (ht : ∀ (s : Shared) (H : Hp) (C : Addr) (cl : List (Str × Addr)) (fp : List Addr), PTs (X.blk s H scope (compEnvC scope cl C X.env) fp) ifs (lB X.K T E0 c))
    (he : ∀ (s : Shared) (H : Hp) (C : Addr) (cl : List (Str × Addr)) (fp : List Addr), PE (X.blk s H scope (compEnvC scope cl C X.env) fp) elt (lF X.K T E0 e))
    (hsw : swapsWith (.ListComp elt [⟨tg, iter, ifs, 0⟩] scope pos) (some (.Name y py)) spos.line X.env = pure true) (hy : X.N[i]? = some y := by rfl) (hyl : X.env.scope.names.lookup y = some .local := by rfl) (hs : ∀ x, foldedSetIterable iter X.env x = pure x := by intro _; rfl) :
    PS X (.Assign [.Name y py] (.ListComp elt [⟨tg, iter, ifs, 0⟩] scope pos) spos) (lS X.K T E (tSet i (tNF (tLc te (own.map (·.2)) g c e)))) :=
  ps_imp (ps_setLc hc hN hy hyl hsw (pi_list hi) ok hg ht he hs) fun D σ H ⟨δ, G0, H0, G, Z, R, h, F⟩ => rd_lc hjs σ H _ ⟨δ, G0, H0, G, _, _, F.lv R, h, fun ds hd a us H' G' x h1 h2 h3 r => by
    obtain ⟨x2, r2⟩ := frz_new (F.lv R) x h1 h2 h3 r
    exact F.nx _ _ _ H' x2.gg ((R.stp x2).setD r2) hd⟩
theorem pd_lcT (hc : X.calm = true) (hN : X.N.Nodup) (hi : PE X iter (lF X.K T E td)) (ok : BlkOk X.N X.env.scope scope own) (hjs : ∀ i ∈ js, i ∈ own.map (·.2))
    (hg : ∀ (s : Shared) (H : Hp) (C : Addr) (cl : List (Str × Addr)) (fp : List Addr), PG (X.blk s H scope (compEnvC scope cl C X.env) fp) tg (lG X.K T js g)) (ht : ∀ (s : Shared) (H : Hp) (C : Addr) (cl : List (Str × Addr)) (fp : List Addr), PTs (X.blk s H scope (compEnvC scope cl C X.env) fp) ifs (lB X.K T E0 c))
    (he : ∀ (s : Shared) (H : Hp) (C : Addr) (cl : List (Str × Addr)) (fp : List Addr), PE (X.blk s H scope (compEnvC scope cl C X.env) fp) elt (lF X.K T E0 e)) (hs : ∀ x, foldedSetIterable iter X.env x = pure x := by intro _; rfl) :
    PE X (.ListComp elt [⟨tg, iter, ifs, 0⟩] scope pos) (lN X.K T E (tLc (tTupI td) (own.map (·.2)) g c e)) := pe_imp (pe_lc hc hN (pi_tup hi) ok hg ht he hs) (rd_lcT hjs)
theorem pd_setLcT (i : Nat) {y : Str} {py spos : Pos} (hc : X.calm = true) (hN : X.N.Nodup) (hi : PE X iter (lF X.K T E td)) (ok : BlkOk X.N X.env.scope scope own) (hjs : ∀ i ∈ js, i ∈ own.map (·.2))
    (hg : ∀ (s : Shared) (H : Hp) (C : Addr) (cl : List (Str × Addr)) (fp : List Addr), PG (X.blk s H scope (compEnvC scope cl C X.env) fp) tg (lG X.K T js g)) (ht : ∀ (s : Shared) (H : Hp) (C : Addr) (cl : List (Str × Addr)) (fp : List Addr), PTs (X.blk s H scope (compEnvC scope cl C X.env) fp) ifs (lB X.K T E0 c))
    (he : ∀ (s : Shared) (H : Hp) (C : Addr) (cl : List (Str × Addr)) (fp : List Addr), PE (X.blk s H scope (compEnvC scope cl C X.env) fp) elt (lF X.K T E0 e))
    (hsw : swapsWith (.ListComp elt [⟨tg, iter, ifs, 0⟩] scope pos) (some (.Name y py)) spos.line X.env = pure true) (hy : X.N[i]? = some y := by rfl) (hyl : X.env.scope.names.lookup y = some .local := by rfl) (hs : ∀ x, foldedSetIterable iter X.env x = pure x := by intro _; rfl) :
    PS X (.Assign [.Name y py] (.ListComp elt [⟨tg, iter, ifs, 0⟩] scope pos) spos) (lS X.K T E (tSetN i (tLc (tTupI td) (own.map (·.2)) g c e))) :=
  ps_imp (ps_setLc hc hN hy hyl hsw (pi_tup hi) ok hg ht he hs) fun D σ H ⟨δ, G0, H0, G, Z, R, h, F⟩ => rd_lcT hjs σ H _ ⟨δ, G0, H0, G, _, _, F.lv R, h, fun ds hd a us H' G' x h1 h2 h3 r => F.nx _ G' _ H' x.gg (rep_setN R x h1 h2 h3 r) hd⟩
theorem pd_setLfT (i : Nat) {y : Str} {py spos : Pos} (hc : X.calm = true) (hN : X.N.Nodup) (hi : PE X iter (lF X.K T E td)) (ok : BlkOk X.N X.env.scope scope own) (hjs : ∀ i ∈ js, i ∈ own.map (·.2))
    (hg : ∀ (s : Shared) (H : Hp) (C : Addr) (cl : List (Str × Addr)) (fp : List Addr), PG (X.blk s H scope (compEnvC scope cl C X.env) fp) tg (lG X.K T js g)) (ht : ∀ (s : Shared) (H : Hp) (C : Addr) (cl : List (Str × Addr)) (fp : List Addr), PTs (X.blk s H scope (compEnvC scope cl C X.env) fp) ifs (lB X.K T E0 c))
    (he : ∀ (s : Shared) (H : Hp) (C : Addr) (cl : List (Str × Addr)) (fp : List Addr), PE (X.blk s H scope (compEnvC scope cl C X.env) fp) elt (lF X.K T E0 e))
    (hsw : swapsWith (.ListComp elt [⟨tg, iter, ifs, 0⟩] scope pos) (some (.Name y py)) spos.line X.env = pure true) (hy : X.N[i]? = some y := by rfl) (hyl : X.env.scope.names.lookup y = some .local := by rfl) (hs : ∀ x, foldedSetIterable iter X.env x = pure x := by intro _; rfl) :
    PS X (.Assign [.Name y py] (.ListComp elt [⟨tg, iter, ifs, 0⟩] scope pos) spos) (lS X.K T E (tSet i (tNF (tLc (tTupI td) (own.map (·.2)) g c e)))) :=
  ps_imp (ps_setLc hc hN hy hyl hsw (pi_tup hi) ok hg ht he hs) fun D σ H ⟨δ, G0, H0, G, Z, R, h, F⟩ => rd_lcT hjs σ H _ ⟨δ, G0, H0, G, _, _, F.lv R, h, fun ds hd a us H' G' x h1 h2 h3 r => by
    obtain ⟨x2, r2⟩ := frz_new (F.lv R) x h1 h2 h3 r
    exact F.nx _ _ _ H' x2.gg ((R.stp x2).setD r2) hd⟩
theorem pd_lcR1 {a : Expr} (hc : X.calm = true) (hN : X.N.Nodup) (hm : X.mg "range" = none) (ha : PA X [a] (lAR X.K T E te)) (ok : BlkOk X.N X.env.scope scope own) (hjs : ∀ i ∈ js, i ∈ own.map (·.2))
    (hg : ∀ (s : Shared) (H : Hp) (C : Addr) (cl : List (Str × Addr)) (fp : List Addr), PG (X.blk s H scope (compEnvC scope cl C X.env) fp) tg (lG X.K T js g)) (ht : ∀ (s : Shared) (H : Hp) (C : Addr) (cl : List (Str × Addr)) (fp : List Addr), PTs (X.blk s H scope (compEnvC scope cl C X.env) fp) ifs (lB X.K T E0 c))
    (he : ∀ (s : Shared) (H : Hp) (C : Addr) (cl : List (Str × Addr)) (fp : List Addr), PE (X.blk s H scope (compEnvC scope cl C X.env) fp) elt (lF X.K T E0 e)) (hgr : Gl X "range" := by rfl) (hs1 : starEach [a] X.env = [(false, eval a X.env)] := by rfl) (hs : ∀ x, foldedSetIterable (.Call (.Name "range" p) [a] [] p2) X.env x = pure x := by intro _; rfl) :
    PE X (.ListComp elt [⟨tg, (.Call (.Name "range" p) [a] [] p2), ifs, 0⟩] scope pos) (lN X.K T E (tLc (tRg1 te) (own.map (·.2)) g c e)) := pe_imp (pe_lc hc hN (pi_range1 hgr hm ha hs1) ok hg ht he hs) (rd_lcR1 hjs)
theorem pd_setLcR1 {a : Expr} (i : Nat) {y : Str} {py spos : Pos} (hc : X.calm = true) (hN : X.N.Nodup) (hm : X.mg "range" = none) (ha : PA X [a] (lAR X.K T E te)) (ok : BlkOk X.N X.env.scope scope own) (hjs : ∀ i ∈ js, i ∈ own.map (·.2))
    (hg : ∀ (s : Shared) (H : Hp) (C : Addr) (cl : List (Str × Addr)) (fp : List Addr), PG (X.blk s H scope (compEnvC scope cl C X.env) fp) tg (lG X.K T js g)) (ht : ∀ (s : Shared) (H : Hp) (C : Addr) (cl : List (Str × Addr)) (fp : List Addr), PTs (X.blk s H scope (compEnvC scope cl C X.env) fp) ifs (lB X.K T E0 c))
    (he : ∀ (s : Shared) (H : Hp) (C : Addr) (cl : List (Str × Addr)) (fp : List Addr), PE (X.blk s H scope (compEnvC scope cl C X.env) fp) elt (lF X.K T E0 e))
    (hsw : swapsWith (.ListComp elt [⟨tg, (.Call (.Name "range" p) [a] [] p2), ifs, 0⟩] scope pos) (some (.Name y py)) spos.line X.env = pure true) (hy : X.N[i]? = some y := by rfl) (hyl : X.env.scope.names.lookup y = some .local := by rfl) (hgr : Gl X "range" := by rfl) (hs1 : starEach [a] X.env = [(false, eval a X.env)] := by rfl) (hs : ∀ x, foldedSetIterable (.Call (.Name "range" p) [a] [] p2) X.env x = pure x := by intro _; rfl) :
    PS X (.Assign [.Name y py] (.ListComp elt [⟨tg, (.Call (.Name "range" p) [a] [] p2), ifs, 0⟩] scope pos) spos) (lS X.K T E (tSetN i (tLc (tRg1 te) (own.map (·.2)) g c e))) :=
  ps_imp (ps_setLc hc hN hy hyl hsw (pi_range1 hgr hm ha hs1) ok hg ht he hs) fun D σ H ⟨δ, G0, H0, G, Z, R, h, F⟩ => rd_lcR1 hjs σ H _ ⟨δ, G0, H0, G, _, _, F.lv R, h, fun ds hd a us H' G' x h1 h2 h3 r => F.nx _ G' _ H' x.gg (rep_setN R x h1 h2 h3 r) hd⟩
theorem pd_setLfR1 {a : Expr} (i : Nat) {y : Str} {py spos : Pos} (hc : X.calm = true) (hN : X.N.Nodup) (hm : X.mg "range" = none) (ha : PA X [a] (lAR X.K T E te)) (ok : BlkOk X.N X.env.scope scope own) (hjs : ∀ i ∈ js, i ∈ own.map (·.2))
    (hg : ∀ (s : Shared) (H : Hp) (C : Addr) (cl : List (Str × Addr)) (fp : List Addr), PG (X.blk s H scope (compEnvC scope cl C X.env) fp) tg (lG X.K T js g)) (ht : ∀ (s : Shared) (H : Hp) (C : Addr) (cl : List (Str × Addr)) (fp : List Addr), PTs (X.blk s H scope (compEnvC scope cl C X.env) fp) ifs (lB X.K T E0 c))
    (he : ∀ (s : Shared) (H : Hp) (C : Addr) (cl : List (Str × Addr)) (fp : List Addr), PE (X.blk s H scope (compEnvC scope cl C X.env) fp) elt (lF X.K T E0 e))
    (hsw : swapsWith (.ListComp elt [⟨tg, (.Call (.Name "range" p) [a] [] p2), ifs, 0⟩] scope pos) (some (.Name y py)) spos.line X.env = pure true) (hy : X.N[i]? = some y := by rfl) (hyl : X.env.scope.names.lookup y = some .local := by rfl) (hgr : Gl X "range" := by rfl) (hs1 : starEach [a] X.env = [(false, eval a X.env)] := by rfl) (hs : ∀ x, foldedSetIterable (.Call (.Name "range" p) [a] [] p2) X.env x = pure x := by intro _; rfl) :
    PS X (.Assign [.Name y py] (.ListComp elt [⟨tg, (.Call (.Name "range" p) [a] [] p2), ifs, 0⟩] scope pos) spos) (lS X.K T E (tSet i (tNF (tLc (tRg1 te) (own.map (·.2)) g c e)))) :=
  ps_imp (ps_setLc hc hN hy hyl hsw (pi_range1 hgr hm ha hs1) ok hg ht he hs) fun D σ H ⟨δ, G0, H0, G, Z, R, h, F⟩ => rd_lcR1 hjs σ H _ ⟨δ, G0, H0, G, _, _, F.lv R, h, fun ds hd a us H' G' x h1 h2 h3 r => by
    obtain ⟨x2, r2⟩ := frz_new (F.lv R) x h1 h2 h3 r
    exact F.nx _ _ _ H' x2.gg ((R.stp x2).setD r2) hd⟩
theorem pd_lcR2 {a a2 : Expr} (hc : X.calm = true) (hN : X.N.Nodup) (hm : X.mg "range" = none) (ha : PA X [a, a2] (lAR X.K T E te)) (ok : BlkOk X.N X.env.scope scope own) (hjs : ∀ i ∈ js, i ∈ own.map (·.2))
    (hg : ∀ (s : Shared) (H : Hp) (C : Addr) (cl : List (Str × Addr)) (fp : List Addr), PG (X.blk s H scope (compEnvC scope cl C X.env) fp) tg (lG X.K T js g)) (ht : ∀ (s : Shared) (H : Hp) (C : Addr) (cl : List (Str × Addr)) (fp : List Addr), PTs (X.blk s H scope (compEnvC scope cl C X.env) fp) ifs (lB X.K T E0 c))
    (he : ∀ (s : Shared) (H : Hp) (C : Addr) (cl : List (Str × Addr)) (fp : List Addr), PE (X.blk s H scope (compEnvC scope cl C X.env) fp) elt (lF X.K T E0 e)) (hgr : Gl X "range" := by rfl) (hs1 : starEach [a, a2] X.env = [(false, eval a X.env), (false, eval a2 X.env)] := by rfl) (hs2 : starEach [a2] X.env = [(false, eval a2 X.env)] := by rfl) (hs : ∀ x, foldedSetIterable (.Call (.Name "range" p) [a, a2] [] p2) X.env x = pure x := by intro _; rfl) :
    PE X (.ListComp elt [⟨tg, (.Call (.Name "range" p) [a, a2] [] p2), ifs, 0⟩] scope pos) (lN X.K T E (tLc (tRg2 te) (own.map (·.2)) g c e)) := pe_imp (pe_lc hc hN (pi_range2 hgr hm ha hs1 hs2) ok hg ht he hs) (rd_lcR2 hjs)
theorem pd_setLcR2 {a a2 : Expr} (i : Nat) {y : Str} {py spos : Pos} (hc : X.calm = true) (hN : X.N.Nodup) (hm : X.mg "range" = none) (ha : PA X [a, a2] (lAR X.K T E te)) (ok : BlkOk X.N X.env.scope scope own) (hjs : ∀ i ∈ js, i ∈ own.map (·.2))
    (hg : ∀ (s : Shared) (H : Hp) (C : Addr) (cl : List (Str × Addr)) (fp : List Addr), PG (X.blk s H scope (compEnvC scope cl C X.env) fp) tg (lG X.K T js g)) (ht : ∀ (s : Shared) (H : Hp) (C : Addr) (cl : List (Str × Addr)) (fp : List Addr), PTs (X.blk s H scope (compEnvC scope cl C X.env) fp) ifs (lB X.K T E0 c))
    (he : ∀ (s : Shared) (H : Hp) (C : Addr) (cl : List (Str × Addr)) (fp : List Addr), PE (X.blk s H scope (compEnvC scope cl C X.env) fp) elt (lF X.K T E0 e))
    (hsw : swapsWith (.ListComp elt [⟨tg, (.Call (.Name "range" p) [a, a2] [] p2), ifs, 0⟩] scope pos) (some (.Name y py)) spos.line X.env = pure true) (hy : X.N[i]? = some y := by rfl) (hyl : X.env.scope.names.lookup y = some .local := by rfl) (hgr : Gl X "range" := by rfl) (hs1 : starEach [a, a2] X.env = [(false, eval a X.env), (false, eval a2 X.env)] := by rfl) (hs2 : starEach [a2] X.env = [(false, eval a2 X.env)] := by rfl) (hs : ∀ x, foldedSetIterable (.Call (.Name "range" p) [a, a2] [] p2) X.env x = pure x := by intro _; rfl) :
    PS X (.Assign [.Name y py] (.ListComp elt [⟨tg, (.Call (.Name "range" p) [a, a2] [] p2), ifs, 0⟩] scope pos) spos) (lS X.K T E (tSetN i (tLc (tRg2 te) (own.map (·.2)) g c e))) :=
  ps_imp (ps_setLc hc hN hy hyl hsw (pi_range2 hgr hm ha hs1 hs2) ok hg ht he hs) fun D σ H ⟨δ, G0, H0, G, Z, R, h, F⟩ => rd_lcR2 hjs σ H _ ⟨δ, G0, H0, G, _, _, F.lv R, h, fun ds hd a us H' G' x h1 h2 h3 r => F.nx _ G' _ H' x.gg (rep_setN R x h1 h2 h3 r) hd⟩
theorem pd_setLfR2 {a a2 : Expr} (i : Nat) {y : Str} {py spos : Pos} (hc : X.calm = true) (hN : X.N.Nodup) (hm : X.mg "range" = none) (ha : PA X [a, a2] (lAR X.K T E te)) (ok : BlkOk X.N X.env.scope scope own) (hjs : ∀ i ∈ js, i ∈ own.map (·.2))
    (hg : ∀ (s : Shared) (H : Hp) (C : Addr) (cl : List (Str × Addr)) (fp : List Addr), PG (X.blk s H scope (compEnvC scope cl C X.env) fp) tg (lG X.K T js g)) (ht : ∀ (s : Shared) (H : Hp) (C : Addr) (cl : List (Str × Addr)) (fp : List Addr), PTs (X.blk s H scope (compEnvC scope cl C X.env) fp) ifs (lB X.K T E0 c))
    (he : ∀ (s : Shared) (H : Hp) (C : Addr) (cl : List (Str × Addr)) (fp : List Addr), PE (X.blk s H scope (compEnvC scope cl C X.env) fp) elt (lF X.K T E0 e))
    (hsw : swapsWith (.ListComp elt [⟨tg, (.Call (.Name "range" p) [a, a2] [] p2), ifs, 0⟩] scope pos) (some (.Name y py)) spos.line X.env = pure true) (hy : X.N[i]? = some y := by rfl) (hyl : X.env.scope.names.lookup y = some .local := by rfl) (hgr : Gl X "range" := by rfl) (hs1 : starEach [a, a2] X.env = [(false, eval a X.env), (false, eval a2 X.env)] := by rfl) (hs2 : starEach [a2] X.env = [(false, eval a2 X.env)] := by rfl) (hs : ∀ x, foldedSetIterable (.Call (.Name "range" p) [a, a2] [] p2) X.env x = pure x := by intro _; rfl) :
    PS X (.Assign [.Name y py] (.ListComp elt [⟨tg, (.Call (.Name "range" p) [a, a2] [] p2), ifs, 0⟩] scope pos) spos) (lS X.K T E (tSet i (tNF (tLc (tRg2 te) (own.map (·.2)) g c e)))) :=
  ps_imp (ps_setLc hc hN hy hyl hsw (pi_range2 hgr hm ha hs1 hs2) ok hg ht he hs) fun D σ H ⟨δ, G0, H0, G, Z, R, h, F⟩ => rd_lcR2 hjs σ H _ ⟨δ, G0, H0, G, _, _, F.lv R, h, fun ds hd a us H' G' x h1 h2 h3 r => by
    obtain ⟨x2, r2⟩ := frz_new (F.lv R) x h1 h2 h3 r
    exact F.nx _ _ _ H' x2.gg ((R.stp x2).setD r2) hd⟩
end
end Wn

set_option Elab.async false
set_option linter.all false
set_option maxRecDepth 100000
set_option maxHeartbeats 4000000
namespace Wn
open PySem PySem.Spec PyProof.Rows L2
/-- a value to be stored: data, a new list, a new empty dict (keys ints and texts; tuples) -/
inductive MI where
  | f (d : D) | n (xs : List D) | k | t
def MI.slot : MI → Slot
  | .f d => .d d
  | .n xs => .ow xs
  | .k => .oK [] []
  | .t => .oT [] []
def MI.fresh : MI → Bool
  | .f _ => false
  | _ => true
def MiOk (K : PySem.W.Frag) (HS G H : Hp) : MI → V → Prop
  | .f d, v => Rp K G d v
  | .n xs, v => ∃ a us, v = .ref a ∧ HS a = none ∧ G a = none ∧ H a = some (.lst us) ∧ RpA K G xs us
  | .k, v => ∃ a, v = .ref a ∧ HS a = none ∧ G a = none ∧ H a = some (.dK [])
  | .t, v => ∃ a, v = .ref a ∧ HS a = none ∧ G a = none ∧ H a = some (.dT [])
def MisOk (K : PySem.W.Frag) (HS G H : Hp) : List MI → List V → Prop
  | [], vs => vs = []
  | m :: ms, vs => ∃ v r, vs = v :: r ∧ MiOk K HS G H m v ∧ MisOk K HS G H ms r ∧ ∀ a, m.fresh = true → v = .ref a → ∀ b, (∃ i : Nat, (∃ m', ms[i]? = some m' ∧ m'.fresh = true) ∧ r[i]? = some (V.ref b)) → a ≠ b
abbrev TDM := DE → (List MI → Prop) → (Addr → Prop) → Prop
def lM (K : PySem.W.Frag) (T : Tbl) (E : XK) (t : TDM) : TA := fun σ H Q => ∃ δ G0 H0 G P EP, Lv K T E G0 H0 G H σ δ EP ∧ t δ P EP ∧ ∀ ms, P ms → ∀ vs H' G', Stp T δ.s G G' H H' → MisOk K H G' H' ms vs → Q vs H'
def tM0 : TDM := fun _ P _ => P []
def tMF (t : TD) (r : TDM) : TDM := fun δ P EP => t δ (fun d => r δ (fun ms => P (.f d :: ms)) EP) EP
def tMN (t : TDL) (r : TDM) : TDM := fun δ P EP => t δ (fun d => r δ (fun ms => P (.n d :: ms)) EP) EP
def tMK (r : TDM) : TDM := fun δ P EP => r δ (fun ms => P (.k :: ms)) EP
def tMT (r : TDM) : TDM := fun δ P EP => r δ (fun ms => P (.t :: ms)) EP
section
variable {K : PySem.W.Frag} {T : Tbl} {s : Option Addr} {HS HS' G0 H0 G G' H H' : Hp} {σ : L2.St} {δ : DE}
theorem MiOk.new {m : MI} {v : V} (h : MiOk K HS G H m v) (f : m.fresh = true) : ∃ a o, v = .ref a ∧ HS a = none ∧ H a = some o := by
  cases m with
  | f d => cases f
  | n xs =>
    obtain ⟨a, us, e, h1, _, h3, _⟩ := h
    exact ⟨a, _, e, h1, h3⟩
  | k =>
    obtain ⟨a, e, h1, _, h3⟩ := h
    exact ⟨a, _, e, h1, h3⟩
  | t =>
    obtain ⟨a, e, h1, _, h3⟩ := h
    exact ⟨a, _, e, h1, h3⟩
theorem MisOk.back {HS' : Hp} (b : ∀ a, HS a = none → HS' a = none) : ∀ {ms : List MI} {vs : List V}, MisOk K HS G H ms vs → MisOk K HS' G H ms vs
  | [], vs, h => h
  | m :: ms, vs, ⟨v, r, e, h1, h2, h3⟩ => ⟨v, r, e, by
      cases m with
      | f d => exact h1
      | n xs =>
        obtain ⟨a, us, e, q, r⟩ := h1
        exact ⟨a, us, e, b a q, r⟩
      | k =>
        obtain ⟨a, e, q, r⟩ := h1
        exact ⟨a, e, b a q, r⟩
      | t =>
        obtain ⟨a, e, q, r⟩ := h1
        exact ⟨a, e, b a q, r⟩, MisOk.back b h2, h3⟩
theorem MisOk.at_new : ∀ {ms : List MI} {vs : List V}, MisOk K HS G H ms vs → ∀ b, (∃ i : Nat, (∃ m', ms[i]? = some m' ∧ m'.fresh = true) ∧ vs[i]? = some (V.ref b)) → HS b = none ∧ ∃ o, H b = some o
  | [], vs, h, b, ⟨i, ⟨m', hm, _⟩, _⟩ => by simp at hm
  | m :: ms, vs, ⟨v, r, e, h1, h2, h3⟩, b, ⟨i, ⟨m', hm, hf⟩, hv⟩ => by
    rw [e] at hv
    cases i with
    | zero =>
      simp at hm hv
      subst hm
      obtain ⟨a, o, ea, n1, n2⟩ := h1.new hf
      rw [ea] at hv
      cases hv
      exact ⟨n1, o, n2⟩
    | succ i => exact MisOk.at_new h2 b ⟨i, ⟨m', by simpa using hm, hf⟩, by simpa using hv⟩
/-- what was made ahead stands behind a step -/
theorem MiOk.stp (R : Rep K T G0 H0 G H σ δ) (x : Stp T δ.s G G' H H') (hs : ∀ a, δ.s = some a → HS a ≠ none) {m : MI} {v : V} (h : MiOk K HS G H m v) : MiOk K HS G' H' m v := by
  have key : ∀ a o, HS a = none → G a = none → H a = some o → NT o → G' a = none ∧ H' a = some o := fun a o h1 h2 h3 h4 => by
    have c : δ.s ≠ some a := fun z => hs a z h1
    refine ⟨?_, (vw_of (x.gr.ex a o (vw_at h3 c h4))).1⟩
    cases e : G' a with
    | none => rfl
    | some z =>
      rcases x.nw a (by rw [e]; simp) with q | q
      · exact absurd h2 q
      · rw [h3] at q
        cases q
  cases m with
  | f d => exact Rp.mono x.gg d v h
  | n xs =>
    obtain ⟨a, us, e, h1, h2, h3, h4⟩ := h
    obtain ⟨k1, k2⟩ := key a _ h1 h2 h3 fun ps z => by cases z
    exact ⟨a, us, e, h1, k1, k2, h4.mono x.gg⟩
  | k =>
    obtain ⟨a, e, h1, h2, h3⟩ := h
    obtain ⟨k1, k2⟩ := key a _ h1 h2 h3 fun ps z => by cases z
    exact ⟨a, e, h1, k1, k2⟩
  | t =>
    obtain ⟨a, e, h1, h2, h3⟩ := h
    obtain ⟨k1, k2⟩ := key a _ h1 h2 h3 fun ps z => by cases z
    exact ⟨a, e, h1, k1, k2⟩
/-- one value and the rest -/
theorem mis_cons {G1 H1 : Hp} (R : Rep K T G0 H0 G H σ δ) (x1 : Stp T δ.s G G1 H H1) {m : MI} {v : V} (hm : MiOk K H G1 H1 m v) {ms : List MI} {vs : List V} (x2 : Stp T δ.s G1 G' H1 H') (hr : MisOk K H1 G' H' ms vs) : MisOk K H G' H' (m :: ms) (v :: vs) := by
  have hs : ∀ a, δ.s = some a → H a ≠ none := fun a e z => by
    obtain ⟨p, q, w, _⟩ := R.src a e
    rw [z] at w
    cases w
  refine ⟨v, vs, rfl, hm.stp (R.stp x1) x2 hs, hr.back fun a h => x1.gr.none_of h, fun a hf ev b hb z => ?_⟩
  obtain ⟨n1, _⟩ := hr.at_new b hb
  obtain ⟨a', o, ea, _, n2⟩ := hm.new hf
  rw [ev] at ea
  cases ea
  rw [← z, n2] at n1
  cases n1
end
section
variable {X : Cx} {K : PySem.W.Frag} {T : Tbl} {E : XK} {e : Expr} {es : List Expr} {t : TD} {tl : TDL} {r : TDM} {pos : Pos}
theorem pd_m0 : PA X [] (lM K T E tM0) := pa_imp pa_nil fun σ H Q ⟨δ, G0, H0, G, P, EP, L, ht, k⟩ => k [] ht [] H G (.refl L.rep.gv) rfl
theorem pd_mF (h : PE X e (lF K T E t)) (hr : PA X es (lM K T E r)) (hs : starEach (e :: es) X.env = (false, eval e X.env) :: starEach es X.env := by rfl) : PA X (e :: es) (lM K T E (tMF t r)) :=
  pa_imp (pa_cons h hr hs) fun σ H Q ⟨δ, G0, H0, G, P, EP, L, ht, k⟩ => ⟨δ, G0, H0, G, _, EP, L, ht, fun d hd v H1 G1 x1 r1 => ⟨δ, G0, H0, G1, _, EP, L.stp x1, hd, fun ms hms vs H2 G2 x2 r2 =>
    k _ hms _ H2 G2 (x1.trans x2) (mis_cons L.rep x1 (m := .f d) r1 x2 r2)⟩⟩
theorem pd_mN (h : PE X e (lN K T E tl)) (hr : PA X es (lM K T E r)) (hs : starEach (e :: es) X.env = (false, eval e X.env) :: starEach es X.env := by rfl) : PA X (e :: es) (lM K T E (tMN tl r)) :=
  pa_imp (pa_cons h hr hs) fun σ H Q ⟨δ, G0, H0, G, P, EP, L, ht, k⟩ => ⟨δ, G0, H0, G, _, EP, L, ht, fun d hd a us H1 G1 x1 h1 h2 h3 r1 => ⟨δ, G0, H0, G1, _, EP, L.stp x1, hd, fun ms hms vs H2 G2 x2 r2 =>
    k _ hms _ H2 G2 (x1.trans x2) (mis_cons L.rep x1 (m := .n d) ⟨a, us, rfl, h1, h2, h3, r1⟩ x2 r2)⟩⟩
theorem pd_mK (hr : PA X es (lM K T E r)) (hs : starEach (.Dict [] [] pos :: es) X.env = (false, eval (.Dict [] [] pos) X.env) :: starEach es X.env := by rfl) : PA X (.Dict [] [] pos :: es) (lM K T E (tMK r)) :=
  pa_imp (pa_cons pe_dnewK hr hs) fun σ H Q ⟨δ, G0, H0, G, P, EP, L, ht, k⟩ => fun p hp => by
    have x1 : Stp T δ.s G G H (upd H p (.dK [])) := .of_gr L.rep.gv (.new hp)
    exact ⟨δ, G0, H0, G, _, EP, L.stp x1, ht, fun ms hms vs H2 G2 x2 r2 => k _ hms _ H2 G2 (x1.trans x2) (mis_cons L.rep x1 (m := .k) ⟨p, rfl, hp, L.rep.gnone hp, upd_same⟩ x2 r2)⟩
theorem pd_mT (hr : PA X es (lM K T E r)) (hs : starEach (.Dict [] [] pos :: es) X.env = (false, eval (.Dict [] [] pos) X.env) :: starEach es X.env := by rfl) : PA X (.Dict [] [] pos :: es) (lM K T E (tMT r)) :=
  pa_imp (pa_cons pe_dnewT hr hs) fun σ H Q ⟨δ, G0, H0, G, P, EP, L, ht, k⟩ => fun p hp => by
    have x1 : Stp T δ.s G G H (upd H p (.dT [])) := .of_gr L.rep.gv (.new hp)
    exact ⟨δ, G0, H0, G, _, EP, L.stp x1, ht, fun ms hms vs H2 G2 x2 r2 => k _ hms _ H2 G2 (x1.trans x2) (mis_cons L.rep x1 (m := .t) ⟨p, rfl, hp, L.rep.gnone hp, upd_same⟩ x2 r2)⟩
/-- the values are stored, one after another -/
theorem rep_mi {G0 H0 HS G H : Hp} {σ : L2.St} {δ : DE} {i : Nat} {m : MI} {v : V} (R : Rep K T G0 H0 G H σ δ) (h0 : ∀ a, HS a = none → H0 a = none) (hs : ∀ a, δ.s = some a → HS a ≠ none) (h : MiOk K HS G H m v) (hn : ∀ a, m.fresh = true → v = .ref a → ∀ j : Nat, isOwn δ.sl[j]? = true → σ[j]? ≠ some (some (V.ref a))) :
    Rep K T G0 H0 G H (σ.set i (some v)) (δ.set i m.slot) := by
  cases m with
  | f d => exact R.setD h
  | n xs =>
    obtain ⟨a, us, e, h1, h2, h3, h4⟩ := h
    rw [e]
    exact R.setO ⟨a, us, rfl, h0 a h1, fun z => hs a z h1, h2, h3, h4⟩ fun j _ => hn a rfl e j
  | k =>
    obtain ⟨a, e, h1, h2, h3⟩ := h
    rw [e]
    exact R.setO (o := .oK [] []) ⟨a, [], rfl, h0 a h1, fun z => hs a z h1, h2, h3, rfl, rfl⟩ fun j _ => hn a rfl e j
  | t =>
    obtain ⟨a, e, h1, h2, h3⟩ := h
    rw [e]
    exact R.setO (o := .oT [] []) ⟨a, [], rfl, h0 a h1, fun z => hs a z h1, h2, h3, rfl, rfl⟩ fun j _ => hn a rfl e j
theorem set_no {σ : L2.St} {δ : DE} {i : Nat} {m : MI} {v : V} {b : Addr} (hi : i < σ.length) (h : ∀ j : Nat, isOwn δ.sl[j]? = true → σ[j]? ≠ some (some (V.ref b))) (hb : m.fresh = true → v ≠ .ref b) : ∀ j : Nat, isOwn (δ.set i m.slot).sl[j]? = true → (σ.set i (some v))[j]? ≠ some (some (V.ref b)) := fun j hj z => by
  have hj : isOwn (δ.sl.set i m.slot)[j]? = true := hj
  by_cases c : i = j
  · subst c
    rw [List.getElem?_set_self hi] at z
    have z2 : v = .ref b := Option.some.inj (Option.some.inj z)
    cases hf : m.fresh with
    | true => exact hb hf z2
    | false =>
      by_cases hl : i < δ.sl.length
      · rw [List.getElem?_set_self hl] at hj
        cases m with
        | f d => cases hj
        | _ => cases hf
      · rw [List.getElem?_eq_none (by rw [List.length_set]; omega)] at hj
        cases hj
  · rw [List.getElem?_set_ne c] at hj z
    exact h j hj z
def tPar2 (i j : Nat) (t : TDM) : TDS := fun δ Z => t δ (fun ms => match ms with
  | [m, m'] => Z.nx ((δ.set i m.slot).set j m'.slot)
  | _ => False) (Z.ex δ.s)
def tPar3 (i j l : Nat) (t : TDM) : TDS := fun δ Z => t δ (fun ms => match ms with
  | [m, m', m2] => Z.nx (((δ.set i m.slot).set j m'.slot).set l m2.slot)
  | _ => False) (Z.ex δ.s)
theorem pd_par2 (i j : Nat) {x y : Str} {a b : Expr} {px py pt : Pos} {kt k2 pt2} (hc : X.calm = true) (hN : X.N.Nodup) (ha : PA X [a, b] (lM K T E r)) (hw : swappedStores [.Tuple [.Name x px, .Name y py] kt pt] (.Tuple [a, b] k2 pt2) X.env = pure (some [x, y])) (hi : X.N[i]? = some x := by rfl) (hj : X.N[j]? = some y := by rfl) (hij : i ≠ j := by decide)
    (hx : X.env.scope.names.lookup x = some .local := by rfl) (hy : X.env.scope.names.lookup y = some .local := by rfl) (hs : swapsWithSole [.Tuple [.Name x px, .Name y py] kt pt] (.Tuple [a, b] k2 pt2) pos.line X.env = pure false := by rfl) :
    PS X (.Assign [.Tuple [.Name x px, .Name y py] kt pt] (.Tuple [a, b] k2 pt2) pos) (lS K T E (tPar2 i j r)) :=
  ⟨fun pins s σ H D I ⟨δ, G0, H0, G, Z, R, h, F⟩ => (ps_par hc hN hi hj hij hx hy ha hw hs).run pins s σ H D I ⟨δ, G0, H0, G, _, _, F.lv R, h, fun ms hms vs H' G' x r => by
    split at hms
    · rename_i m m'
      obtain ⟨v, r1, e1, h1, h2, h3⟩ := r
      obtain ⟨v', r2, e2, h4, h5, _⟩ := h2
      rw [show r2 = [] from h5] at e2
      rw [e2] at e1 h3
      have hl : σ.length = X.N.length := I.len
      have li : i < σ.length := by rw [hl]; exact (List.getElem?_eq_some_iff.mp hi).1
      have h0 : ∀ a, H a = none → H0 a = none := fun a h => R.st.gr.none_of h
      have hsr : ∀ a, δ.s = some a → H a ≠ none := fun a e z => by
        obtain ⟨p, q, w, _⟩ := R.src a e
        rw [z] at w
        cases w
      have n0 : ∀ (m : MI) (v : V), MiOk K H G' H' m v → ∀ a, m.fresh = true → v = .ref a → ∀ j : Nat, isOwn δ.sl[j]? = true → σ[j]? ≠ some (some (V.ref a)) := fun m v hm a hf ev j hj => by
        obtain ⟨a', o, ea, n1, _⟩ := hm.new hf
        rw [ev] at ea
        cases ea
        exact R.own_ne n1 j hj
      have R1 := rep_mi (i := i) (R.stp x) h0 hsr h1 (n0 m v h1)
      have R2 := rep_mi (i := j) R1 h0 hsr h4 fun a hf ev => set_no li (n0 m' v' h4 a hf ev) fun hf1 z => h3 a hf1 z a ⟨0, ⟨m', rfl, hf⟩, by rw [ev] <;> rfl⟩ rfl
      exact ⟨v, v', e1, F.nx _ G' _ H' x.gg R2 hms⟩
    · exact hms.elim⟩⟩
theorem pd_par3 (i j l : Nat) {x y z : Str} {a b c : Expr} {px py pz pt : Pos} {kt k2 pt2} (hc : X.calm = true) (hN : X.N.Nodup) (ha : PA X [a, b, c] (lM K T E r)) (hw : swappedStores [.Tuple [.Name x px, .Name y py, .Name z pz] kt pt] (.Tuple [a, b, c] k2 pt2) X.env = pure (some [x, y, z])) (hi : X.N[i]? = some x := by rfl) (hj : X.N[j]? = some y := by rfl) (hl : X.N[l]? = some z := by rfl) (hij : i ≠ j := by decide) (hil : i ≠ l := by decide) (hjl : j ≠ l := by decide)
    (hx : X.env.scope.names.lookup x = some .local := by rfl) (hy : X.env.scope.names.lookup y = some .local := by rfl) (hz : X.env.scope.names.lookup z = some .local := by rfl) (hs : swapsWithSole [.Tuple [.Name x px, .Name y py, .Name z pz] kt pt] (.Tuple [a, b, c] k2 pt2) pos.line X.env = pure false := by rfl) :
    PS X (.Assign [.Tuple [.Name x px, .Name y py, .Name z pz] kt pt] (.Tuple [a, b, c] k2 pt2) pos) (lS K T E (tPar3 i j l r)) :=
  ⟨fun pins s σ H D I ⟨δ, G0, H0, G, Z, R, h, F⟩ => (ps_par3 hc hN hi hj hl hij hil hjl hx hy hz ha hw hs).run pins s σ H D I ⟨δ, G0, H0, G, _, _, F.lv R, h, fun ms hms vs H' G' x r => by
    split at hms
    · rename_i m m' m2
      obtain ⟨v, r1, e1, h1, h2, h3⟩ := r
      obtain ⟨v', r2, e2, h4, h5, h6⟩ := h2
      obtain ⟨v2, r3, e3, h7, h8, _⟩ := h5
      rw [show r3 = [] from h8] at e3
      rw [e3] at e2 h6
      rw [e2] at e1 h3
      have hl : σ.length = X.N.length := I.len
      have li : i < σ.length := by rw [hl]; exact (List.getElem?_eq_some_iff.mp hi).1
      have lj : j < (σ.set i (some v)).length := by rw [List.length_set, hl]; exact (List.getElem?_eq_some_iff.mp hj).1
      have h0 : ∀ a, H a = none → H0 a = none := fun a h => R.st.gr.none_of h
      have hsr : ∀ a, δ.s = some a → H a ≠ none := fun a e z => by
        obtain ⟨p, q, w, _⟩ := R.src a e
        rw [z] at w
        cases w
      have n0 : ∀ (m : MI) (v : V), MiOk K H G' H' m v → ∀ a, m.fresh = true → v = .ref a → ∀ j : Nat, isOwn δ.sl[j]? = true → σ[j]? ≠ some (some (V.ref a)) := fun m v hm a hf ev j hj => by
        obtain ⟨a', o, ea, n1, _⟩ := hm.new hf
        rw [ev] at ea
        cases ea
        exact R.own_ne n1 j hj
      have R1 := rep_mi (i := i) (R.stp x) h0 hsr h1 (n0 m v h1)
      have R2 := rep_mi (i := j) R1 h0 hsr h4 fun a hf ev => set_no li (n0 m' v' h4 a hf ev) fun hf1 z => h3 a hf1 z a ⟨0, ⟨m', rfl, hf⟩, by rw [ev] <;> rfl⟩ rfl
      have R3 := rep_mi (i := l) R2 h0 hsr h7 fun a hf ev => set_no lj (set_no li (n0 m2 v2 h7 a hf ev) fun hf1 z => h3 a hf1 z a ⟨1, ⟨m2, rfl, hf⟩, by rw [ev] <;> rfl⟩ rfl) fun hf1 z => h6 a hf1 z a ⟨0, ⟨m2, rfl, hf⟩, by rw [ev] <;> rfl⟩ rfl
      exact ⟨v, v', v2, e1, F.nx _ G' _ H' x.gg R3 hms⟩
    · exact hms.elim⟩⟩
end
end Wn

set_option Elab.async false
set_option linter.all false
set_option maxRecDepth 100000
set_option maxHeartbeats 4000000
namespace Wn
open PySem PySem.Spec PyProof.Rows L2 HotX L2H
section
variable {prog : Program} {w : World} {A : Around} {E : Value → Shared → Prop} {s : Shared}
theorem end_list_hot {it l x1 : Addr} {i : Nat} {items} {Q : Option Value → Shared → Prop} (hot : HotAt A x1 s.heap) (nx : it ≠ x1) (hit : s.heap.IsListIter it l i) (hl : s.heap.IsList l items) (hx : items[i]? = none) (hQ : ∀ h', Heap.ExtBut it s.heap h' → Q none { s with heap := h' }) : wpAny (model prog w) A (pyNext (.ref it)) Q E s := by
  obtain ⟨o, ho, hc, hd⟩ := id hit
  obtain ⟨ol, hol, qc, nl, hdl⟩ := hl
  obtain ⟨hh, o1, vs1, e1, d1, c1⟩ := hot
  unfold pyNext
  refine wpAny_bind (wpAny_attempt (wpAny_callSpecial?_slot (name := Str.ofString "__next__") hit.typeIs slot_listiter_next (wpAny_call_entry slot_listiter_next hit.typeIs entry_listiter_next ?_ (args_listiter_next _))))
  show wpAny _ _ (field (.ref it) 0 >>= _) _ _ s; refine wpAny_bind (wpAny_field ho hd (x := .ref l) rfl ?_)
  show wpAny _ _ (if (Value.ref l == Value.none) = true then _ else _) _ _ s; rw [if_neg (show ¬ ((Value.ref l == Value.none) = true) from Bool.false_ne_true)]
  show wpAny _ _ (field (.ref it) 1 >>= _) _ _ s; refine wpAny_bind (wpAny_field ho hd (x := .int i 0) rfl ?_)
  show wpAny _ _ (seqItems? (.ref l) >>= _) _ _ s; refine wpAny_bind (wpAny_seqItems hol hdl ?_)
  simp only [Int.toNat_natCast, hx]
  refine wpAny_bind (wpAny_rule (wpAny_bind (wpAny_setField ho hd (by simp) ?_)))
  show wpAny _ _ (newExc (.type "StopIteration") [] >>= _) _ _ _; refine wpAny_bind ?_
  simp only [newExc, newTuple]
  refine wpAny_bind (wpAny_newObj_type (wpAny_bind (m := firstArgMember _ _) (wpAny_of_eq (a := Value.none) (by first | rfl | (simp only [firstArgMember]; rfl)) (wpAny_newObj_type ?_ (by size_fits)))) (by size_fits))
  have u1 := (Heap.get?_update_other s.heap (Obj.mapFields (·.setIfInBounds 0 Value.none)) nx).trans e1
  have u2 := Heap.get?_push_of_some { cls := .type "tuple", data := .seq #[] } u1
  refine raiseNew_hot ⟨hh, o1, vs1, Heap.get?_push_of_some _ (Heap.get?_push_of_some _ u1), d1, c1⟩ (Nat.ne_of_lt (Heap.lt_size (Heap.get?_push_of_some _ u1))) (Heap.get?_push_size _ rfl) rfl (by first | (simp; done) | (simp; omega) | (simp only [Array.size_append]; simp; omega)) ?_
  refine wpAny_bind (wpAny_isInstance (T := "StopIteration") (b := true) ⟨_, Heap.get?_update_self _ (Heap.get?_push_size _ rfl) rfl, rfl⟩ isSubtype_stop (wpAny_pure (hQ _ fun b o hb e => ?_)))
  have v1 := (Heap.get?_update_other s.heap (Obj.mapFields (·.setIfInBounds 0 Value.none)) (Ne.symm hb)).trans e
  rw [Heap.get?_update_other _ _ (Nat.ne_of_gt (Heap.lt_size (Heap.get?_push_of_some _ v1))), Heap.get?_push_of_some _ (Heap.get?_push_of_some _ v1)]
theorem end_tup_hot {it l x1 : Addr} {i : Nat} {items} {Q : Option Value → Shared → Prop} (hot : HotAt A x1 s.heap) (nx : it ≠ x1) (hit : IsTupIter s.heap it l i) (hl : IsTup s.heap l items) (hx : items[i]? = none) (hQ : ∀ h', Heap.ExtBut it s.heap h' → Q none { s with heap := h' }) : wpAny (model prog w) A (pyNext (.ref it)) Q E s := by
  obtain ⟨o, ho, hc, hd⟩ := id hit
  obtain ⟨ol, hol, qc, nl, hdl⟩ := hl
  obtain ⟨hh, o1, vs1, e1, d1, c1⟩ := hot
  unfold pyNext
  refine wpAny_bind (wpAny_attempt (wpAny_callSpecial?_slot (name := Str.ofString "__next__") hit.typeIs slot_tupleiter_next (wpAny_call_entry slot_tupleiter_next hit.typeIs entry_tupleiter_next ?_ (args_tupleiter_next _))))
  show wpAny _ _ (field (.ref it) 0 >>= _) _ _ s; refine wpAny_bind (wpAny_field ho hd (x := .ref l) rfl ?_)
  show wpAny _ _ (if (Value.ref l == Value.none) = true then _ else _) _ _ s; rw [if_neg (show ¬ ((Value.ref l == Value.none) = true) from Bool.false_ne_true)]
  show wpAny _ _ (field (.ref it) 1 >>= _) _ _ s; refine wpAny_bind (wpAny_field ho hd (x := .int i 0) rfl ?_)
  show wpAny _ _ (seqItems? (.ref l) >>= _) _ _ s; refine wpAny_bind (wpAny_seqItems hol hdl ?_)
  simp only [Int.toNat_natCast, hx]
  refine wpAny_bind (wpAny_rule (wpAny_bind (wpAny_setField ho hd (by simp) ?_)))
  show wpAny _ _ (newExc (.type "StopIteration") [] >>= _) _ _ _; refine wpAny_bind ?_
  simp only [newExc, newTuple]
  refine wpAny_bind (wpAny_newObj_type (wpAny_bind (m := firstArgMember _ _) (wpAny_of_eq (a := Value.none) (by first | rfl | (simp only [firstArgMember]; rfl)) (wpAny_newObj_type ?_ (by size_fits)))) (by size_fits))
  have u1 := (Heap.get?_update_other s.heap (Obj.mapFields (·.setIfInBounds 0 Value.none)) nx).trans e1
  have u2 := Heap.get?_push_of_some { cls := .type "tuple", data := .seq #[] } u1
  refine raiseNew_hot ⟨hh, o1, vs1, Heap.get?_push_of_some _ (Heap.get?_push_of_some _ u1), d1, c1⟩ (Nat.ne_of_lt (Heap.lt_size (Heap.get?_push_of_some _ u1))) (Heap.get?_push_size _ rfl) rfl (by first | (simp; done) | (simp; omega) | (simp only [Array.size_append]; simp; omega)) ?_
  refine wpAny_bind (wpAny_isInstance (T := "StopIteration") (b := true) ⟨_, Heap.get?_update_self _ (Heap.get?_push_size _ rfl) rfl, rfl⟩ isSubtype_stop (wpAny_pure (hQ _ fun b o hb e => ?_)))
  have v1 := (Heap.get?_update_other s.heap (Obj.mapFields (·.setIfInBounds 0 Value.none)) (Ne.symm hb)).trans e
  rw [Heap.get?_update_other _ _ (Nat.ne_of_gt (Heap.lt_size (Heap.get?_push_of_some _ v1))), Heap.get?_push_of_some _ (Heap.get?_push_of_some _ v1)]
/-- a tuple unpacked -/
theorem assign_tup_hot {x1 : Addr} {env : Env} {elts : List Expr} {k1} {pos : Pos} {t : Addr} {items : Array Value} {Q : Unit → Shared → Prop} (hot : HotAt A x1 s.heap) (ht : IsTup s.heap t items) (hn : (assignEach elts env).length = items.size) (hstar : (assignEach elts env).findIdx? (·.1) = none)
    (h : ∀ h', Heap.ExtBut s.heap.objs.size s.heap h' → wpAny (model prog w) A (assignInOrder ((assignEach elts env).map (·.2)) items.toList) Q E { s with heap := h' }) : wpAny (model prog w) A (assign (.Tuple elts k1 pos) env (.ref t)) Q E s := by
  obtain ⟨hh, o1, vs1, e1, d1, c1⟩ := hot
  have hlt : t ≠ s.heap.objs.size := by obtain ⟨o, ho, _⟩ := ht; exact Nat.ne_of_lt (Heap.lt_size ho)
  rw [assign_Tuple]
  refine wpAny_bind (wpAny_standAt ?_)
  unfold unpack
  rw [hn, hstar]
  refine wpAny_bind (wpAny_holding ?_)
  unfold unpackItems
  refine wpAny_bind ?_
  unfold notIterableAtAll
  refine wpAny_bind (wpAny_specialOf ht.typeIs slot_tuple_iter.lookup (wpAny_pure ?_))
  simp only [Bool.false_eq_true, if_false]
  refine wpAny_bind (wpAny_holding (iter_tuple ht (wpAny_bind (wpAny_holding (draw_tuple hlt items.size 0 _ _ ⟨_, Heap.get?_push_size _ rfl, rfl, rfl⟩ (ht.push _) (by omega) fun h₁ hit₁ hs₁ => ?_)))))
  rw [show List.take items.size (List.drop 0 items.toList) = items.toList from by rw [List.drop_zero]; exact List.take_of_length_le (by simp), if_neg (by simp)]
  have q1 : h₁.get? x1 = some o1 := hs₁.extBut x1 o1 (Nat.ne_of_lt (Heap.lt_size e1)) (Heap.get?_push_of_some _ e1)
  refine wpAny_bind (wpAny_holding (end_tup_hot (x1 := x1) ⟨hh, o1, vs1, q1, d1, c1⟩ (Nat.ne_of_gt (Heap.lt_size e1)) hit₁ ((ht.push _).extBut hs₁.extBut hlt) (by simp) fun h₂ he₂ => ?_))
  simp only [Option.isSome_none, Bool.false_eq_true, if_false]
  exact wpAny_pure (h h₂ fun b o hb e => he₂ b o hb (hs₁.extBut b o hb (Heap.get?_push_of_some _ e)))
end
section
variable {X : Cx}
theorem pg_tupH {es : List Expr} {k n : Nat} {t : TGs} {pos : Pos} (hc : HotC X) (h : PGs X es t) (hn : (assignEach es X.env).length = n := by rfl) (hst : (assignEach es X.env).findIdx? (·.1) = none := by rfl) : PG X (.Tuple es k pos) (L2.gTup X.K n t) := by
  refine ⟨fun pins s σ H v u Q I r ⟨a, xs, e1, hq, hl, hw⟩ => ?_⟩
  subst e1
  cases r
  obtain ⟨its, rv, ht, hz⟩ := I.tuple hq
  obtain ⟨x1, hot⟩ := hc.at I
  refine assign_tup_hot hot ht (by simp [hn, ← hl, rv.length]) hst fun h' hx => ?_
  have I1 : Inv X pins σ H { s with heap := h' } := I.kept (t' := s.toks) fun b o e => hx b o (Nat.ne_of_lt (Heap.lt_size e)) e
  exact h.run pins _ σ H xs _ Q I1 (by simpa using rv) hw
theorem turn_listH {P : Program} {w : World} {K : PySem.W.Frag} {tg : Expr} (a it : Addr) : TurnH P w K tg (Itl K a) [it] it (fun i h => h.IsListIter it a i) where
  mem := by simp
  obj := fun i h st b hb => by
    obtain ⟨o, e, c, d⟩ := st
    rw [show b = it from by simpa using hb]
    exact ⟨o, e, fun v z => by rw [d] at z; cases z⟩
  keep := fun i h h' st k => st.at fun o e => k it (by simp) o e
  item := fun X hP hw hK hc i pins s σ H E I hf st hg => by
    subst hP hw hK
    obtain ⟨xs, x, hq, hx⟩ := hg
    obtain ⟨its, rv, p, hz⟩ := I.list hq
    obtain ⟨u, hu, ru⟩ := rv.get hx
    obtain ⟨f0, f1, f2, f3, f4, f5⟩ := hf it (by simp)
    refine wpAny_pyNext_list_item st p.isList (x := u) (by simpa using hu) fun h' st' sb => ?_
    obtain ⟨o, e, c, d⟩ := id st'
    refine ⟨u, rfl, go_of (s := { s with heap := h' }) e c d (by decide) ⟨x, H, I.turned (t' := s.toks) (fun b o hb e => (sb.2 b hb).trans e) f0 f1 f3 f4 f5, ru, ⟨rfl, fun ys hy => ?_⟩, st', fun b hb => (hf b hb).1⟩⟩
    rw [I.list_inj hy hq]
    exact hx
  done := fun X hP hw hK hc i pins s σ H E I hf st hg => by
    subst hP hw hK
    obtain ⟨xs, hq, hx⟩ := hg
    obtain ⟨its, rv, p, hz⟩ := I.list hq
    obtain ⟨f0, f1, f2, f3, f4, f5⟩ := hf it (by simp)
    have hl := rv.length
    obtain ⟨q, ⟨hh, v1, e1, c1⟩, hp⟩ := hc
    exact end_list_hot (x1 := q.1) ⟨hh, q.2, v1, (I.pin q (List.mem_append_left _ hp)).1, e1, c1⟩ (Ne.symm (f5 q (List.mem_append_left _ hp))) st p.isList (by simp; omega) fun h' eb => ⟨rfl, I.turned (t' := s.toks) (fun b o hb e => eb b o hb e) f0 f1 f3 f4 f5⟩
  self := fun _ _ _ _ _ st h => wpAny_pyIter_listiter st h
theorem pi_listH {tg l : Expr} {tl : TE} (hl : PE X l tl) : PIH X tg l (iList X.K tl) := by
  refine ⟨fun pins s σ H R I h => thn (hl.run pins s σ H _ I h) fun v s1 ⟨x, H1, I1, r1, a, e, ⟨xs, hq⟩, q⟩ => ?_⟩
  subst e
  cases r1
  obtain ⟨its, rv, p, hz⟩ := I1.list hq
  refine wpAny_pyIter_list p.isList ⟨s1.heap.objs.size, [s1.heap.objs.size], _, _, H1, rfl, I1.kept (t' := s1.toks) fun b o e => Heap.get?_push_of_some _ e, turn_listH a _, ⟨_, Heap.get?_push_size _ rfl, rfl, rfl⟩, fun b hb => ?_, q⟩
  rw [show b = s1.heap.objs.size from by simpa using hb]
  exact I1.fpOk (Nat.le_refl _) (I1.hok.fresh (Nat.le_refl _))
end
end Wn

set_option Elab.async false
set_option linter.all false
set_option maxRecDepth 100000
set_option maxHeartbeats 4000000
namespace Wn
open PySem PySem.Spec PyProof.Rows L2 HotX L2H
/-- the context of its block; the handled exception stays pinned -/
abbrev blkH (X : Cx) (s : Shared) (H : Hp) (scope : Scope) (cenv : Env) (fp : List Addr) : Cx := { X.blk s H scope cenv fp with pn := X.pn }
theorem ok_pn {X : Cx} (pn : List (Addr × Obj)) (o : X.Ok) : ({ X with pn := pn } : Cx).Ok := ⟨o.mod, o.kind, o.glob, o.blt, o.above, o.inj, o.has, o.cab, o.hd, o.frames, o.stk, o.exf, o.bs, o.bsz, o.noex, o.exfs, o.funs, o.frf⟩
section
variable {X : Cx}
theorem pe_lcH {elt tg iter : Expr} {ifs : List Expr} {scope : Scope} {own : List (Str × Nat)} {pos : Pos} {wi : TI} {g : TG} {tt : TT} {te : TE} (hc : HotC X) (hN : X.N.Nodup) (hi : PIH X tg iter wi) (ok : BlkOk X.N X.env.scope scope own)
    (hg : ∀ (s : Shared) (H : Hp) (C : Addr) (cl : List (Str × Addr)) (fp : List Addr), PG (blkH X s H scope (compEnvC scope cl C X.env) fp) tg g) (ht : ∀ (s : Shared) (H : Hp) (C : Addr) (cl : List (Str × Addr)) (fp : List Addr), PTs (blkH X s H scope (compEnvC scope cl C X.env) fp) ifs tt)
    (he : ∀ (s : Shared) (H : Hp) (C : Addr) (cl : List (Str × Addr)) (fp : List Addr), PE (blkH X s H scope (compEnvC scope cl C X.env) fp) elt te) (hs : ∀ x, foldedSetIterable iter X.env x = pure x := by intro _; rfl) :
    PE X (.ListComp elt [⟨tg, iter, ifs, 0⟩] scope pos) (L2.tLc wi g tt te (own.map (·.2))) := by
  refine ⟨fun pins s σ H Q I h => ?_⟩
  rw [eval_ListComp]
  have hfree : ∀ y ∈ scope.names, y.2 = .free → ∃ c, X.env.cells.lookup y.1 = some c := fun y hy e => I.ok.has _ (ok.free y hy e)
  refine wpAny_comprehension_free (use := none) rfl hs (closure_ok hfree) ok.kind (fun y hy e => by rw [ok.uniq y hy, e]) (thn (hi.run pins s σ H _ I h) fun xv s1 hx => thn hx fun itv s2 h2 => ?_)
  obtain ⟨it, fp, tn, J, H2, e, I2, T, st2, f2, q⟩ := h2
  subst e
  refine wpAny_newObj_type (newEnv_comp ?_) (by show 0 ≤ sizeLine; decide)
  generalize hD : s2.heap.objs.size = D
  have hDn : H2 D = none := I2.hok.fresh (Nat.le_of_eq hD)
  obtain ⟨W, ⟨m0, w0⟩, turn⟩ := q D hDn
  generalize hs3 : ({ s2 with heap := s2.heap.push { cls := .type "list", data := .seq ([] : List Value).toArray } } : Shared) = s3
  have h3 : s3.heap = s2.heap.push { cls := .type "list", data := .seq ([] : List Value).toArray } := by rw [← hs3]
  have I3 : Inv X pins σ (upd H2 D (.lst [])) s3 := by
    rw [← hs3]
    exact I2.laid (t' := s2.toks) (fun b o e => Heap.get?_push_of_some _ e) (Nat.le_of_eq hD) ⟨Nat.zero_le _, [], 0, .nil, by rw [← hD]; exact Heap.get?_push_size _ rfl⟩
  have f3 : ∀ b ∈ fp, FpOk X pins (upd H2 D (.lst [])) b ∧ b < s3.heap.objs.size := fun b hb => by
    obtain ⟨o, e, _⟩ := T.obj _ _ st2 b hb
    have hlt := Heap.lt_size e
    exact ⟨⟨by rw [upd_ne (by rw [← hD]; exact Nat.ne_of_lt hlt)]; exact (f2 b hb).1, (f2 b hb).2⟩, by rw [h3, Heap.size_push]; exact Nat.lt_succ_of_lt hlt⟩
  have st3 : tn 0 s3.heap := T.keep _ _ _ st2 fun b _ o e => by rw [h3, Heap.get?_push_of_some _ e]
  have I40 := block_start I3 ok hN f3
  have pg := hg s3 (upd H2 D (.lst [])) s3.heap.objs.size (cellsFrom (s3.heap.objs.size + 1) scope.names (cloFrom X.env.cells scope.names [])) fp
  have pt := ht s3 (upd H2 D (.lst [])) s3.heap.objs.size (cellsFrom (s3.heap.objs.size + 1) scope.names (cloFrom X.env.cells scope.names [])) fp
  have pe := he s3 (upd H2 D (.lst [])) s3.heap.objs.size (cellsFrom (s3.heap.objs.size + 1) scope.names (cloFrom X.env.cells scope.names [])) fp
  show codeAny _ _ (.compStart (.ListComp elt [⟨tg, iter, ifs, 0⟩] scope pos) 0 (.ref it) (.ref D) (compEnvC scope (cellsFrom (s3.heap.objs.size + 1) scope.names (cloFrom X.env.cells scope.names [])) s3.heap.objs.size X.env)) (compPost (model X.prog X.w) X.A X.xe none (EP X pins σ Q) (.ref D) s3.heap.objs.size) { s3 with heap := pushCells (s3.heap.push { cls := .type "dict", data := .dict #[] }) scope.names }
  have nfp : ∀ b ∈ fp, (upd H2 D (.lst [])) b = none := fun b hb => (f3 b hb).1.1
  generalize hce : compEnvC scope (cellsFrom (s3.heap.objs.size + 1) scope.names (cloFrom X.env.cells scope.names [])) s3.heap.objs.size X.env = ce at I40 pg pt pe ⊢
  have cL : ce.locals = s3.heap.objs.size := by subst hce; rfl
  generalize hH3 : upd H2 D (.lst []) = H3 at I3 I40 pg pt pe w0 nfp f3
  have kp4 : ∀ b o, s3.heap.get? b = some o → (pushCells (s3.heap.push { cls := .type "dict", data := .dict #[] }) scope.names).get? b = some o := fun b o e => pushCells_keeps _ _ _ _ (Heap.get?_push_of_some _ e)
  generalize hs4 : ({ s3 with heap := pushCells (s3.heap.push { cls := .type "dict", data := .dict #[] }) scope.names } : Shared) = s4 at I40 ⊢
  have h4 : s4.heap = pushCells (s3.heap.push { cls := .type "dict", data := .dict #[] }) scope.names := by rw [← hs4]
  -- the handled exception is out of the block's reach
  have I4 : Inv (blkH X s3 H3 scope ce fp) [] (wipe σ (own.map (·.2))) H3 s4 := ⟨ok_pn _ I40.ok, I40.os, I40.bare, I40.base, I40.loc, I40.cell, I40.free, I40.freeC, fun p hp => by
    have hp : p ∈ X.pn := by simpa using (show p ∈ X.pn ++ [] from hp)
    obtain ⟨p1, p2, p3, p4, p5⟩ := I3.pin p (List.mem_append_left _ hp)
    refine ⟨by rw [h4]; exact kp4 _ _ p1, p2, ?_, fun z => ?_, p5⟩
    · show p.1 ≠ ce.locals
      rw [cL]
      exact Nat.ne_of_lt (Heap.lt_size p1)
    · rcases List.mem_cons.mp (I3.stkSub p.1 z) with z | z
      · exact p3 z
      · exact p4 z, I40.hok, I40.len⟩
  have st4 : tn 0 s4.heap := T.keep _ _ _ st3 fun b _ o e => by rw [h4]; exact kp4 b o e
  have hcB : HotC (blkH X s3 H3 scope ce fp) := hc
  have stat : ∀ {σ' : L2.St} {H' : Hp} {s' : Shared}, Inv (blkH X s3 H3 scope ce fp) [] σ' H' s' → (∀ b ∈ fp, H' b = none) → ∀ b ∈ fp, FpOk (blkH X s3 H3 scope ce fp) [] H' b := fun {σ' H' s'} I' hn b hb =>
    ⟨hn b hb, (I'.ok.exf b hb).1, I'.ok.exfs b hb, .inl hb, fun x c e => (I'.ok.exf b hb).2 x c e, fun p hp => (f3 b hb).1.2.2.2.2.2 p (List.mem_append_left _ (by simpa using (show p ∈ X.pn ++ [] from hp)))⟩
  have loop : codeAny (model X.prog X.w) X.A (.compLoop (.ListComp elt [⟨tg, iter, ifs, 0⟩] scope pos) 0 (.ref it) (.ref D) ce) (compPost (model X.prog X.w) X.A X.xe none (EP X pins σ Q) (.ref D) s3.heap.objs.size) s4 := by
    refine compLoop_any (fun n s' => ∃ i H', Inv (blkH X s3 H3 scope ce fp) [] (wipe σ (own.map (·.2))) H' s' ∧ tn i s'.heap ∧ (∀ b ∈ fp, H' b = none) ∧ W i n H') ?_ m0 ⟨0, H3, I4, st4, nfp, w0⟩
    rintro n s5 ⟨i, H5, I5, st5, n5, w5⟩
    rcases turn i n H5 w5 with ⟨stop, qq⟩ | ⟨go, Nx, hNx, step⟩
    · refine thnF (T.done (blkH X s3 H3 scope ce fp) rfl rfl rfl hcB i [] s5 _ H5 (fun _ _ => False) I5 (stat I5 n5) st5 stop) fun r s6 ⟨hr, I6⟩ => ?_
      subst hr
      have I7 : Inv X pins σ H5 s6 := I3.call' (ch := fp) I6.os I6.base I6.hok I6.bare fun b hb => ⟨(f3 b hb).1.2.2.2.1, (f3 b hb).1.2.1, (f3 b hb).1.2.2.2.2.1, (f3 b hb).1.2.2.2.2.2⟩
      have nC : H5 s3.heap.objs.size = none := cL ▸ (show H5 ce.locals = none from I6.free)
      obtain ⟨m, hn, _⟩ := I6.loc
      have hn : s6.heap.Ns s3.heap.objs.size m := cL ▸ (show s6.heap.Ns ce.locals m from hn)
      obtain ⟨g0, g1, g2, g3, g4, g5⟩ := I3.fpOk (Nat.le_refl _) nC
      exact ⟨m, hn, fun h'' sb => ⟨.ref D, H5, I7.turned (t' := s6.toks) (fun b o hb e => (sb.2 b hb).trans e) g0 g1 g3 g4 g5, rfl, qq⟩⟩
    · refine thnF (T.item (blkH X s3 H3 scope ce fp) rfl rfl rfl hcB i [] s5 _ H5 (fun _ _ => False) I5 (stat I5 n5) st5 go) fun r s6 ⟨u, hr, h6⟩ => ?_
      subst hr
      refine thnF h6 fun _ s7 ⟨x, H7, I7, r7, y7, st7, n7⟩ => ?_
      refine thnF (pg.run _ s7 _ H7 x u _ (I7.pinned (stat I7 n7) (T.obj _ _ st7)) r7 (step x H7 y7)) fun _ s8 ⟨σ8, H8, I8, hw8, q8⟩ => ?_
      refine thnF (pt.run _ s8 σ8 H8 _ I8 q8) fun b s9 ⟨H9, I9, q9⟩ => ?_
      have fin : ∀ {s' : Shared} {H' : Hp}, Inv (blkH X s3 H3 scope ce fp) ([] ++ pinsAt fp s7.heap) σ8 H' s' → Nx H' → ∃ m, m < n ∧ ∃ i H', Inv (blkH X s3 H3 scope ce fp) [] (wipe σ (own.map (·.2))) H' s' ∧ tn i s'.heap ∧ (∀ b ∈ fp, H' b = none) ∧ W i m H' := fun {s' H'} I' nx => by
        obtain ⟨m', hm, w'⟩ := hNx H' nx
        have pin' : ∀ b ∈ fp, ∀ o, s7.heap.get? b = some o → s'.heap.get? b = some o ∧ H' b = none := fun b hb o e => ⟨(I'.pin (b, o) (List.mem_append_right _ (List.mem_append_right _ (mem_pinsAt hb e)))).1, (I'.pin (b, o) (List.mem_append_right _ (List.mem_append_right _ (mem_pinsAt hb e)))).2.1⟩
        refine ⟨m', hm, i + 1, H', (I'.unpinned (pins := [])).weak (by rw [← hw8, wipe_length]) (fun j v e => ?_), T.keep _ _ _ st7 fun b hb o e => (pin' b hb o e).1, fun b hb => ?_, w'⟩
        · rw [← hw8] at e
          exact (wipe_some e).1
        · obtain ⟨o, e, _⟩ := T.obj _ _ st7 b hb
          exact (pin' b hb o e).2
      cases b with
      | false =>
        simp only [Bool.false_eq_true, if_false] at q9 ⊢
        exact fin I9 q9
      | true =>
        simp only [if_true] at q9 ⊢
        refine thnF (pe.run _ s9 σ8 H9 _ I9 q9) fun z s10 ⟨yv, H10, I10, r10, acc, hD10, hz10, nx⟩ => ?_
        exact app_ok (X := blkH X s3 H3 scope ce fp) I10 hD10 hz10 r10 fun s11 I11 => fin I11 nx
  exact codeAny_compStart_list loop (T.self X.A 0 _ _ _ st4 loop)
end
end Wn

set_option Elab.async false
set_option linter.all false
set_option maxRecDepth 100000
set_option maxHeartbeats 4000000
namespace Wn
open PySem PySem.Spec PyProof.Rows L2 HotX L2H
/-! ### join -/
def strsOf : List D → Option (List Str)
  | [] => some []
  | .str i :: ds => (strsOf ds).map (i :: ·)
  | _ => none
theorem strsOf_map : ∀ ns : List Str, strsOf (ns.map D.str) = some ns
  | [] => rfl
  | n :: ns => by
    show (strsOf (ns.map D.str)).map (n :: ·) = _
    rw [strsOf_map ns] <;> rfl
theorem of_strsOf : ∀ {ds : List D} {ns : List Str}, strsOf ds = some ns → ds = ns.map D.str
  | [], ns, h => by
    cases h
    rfl
  | d :: ds, ns, h => by
    cases d with
    | str i =>
      have h : (strsOf ds).map (i :: ·) = some ns := h
      cases q : strsOf ds with
      | none =>
        rw [q] at h
        cases h
      | some ms =>
        rw [q] at h
        cases h
        rw [of_strsOf q] <;> rfl
    | _ => cases h
def dJoin (a : Str) (ds : List D) (P : D → Prop) : Prop := match strsOf ds with
  | some ys => (ys.map (·.length)).sum + ys.length * a.length ≤ 16777216 ∧ P (.str (Txt.join a ys))
  | none => False
def tJoin (ts : TD) (t : TDL) : TD := fun δ P EP => ts δ (fun x => match x with
  | .str a => t δ (fun ds => dJoin a ds P) EP
  | _ => False) EP
section
variable {X : Cx} {T : Tbl} {E : XK} {o e : Expr} {apos pos : Pos} {ts : TD} {t : TDL}
theorem pd_join (ho : PE X o (lR X.K T E ts)) (he : PE X e (lL X.K T E t)) (hs : starEach [e] X.env = [(false, eval e X.env)] := by rfl) (hbase : attributeBase o "join" X.env (eval o X.env) = eval o X.env := by rfl) (hline : (apos.endLine == pos.line) = true := by rfl) :
    PE X (.Call (.Attribute o "join" apos) [e] [] pos) (lF X.K T E (tJoin ts t)) :=
  pe_imp (pe_join ho he hs hbase hline) fun σ H Q ⟨δ, G0, H0, G, P, EP, L, ht, k⟩ => ⟨δ, G0, H0, G, _, EP, L, ht, fun d hd v H1 g1 r1 => by
    cases d with
    | str a =>
      refine ⟨⟨a, r1⟩, δ, G0, H0, G, _, EP, L.gr g1, hd, fun ds hd2 p us H2 G2 x2 e2 r2 => ?_⟩
      have hd2 : dJoin a ds P := hd2
      unfold dJoin at hd2
      cases q : strsOf ds with
      | none =>
        rw [q] at hd2
        exact hd2.elim
      | some ys =>
        rw [q] at hd2
        have hd3 : (ys.map (·.length)).sum + ys.length * a.length ≤ 16777216 ∧ P (.str (Txt.join a ys)) := hd2
        have e3 := of_strsOf q
        subst e3
        rw [r2.strs] at e2
        exact ⟨a, p, ys, r1, rfl, .inl (.of (vw_sub _ _ e2)), hd3.1, k _ hd3.2 _ H2 G2 ((Stp.of_gr L.rep.gv g1).trans x2) rfl⟩
    | _ => exact hd.elim⟩
end
/-! ### isinstance of the exception that a pin bears -/
/-- p's object is an exception of the class at C -/
def OfC (C : Addr) (p : Addr × Obj) : Prop := Zc (.ref C) none p.2 ∧ ∃ vs, p.2.data = .fields vs
theorem call_isP {X : Cx} {C : Addr} {p : Addr × Obj} (hp : p ∈ X.pn) (hz : OfC C p) (EC : ExcC X.K C) : CallR X (.builtin "isinstance") (rIsE X.K C p.1) := by
  intro pins s σ H xs us Q I r h
  obtain ⟨c, cv, b, rfl, hcv, e, q⟩ := h
  cases r with
  | cons rx rr =>
    cases rr with
    | cons rt rr =>
      cases rr
      cases rx
      rw [hcv _ rt]
      obtain ⟨hget, _⟩ := I.pin p (List.mem_append.mpr (.inl hp))
      obtain ⟨⟨h1, h2⟩, vs, hv⟩ := hz
      obtain ⟨a, oc, od, oda, osl⟩ := p
      dsimp only at h1 h2 hv
      subst h1 h2 hv
      have J : PySem.W.InstAt s.heap a _ C none := ⟨hget, rfl, rfl, trivial⟩
      exact PySem.W.kia_one (PySem.W.handS_kitx_exc EC.hg EC.hk EC.hs EC.hd EC.ha EC.hn EC.ht EC.hm) I.kIn J e (fun z => nomatch z) fun tk => ⟨.bl b, H, I.kept (t' := tk) fun _ _ z => z, rfl, q⟩
def tIsE (a : Addr) (b : Bool) (t : TD) : TD := fun δ P EP => t δ (fun d => match d with
  | .ref a' => a' = a ∧ P (.bl b)
  | _ => False) EP
section
variable {X : Cx} {T : Tbl} {E : XK} {e : Expr} {p1 p2 pos : Pos} {t : TD} {Tn : Str}
theorem pd_isE {C D' : Addr} {b : Bool} {p : Addr × Obj} (hp : p ∈ X.pn) (hz : OfC C p) (EC : ExcC X.K C) (hk : PySem.W.kitOne X.K (.ref C) (.ref D') = some b) (hm : X.mg "isinstance" = none) (gD : X.mg Tn = some (.ref D')) (he : PE X e (lR X.K T E t)) (hg : Gl X "isinstance" := by rfl) (hgT : Gl X Tn := by rfl)
    (hdb : (Tn == ("__debug__" : Str)) = false := by decide) (hs : starEach [e, Expr.Name Tn p2] X.env = (false, eval e X.env) :: starEach [Expr.Name Tn p2] X.env := by rfl) (hs2 : starEach [Expr.Name Tn p2] X.env = (false, eval (Expr.Name Tn p2) X.env) :: starEach [] X.env := by rfl) (hpl : (backTo pos (starEach [Expr.Name Tn p2] X.env)).any (·.1) = false := by rfl) :
    PE X (.Call (.Name "isinstance" p1) [e, .Name Tn p2] [] pos) (lF X.K T E (tIsE p.1 b t)) :=
  pe_imp (pe_callB (call_isP hp hz EC) hg hm (by decide +kernel) (pa_cons he (pa_cons (pe_glob (v := .ref D') hgT gD rfl hdb) pa_nil hs2) hs) (by decide) (by decide) hs hpl) fun σ H Q ⟨δ, G0, H0, G, P, EP, L, ht, k⟩ => ⟨δ, G0, H0, G, _, EP, L, ht, fun d hd v H1 g r => by
    cases d with
    | ref a' =>
      obtain ⟨e1, hP⟩ := hd
      exact ⟨.ref D', .ref D', b, by rw [show v = .ref a' from r, e1], fun u hu => hu, hk, k _ hP _ H1 G (.of_gr L.rep.gv g) rfl⟩
    | _ => exact hd.elim⟩
end
/-! ### a def that gets the handled exception -/
structure FnE (P : Program) (w : World) (K : PySem.W.Frag) (mg : Str → Option Value) (base : Heap) (T : Tbl) (k : Nat) (f : Addr) (fd : FuncData) (ps : List Str) (φ : Addr → Addr → (D → Prop) → Prop) : Prop where
  len : ps.length = 1
  run : ∀ (A : Around) (outer : List Env) (s : Shared) (H : Hp) (args : Args) (Q : VK) (p : Addr × Obj) (C : Addr) (s0 : Option Addr) (G : Hp) (R : D → Prop), RoomH k A → Hot1 A p → PinOk outer H s p → OfC C p → Env0 P w K mg base A outer s H → BindsTo s fd args (ps.zip [.ref p.1]) →
    (∀ a, s0 = some a → Src a H) → LamX.Tabs T H → Same G (vw s0 H) → φ p.1 C R → (∀ d, R d → ∀ v H' G', Stp T s0 G G' H H' → Rp K G' d v → Q v H') →
    codeAny (model P w) A (.call (.ref f) args) (CR (L2N.CX P w) outer P w H s Q C8.E0) s
/-- the reading of its body -/
def bodyE (N : List Str) (b : Addr → Addr → TDS) : Addr → Addr → (D → Prop) → Prop := fun a C R => ∀ s, b a C ⟨s, startD N [.ref a]⟩ { nx := fun δ' => δ'.s = s ∧ R .non, rt := fun s' d => s' = s ∧ R d, rn := fun s' ds => s' = s ∧ R (.lst ds), ex := fun _ _ => False }
section
variable {P : Program} {w : World} {K : PySem.W.Frag} {T : Tbl} {mg : Str → Option Value} {base : Heap} {x qual : Str} {st : Stmt} {f : Addr} {fd : FuncData} {N ps : List Str} {k : Nat} {b : Addr → Addr → TDS}
theorem fits_fn {G H : Hp} {s : Option Addr} {R : D → Prop} {Q : VK} {E : XK} (k1 : ∀ d, R d → ∀ v H' G', Stp T s G G' H H' → Rp K G' d v → Q v H') :
    Fits K T E G H G { nx := fun _ H' => Q .non H', rt := Q } { nx := fun δ' => δ'.s = s ∧ R .non, rt := fun s' d => s' = s ∧ R d, rn := fun s' ds => s' = s ∧ R (.lst ds), ex := fun _ _ => False } := by
  refine ⟨fun δ G' σ H' _ r ⟨e, hp⟩ => k1 _ hp .non H' G' (by rw [← e]; exact r.st) rfl, fun δ G' σ H' _ r hz => hz.elim, fun δ G' σ H' _ r hz => hz.elim, fun s' d ⟨e, hp⟩ v G' H' x r' => k1 d hp v H' G' (by rw [← e]; exact x) r', fun s' es ⟨e, hp⟩ a us G' H' x h1 h2 h4 h3 r' => ?_, fun s' c hz H' g => hz.elim⟩
  rw [e] at x h4
  refine k1 _ hp (.ref a) H' (upd G' a (.lst us)) ⟨x.gr, x.gg.trans (Wn.Same.new h2), fun c o e => ?_, fun c hc => ?_⟩ ⟨a, us, rfl, upd_same, r'.mono (Wn.Same.new h2)⟩
  · by_cases ca : c = a
    · rw [ca, upd_same] at e
      cases e
      rw [ca]
      exact vw_at h3 h4 fun ps z => by cases z
    · rw [upd_ne ca] at e
      exact x.gv c o e
  · by_cases ca : c = a
    · rw [ca]
      exact .inr h1
    · rw [upd_ne ca] at hc
      exact x.nw c hc
theorem fn_E (Cs : Addr → Prop) (F : L2.Fun K x qual st f fd) (S : FnScope N ps (defScope st)) (hn : ps.length = 1)
    (hb : ∀ (cdv : Value) (A : Around) (outer : List Env) (s : Shared) (H : Hp) (p : Addr × Obj) (C : Addr), RoomH k (A.deeper (envOfC qual (defScope st) s.heap.objs.size f cdv)) → HotC (cxH (L2N.CX P w) P w K mg base N qual (defScope st) f cdv A outer s H C8.E0 p) → OfC C p → Cs C →
      PSs (cxH (L2N.CX P w) P w K mg base N qual (defScope st) f cdv A outer s H C8.E0 p) (defBody st) (lS K T C8.E0 (b p.1 C))) : FnE P w K mg base T (k + 1) f fd ps (fun a C R => Cs C ∧ bodyE N b a C R) := by
  refine ⟨hn, fun A outer s H args Q p C s0 G R hr hot hpin hz e0 hbn src tab gv hφ kk => ?_⟩
  obtain ⟨oc, od, kV, doc, pm, an, cdv, ct, osl, rfl, lk, hcd⟩ := F.ex
  have KX : K.In s.heap := e0.mod.kin.keeps fun b o e => (e0.bs b o e).1
  refine codeAny_call_function hr.depth (KX _ _ lk) rfl S.co S.gen rfl (PySem.W.codeRec_of KX hcd) (hbn _ _ _ _ (wpAny_newFunctionEnv_cells S.kind (fun ⟨n, v⟩ hy => ?_) fun env he s1 x => ?_))
  · exact (S.par n (List.of_mem_zip hy).1).elim .inl fun q => .inr ⟨q, PySem.W.cellsFrom_some _ _ _ (.inl q)⟩
  subst he
  refine ⟨(e0.mod.nolimit.keeps fun b o e => (e0.bs b o e).1).keeps x.toInCall.keep, codeAny_func ?_⟩
  have I := inv_startH (CX := L2N.CX P w) (E := C8.E0) (vs := [V.ref p.1]) S hpin e0 hn.symm (.cons rfl .nil) x
  have hz1 := hb cdv A outer s H p C (hr.deeper _) ⟨p, hot, List.mem_singleton.mpr rfl⟩ hz hφ.1
  refine wpAny_mono (hz1.run [] s1 (L2.start N [.ref p.1]) H { nx := fun _ H' => Q .non H', rt := Q } I ⟨⟨s0, startD N [.ref p.1]⟩, G, H, G, _, rep_start src tab gv (.cons rfl .nil), hφ.2 s0, fits_fn kk⟩) (fun fl s' hs => ?_) fun e s' hs => hs
  have fin : ∀ {σ' : L2.St} {H' : Hp} {v : V} {u : Value}, Inv (cxH (L2N.CX P w) P w K mg base N qual (defScope st) f cdv A outer s H C8.E0 p) [] σ' H' s' → RelV v u → Q v H' → CE outer P w H s Q u s' := fun {σ' H' v u} J rv q => ⟨v, H', J.os, J.bare, J.base, J.hok, rv, q⟩
  cases fl with
  | ret u =>
    obtain ⟨v, σ', H', J, rv, q⟩ := hs
    exact fin J rv q
  | next =>
    obtain ⟨σ', H', J, q⟩ := hs
    exact fin (v := V.non) (u := Value.none) J rfl q
  | brk =>
    obtain ⟨_, _, _, q⟩ := hs
    exact q.elim
  | cont =>
    obtain ⟨_, _, _, q⟩ := hs
    exact q.elim
end
/-- called in the suite: return x(e) -/
structure ClE (P : Program) (w : World) (K : PySem.W.Frag) (mg : Str → Option Value) (base : Heap) (T : Tbl) (k : Nat) (x : Str) (φ : Addr → Addr → (D → Prop) → Prop) : Prop where
  ex : ∃ f fd ps, FnE P w K mg base T k f fd ps φ ∧ mg x = some (.ref f) ∧ PySem.W.keepIn K (.ref f) = true ∧ L2.Binds K fd ps []
def lE (K : PySem.W.Frag) (T : Tbl) (i : Nat) (a C : Addr) (φ : Addr → Addr → (D → Prop) → Prop) : TE := fun σ H Q => ∃ δ G0 H0 G R, Rep K T G0 H0 G H σ δ ∧ δ.sl[i]? = some (.d (.ref a)) ∧ φ a C R ∧ ∀ d, R d → ∀ v H' G', Stp T δ.s G G' H H' → Rp K G' d v → Q v H'
section
variable {X : Cx} {T : Tbl} {k i : Nat} {x n : Str} {p2 p3 pos : Pos} {φ : Addr → Addr → (D → Prop) → Prop}
theorem pe_clE {a C : Addr} {oe : Obj} {pn : List (Addr × Obj)} (c : ClE X.prog X.w X.K X.mg X.base T k x φ) (hr : RoomH k X.A) (hz : L2N.Zn (.ref C) none oe) (hf : ∃ vs, oe.data = .fields vs) (hg : Gl X x) (hN : X.N[i]? = some n) (hv : Vis X.env.scope n) (hd : (n == ("__debug__" : Str)) = false := by decide) (hcd : (n == ("__classdict__" : Str)) = false := by decide) (hdb : (x == ("__debug__" : Str)) = false := by decide)
    (he : starEach [.Name n p2] X.env = (false, eval (.Name n p2) X.env) :: starEach [] X.env := by rfl) (hpl : (backTo pos (starEach [] X.env)).any (·.1) = false := by rfl) :
    PE (X.suite a ((a, oe) :: pn)) (.Call (.Name x p3) [.Name n p2] [] pos) (lE X.K T i a C φ) := by
  obtain ⟨f, fd, ps, F, hm, hk, hb⟩ := c.ex
  obtain ⟨vs0, hf0⟩ := hf
  refine ⟨fun pins s σ H Q I ⟨δ, G0, H0, G, R, rep, hi, hφ, kk⟩ => ?_⟩
  obtain ⟨v, h1, h2, h3, h4⟩ := rep.sl i _ hi
  have h4 : h2 = .ref a := h4
  subst h4
  subst h3
  refine wpAny_Call_Name_kw (ld_glob I hg hm ?_ hdb)
  refine PySem.W.callWith_K (h₀ := X.base) I.ok.mod.kin hk (thn ((pa_cons (pe_var (X := X.suite a ((a, oe) :: pn)) (pos := p2) hN hv hd hcd) pa_nil he).run pos pins s σ H (fun vs H1 => vs = [.ref a] ∧ H1 = H) I ⟨.ref a, h1, rfl, rfl⟩) fun us s1 ⟨vs, H1, I1, r, e1, e2⟩ => ⟨I1.kIn, ?_⟩) he hpl
  subst e1
  subst e2
  cases r with
  | cons r1 rr =>
    cases rr
    cases r1
    have bnd := hb s1 [.ref a] I1.kIn (by rw [F.len] <;> rfl)
    rw [List.append_nil] at bnd
    have P1 := I1.pin (a, oe) (List.mem_append_left _ List.mem_cons_self)
    have hpin : PinOk X.stack H1 s1 (a, oe) := ⟨P1.1, P1.2.1, fun hm => (List.mem_cons.mp (I1.stkSub a hm)).elim P1.2.2.1 P1.2.2.2.1, P1.2.2.2.2⟩
    refine wpAny_call (codeAny_mono (F.run (X.A.mark (some (.ref a))) X.stack s1 H1 ⟨[.ref a], []⟩ Q (a, oe) C δ.s G R ⟨hr.dp, hr.un⟩ ⟨rfl, vs0, hf0, hz.2.2 vs0 hf0⟩ hpin ⟨hz.zc, vs0, hf0⟩ I1.env0 bnd rep.src rep.tab rep.gv hφ kk) fun r s' hq => ?_)
    cases r with
    | error e =>
      obtain ⟨_, _, _, _, _, _, _, _, _, _, _, _, q⟩ := (show L2N.CX X.prog X.w X.stack H1 s1 C8.E0 e s' from hq)
      exact q.elim
    | ok fl =>
      cases fl with
      | ret u => exact I1.after hq
      | next => exact False.elim hq
      | brk => exact False.elim hq
      | cont => exact False.elim hq
end
end Wn

set_option Elab.async false
set_option linter.all false
set_option maxRecDepth 100000
set_option maxHeartbeats 4000000
namespace Wn
open PySem PySem.Spec PyProof.Rows L2 HotX L2H
section
variable {X : Cx} {T : Tbl} {E : XK} {elt tg iter : Expr} {es : List Expr} {ifs : List Expr} {scope : Scope} {own : List (Str × Nat)} {pos : Pos} {js : List Nat} {g : TGD} {c : TDB} {e : TD} {te : TDL}
theorem pd_gtupH {kk n : Nat} (hc : HotC X) (h : PGs X es (lGs X.K T js)) (hj : js.length = n := by rfl) (hn : (assignEach es X.env).length = n := by rfl) (hst : (assignEach es X.env).findIdx? (·.1) = none := by rfl) : PG X (.Tuple es kk pos) (lG X.K T js (gT js)) :=
  pg_imp (pg_tupH (n := n) hc h hn hst) (rd_gtup hj)
theorem pd_lcH (hc : HotC X) (hN : X.N.Nodup) (hi : PE X iter (lL X.K T E te)) (ok : BlkOk X.N X.env.scope scope own) (hjs : ∀ i ∈ js, i ∈ own.map (·.2))
    (hg : ∀ (s : Shared) (H : Hp) (C : Addr) (cl : List (Str × Addr)) (fp : List Addr), PG (blkH X s H scope (compEnvC scope cl C X.env) fp) tg (lG X.K T js g)) (ht : ∀ (s : Shared) (H : Hp) (C : Addr) (cl : List (Str × Addr)) (fp : List Addr), PTs (blkH X s H scope (compEnvC scope cl C X.env) fp) ifs (lB X.K T E0 c))
    (he : ∀ (s : Shared) (H : Hp) (C : Addr) (cl : List (Str × Addr)) (fp : List Addr), PE (blkH X s H scope (compEnvC scope cl C X.env) fp) elt (lF X.K T E0 e)) (hs : ∀ x, foldedSetIterable iter X.env x = pure x := by intro _; rfl) :
    PE X (.ListComp elt [⟨tg, iter, ifs, 0⟩] scope pos) (lN X.K T E (tLc te (own.map (·.2)) g c e)) := pe_imp (pe_lcH hc hN (pi_listH hi) ok hg ht he hs) (rd_lc hjs)
end
end Wn

set_option Elab.async false
set_option linter.all false
set_option maxRecDepth 100000
set_option maxHeartbeats 4000000
namespace Wn
open PySem PySem.Spec PyProof.Rows L2 HotX L2H LamX
/-! ### a def that a name holds -/
structure ClA (P : Program) (w : World) (K : PySem.W.Frag) (mg : Str → Option Value) (base : Heap) (T : Tbl) (k : Nat) (f : Addr) (n : Nat) (φ : Fn) : Prop where
  ex : ∃ fd ps, FnOk P w K mg base (L2N.CX P w) k f fd ps (spD K T n φ) ∧ PySem.W.keepIn K (.ref f) = true ∧ L2.Binds K fd ps []
def tClV (i : Nat) (Φ : Addr → Nat → Option Fn) (n : Nat) (t : TDL) : TD := fun δ P EP => match δ.sl[i]? with
  | some (.d (.ref a)) => (match Φ a n with
    | some φ => t δ (fun ds => match Nat.beq ds.length n with
      | true => φ δ.s ds P EP
      | false => False) EP
    | none => False)
  | _ => False
section
variable {X : Cx} {T : Tbl} {E : XK} {e : Expr} {es : List Expr} {x : Str} {p pos : Pos} {t : TDL} {n k j : Nat} {Φ : Addr → Nat → Option Fn}
theorem pd_clV (i : Nat) (c : ∀ f n φ, Φ f n = some φ → ClA X.prog X.w X.K X.mg X.base T k f n φ) (hr : Room j X.A) (hk : k ≤ j) (hx : Passes (L2N.CX X.prog X.w) X E) (ha : PA X (e :: es) (lA X.K T E t)) (hN : X.N[i]? = some x := by rfl) (hv : Vis X.env.scope x := by first | exact Or.inl rfl | exact Or.inr (Or.inl rfl) | exact Or.inr (Or.inr rfl)) (hdb : (x == ("__debug__" : Str)) = false := by decide) (hcd : (x == ("__classdict__" : Str)) = false := by decide)
    (he : starEach (e :: es) X.env = (false, eval e X.env) :: starEach es X.env := by rfl) (hpl : (backTo pos (starEach es X.env)).any (·.1) = false := by rfl) : PE X (.Call (.Name x p) (e :: es) [] pos) (lF X.K T E (tClV i Φ n t)) := by
  refine ⟨fun pins s σ H Q I ⟨δ, G0, H0, G, P, EP, L, ht, q⟩ => ?_⟩
  unfold tClV at ht
  cases e0 : δ.sl[i]? with
  | none =>
    rw [e0] at ht
    exact ht.elim
  | some o =>
    rw [e0] at ht
    cases o with
    | d dx =>
      cases dx with
      | ref f =>
        have ht : (match Φ f n with | some φ => t δ (fun ds => match Nat.beq ds.length n with | true => φ δ.s ds P EP | false => False) EP | none => False) := ht
        obtain ⟨v, h1, u, h2, h3⟩ := L.rep.sl i _ e0
        have h3 : u = .ref f := h3
        subst h3
        subst h2
        cases hΦ : Φ f n with
        | none =>
          rw [hΦ] at ht
          exact ht.elim
        | some φ =>
          rw [hΦ] at ht
          obtain ⟨fd, ps, F, kp, hb⟩ := (c f n φ hΦ).ex
          refine (pe_callL (i := i) (f := f) (sp := spD X.K T n φ) (dvs := []) (E := E) F (hr.mono hk) hN hv kp hb .nil hx ha hdb hcd he hpl).run pins s σ H Q I ⟨h1, δ, G0, H0, G, _, EP, L, ht, fun ds hd vs H1 G1 x1 r1 => ?_⟩
          cases z : Nat.beq ds.length n with
          | false =>
            rw [z] at hd
            exact hd.elim
          | true =>
            rw [z] at hd
            rw [List.append_nil]
            have L1 := L.stp x1
            exact ⟨δ.s, G1, ds, P, EP, L1.rep.src, L1.rep.tab, x1.gv, r1, Nat.eq_of_beq_eq_true z, hd, fun d hd' v H' G' x2 r2 => q d hd' v H' G' (x1.trans x2) r2, fun c hc H' g => L1.ex c hc H' g⟩
      | _ => exact ht.elim
    | _ => exact ht.elim
end
/-! ### the lambda is made -/
section
variable {X : Cx} {pins : List (Addr × Obj)} {σ : L2.St} {H : Hp} {s : Shared}
/-- a table written, a code object new: all else stands -/
theorem Gr.tab {T : Tbl} {s : Option Addr} {H : Hp} {P c : Addr} {q : Str} {ps ms : Array Value} (hP : H P = some (.tbl ps)) (nC : H c = none) (tb : LamX.Tabs T H → LamX.Tabs T (upd (upd H P (.tbl ms)) c (CodeO c q))) : Gr T s H (upd (upd H P (.tbl ms)) c (CodeO c q)) := by
  have at_ : ∀ b o, H b = some o → NT o → upd (upd H P (.tbl ms)) c (CodeO c q) b = some o := fun b o e n => by
    rw [upd_ne (ne_of_none e nC), upd_ne (fun z => n ps (Option.some.inj (e.symm.trans (by rw [z]; exact hP))))]
    exact e
  refine ⟨fun b o e => ?_, fun b hb => ?_, fun a _ ⟨x, y, e, r⟩ => ⟨x, y, at_ a _ e (fun ps z => by cases z), r⟩, tb⟩
  · obtain ⟨e1, e2, e3⟩ := vw_of e
    exact vw_at (at_ b o e1 e3) e2 e3
  · by_cases c1 : b = c
    · rw [c1, upd_same]
      simp
    · rw [upd_ne c1]
      by_cases c2 : b = P
      · rw [c2, upd_same]
        simp
      · rw [upd_ne c2]
        exact hb
theorem lam_makeN {T : Tbl} {c P : Addr} {params : Arguments} {body : Expr} {scope : Scope} {pos : Pos} {E : Value → Shared → Prop} {Q : Value → Shared → Prop} (I : Inv X pins σ H s) (TB : TabB X.base X.mg c P) (hcode : X.env.code = .ref c) (hm : (P, X.env.qual ++ "<lambda>") ∈ T) (hu : ∀ p ∈ T, p.1 = P → p.2 = X.env.qual ++ "<lambda>")
    (hT : Tabs T H) (hdef : defaultsOf params X.env = ([], [])) (hfree : ∀ y ∈ scope.names, y.2 = .free → ∃ c, X.env.cells.lookup y.1 = some c)
    (h : ∀ (f c' : Addr) (pm ctv : Value) (H1 : Hp) (s' : Shared), Inv X pins σ H1 s' → (∀ s0, Gr T s0 H H1) → s'.heap.get? f = some (PySem.W.kla_obj "<lambda>" (X.env.qual ++ "<lambda>") params body scope (cloFrom X.env.cells scope.names []) pm c' ctv) → H1 f = none → f ∉ frs X.stack → H1 c' = some (CodeO c' (X.env.qual ++ "<lambda>")) → Q (.ref f) s') :
    wpAny (model X.prog X.w) X.A (eval (.Lambda params body scope pos) X.env) Q E s := by
  obtain ⟨ps, hP, ht, ha⟩ := hT _ hm
  have hP' : s.heap.get? P = some { cls := .none, data := .fields ps } := I.hok P _ hP
  have nofr : ∀ f, s.heap.objs.size ≤ f → f ∉ frs X.stack := fun f hf z => (List.mem_cons.mp (I.stkSub _ z)).elim (fun e => absurd (Nat.lt_of_lt_of_le I.lt (e ▸ hf)) (Nat.lt_irrefl _)) (I.nofs hf)
  refine PySem.W.kla_eval hdef ?_
  cases hc : codeAmong pos ps.toList with
  | none =>
    refine PySem.W.kla_makeFunction (mg := X.mg) (c := c) (P := P) (ps := ps) (closure_ok hfree) I.ok.glob (I.mod.glob.keeps I.bk) hcode (TB.code.keeps I.bk) hP' ht hc TB.gP (TB.bm.keeps I.bk) fun c' ctv h' tk hx hge hlt hrec htb => ?_
    obtain ⟨c2, oc, vs, t, e2, hoc, hd, hv⟩ := hrec
    cases e2
    have hsz : s.heap.objs.size ≤ h'.objs.size := Nat.le_trans hge (Nat.le_of_lt hlt)
    have nC : H c' = none := I.hok.fresh hge
    have hE : ∀ b o, H b = some o → NT o → (upd (upd H P (.tbl (ps ++ #[rawInt pos.line, rawInt pos.col, .ref c']))) c' (CodeO c' (X.env.qual ++ "<lambda>"))) b = some o := fun b o e n => by
      rw [upd_ne (ne_of_none e nC), upd_ne (fun z => n ps (Option.some.inj (e.symm.trans (by rw [z]; exact hP))))]
      exact e
    have eL : (ps ++ #[rawInt pos.line, rawInt pos.col, .ref c']).toList = ps.toList ++ [rawInt pos.line, rawInt pos.col, .ref c'] := by simp
    have n1 : h'.objs.size ≠ c' := Nat.ne_of_gt hlt
    have n2 : h'.objs.size ≠ P := Nat.ne_of_gt (Nat.lt_of_lt_of_le (Heap.lt_size hP') hsz)
    refine h h'.objs.size c' ((X.mg "__name__").getD .none) ctv _ _ (inv_table (t' := tk) (more := #[rawInt pos.line, rawInt pos.col, .ref c']) (h' := h'.push (PySem.W.kla_obj "<lambda>" (X.env.qual ++ "<lambda>") params body scope (cloFrom X.env.cells scope.names []) ((X.mg "__name__").getD .none) c' ctv)) I hP
      (fun b o hb e => Heap.get?_push_of_some _ (hx b o hb e)) (Heap.get?_push_of_some _ htb) hge ⟨oc, vs, t, Heap.get?_push_of_some _ hoc, hd, hv⟩) (fun s0 => .tab hP nC fun hT p hp => ?_) (Heap.get?_push_size _ rfl) (by rw [upd_ne n1, upd_ne n2]; exact I.hok.fresh hsz) (nofr _ hsz) upd_same
    by_cases hb : p.1 = P
    · rw [hu p hp hb, hb]
      refine ⟨_, by rw [upd_ne (ne_of_none hP nC), upd_same], by rw [eL]; exact PySem.TriplesOk_snoc _ _ _ _ ht, fun p' cv hcv => ?_⟩
      rw [eL] at hcv
      rcases among_app _ ht hcv with z | z
      · obtain ⟨c0, e1, e2⟩ := ha p' cv z
        exact ⟨c0, e1, hE _ _ e2 codeO_ne⟩
      · exact ⟨c', z, upd_same⟩
    · obtain ⟨ps', a1, a2, a3⟩ := hT p hp
      refine ⟨ps', by rw [upd_ne (ne_of_none a1 nC), upd_ne hb]; exact a1, a2, fun p' cv hcv => ?_⟩
      obtain ⟨c0, e1, e2⟩ := a3 p' cv hcv
      exact ⟨c0, e1, hE _ _ e2 codeO_ne⟩
  | some cv =>
    obtain ⟨c', e, hco⟩ := ha pos cv hc
    subst e
    refine PySem.W.kla_makeFunctionHit (mg := X.mg) (c := c) (P := P) (ps := ps) (closure_ok hfree) I.ok.glob (I.mod.glob.keeps I.bk) hcode (TB.code.keeps I.bk) hP' ht hc (TB.bm.keeps I.bk) fun ctv h' tk hx hsz => ?_
    exact h h'.objs.size c' ((X.mg "__name__").getD .none) ctv H _ (I.kept fun b o e => Heap.get?_push_of_some _ (hx b o e)) (fun _ => .refl) (Heap.get?_push_size _ rfl) (I.hok.fresh hsz) (nofr _ hsz) hco
end
/-! ### its body -/
/-- the context of the lambda's body, entered at s from the frames outer -/
abbrev lamN (X : Cx) (A : Around) (outer : List Env) (s : Shared) (H : Hp) (E : XK) (scope : Scope) (f c' : Addr) : Cx :=
  (lamCx X A outer s H E scope f c').tr [] fun e s' => wpAny (model X.prog X.w) (A.deeper (lamEnv X scope s.heap.objs.size f c')) (leaving (lamEnv X scope s.heap.objs.size f c') e) (fun _ s'' => L2N.CX X.prog X.w outer H s E e s'') (fun e' s'' => L2N.CX X.prog X.w outer H s E e' s'') s'
theorem takesL {X : Cx} {A : Around} {outer : List Env} {s : Shared} {H : Hp} {E : XK} {scope : Scope} {f c' : Addr} : L2N.Takes (lamN X A outer s H E scope f c') (fun cls d _ H => E cls d H) := L2N.takes_of rfl rfl rfl rfl
theorem passL {X : Cx} {A : Around} {outer : List Env} {s : Shared} {H : Hp} {E : XK} {scope : Scope} {f c' : Addr} : Passes (L2N.CX X.prog X.w) (lamN X A outer s H E scope f c') E := L2N.passes_call takesL fun _ _ _ _ h => h
section
variable {X : Cx} {pins : List (Addr × Obj)} {σ : L2.St} {H HZ : Hp} {s s1 : Shared}
/-- x(), in the def that got the lambda; that def's context is entered at s -/
theorem pe_actN {Eg : XK} {Ng : List Str} {qg : Str} {sg : Scope} {g f c' : Addr} {cdg pm ctv : Value} {params : Arguments} {body : Expr} {scope : Scope} {k i : Nat} {a : Str} {pn : List (Addr × Obj)} {xe : Value → Shared → Prop} {W : WX} {E : XK} {tb : TE} {p1 p2 : Pos}
    (I : Inv X pins σ H s) (L : LamS X.env.scope scope) (hf : s.heap.get? f = some (PySem.W.kla_obj "<lambda>" (X.env.qual ++ "<lambda>") params body scope (cloFrom X.env.cells scope.names []) pm c' ctv)) (hfn : H f = none) (hfr : f ∉ frs X.stack) (hbind : bindArgs (PySem.W.kla_fn "<lambda>" (X.env.qual ++ "<lambda>") params body scope (cloFrom X.env.cells scope.names []) pm (.ref c') ctv) ⟨[], []⟩ = pure [])
    (tk : L2N.Takes ((cxOf (L2N.CX X.prog X.w) X.prog X.w X.K X.mg X.base Ng qg sg g cdg X.A X.stack s H Eg).tr pn xe) W) (hr : Room (k + 1) (X.A.deeper (envOfC qg sg s.heap.objs.size g cdg))) (hbody : ∀ (A : Around) (outer : List Env) (s : Shared) (H : Hp), Room k (A.deeper (lamEnv X scope s.heap.objs.size f c')) → PE (lamN X A outer s H E scope f c') body tb)
    (hN : Ng[i]? = some a) (hv : Vis sg a) (hd : (a == ("__debug__" : Str)) = false := by decide) (hcd : (a == ("__classdict__" : Str)) = false := by decide) :
    PE ((cxOf (L2N.CX X.prog X.w) X.prog X.w X.K X.mg X.base Ng qg sg g cdg X.A X.stack s H Eg).tr pn xe) (.Call (.Name a p1) [] [] p2)
      (fun σZ HZ Q => σZ[i]? = some (some (.ref f)) ∧ HZ c' = some (CodeO c' (X.env.qual ++ "<lambda>")) ∧ (∀ cls d H', E cls d H' → W cls d σZ H') ∧ tb σ HZ Q) := by
  refine ⟨fun pinsZ sZ σZ HZ Q IZ ⟨hs, hc, hW, ht⟩ => ?_⟩
  refine wpAny_Call_Name_kw (thn ((pe_var (pos := p1) (i := i) hN hv hd hcd).run pinsZ sZ σZ HZ (fun v H1 => v = .ref f ∧ H1 = HZ) IZ ⟨.ref f, hs, rfl, rfl⟩) fun u s1 ⟨v, H1, I1, r1, ev, eH⟩ => ?_)
  subst ev
  rw [eH] at I1
  obtain rfl : u = Value.ref f := r1
  have of1 : s1.heap.get? f = some (PySem.W.kla_obj "<lambda>" (X.env.qual ++ "<lambda>") params body scope (cloFrom X.env.cells scope.names []) pm c' ctv) := I1.base.keep f _ hf hfn hfr (fun z => nomatch (show f ∈ ([] : List Addr) from z))
  obtain ⟨⟨oc, vs, t, hoc, hdc, hvc⟩, _, _⟩ := I1.hok c' _ hc
  refine PySem.W.callWith_F0 ⟨_, _, _, _, of1⟩ (wpAny_call (codeAny_mono (R := CR (L2N.CX X.prog X.w) (envOfC qg sg s.heap.objs.size g cdg :: X.stack) X.prog X.w HZ s1 Q E) (PySem.W.kla_callFunE hr.depth of1 rfl L.co L.gen rfl ⟨c', oc, vs, t, rfl, hoc, hdc, hvc⟩ ?_) fun r s' hq => ?_))
  · refine wpAny_of_eq (a := []) hbind (wpAny_newFunctionEnv (fun y hy => (L.own y hy).2) (fun y hy => absurd hy (by simp)) (fun h₁ hns hsb => ⟨I1.nolimit.fresh _ hsb, ?_⟩) L.kind)
    show codeAny _ _ (.expr body (lamEnv X scope s1.heap.objs.size f c')) _ _
    have J0 := lam_start2 (E := E) (scope := scope) (f := f) (c' := c') (tk := s1.toks + ([] : List (Str × Value)).length) I L I1.env0 hr.hd I1.base hns fun b o e => hsb.extBut b o (Nat.ne_of_lt (Heap.lt_size e)) (Heap.get?_push_of_some _ e)
    refine PySem.W.kla_codeExpr (wpAny_mono ((hbody _ _ s1 HZ (hr.deeper _)).run [] _ _ HZ Q (J0.toTry _) ht) (fun v s' ⟨w', H', J', rv, q⟩ => ⟨w', H', J'.os, J'.bare, J'.base, J'.hok, rv, q⟩) fun e s' hq => hq)
  · cases r with
    | error e => exact tk _ _ (L2N.XE.of_call I1 (fun cls d H' h => hW cls d H' h) hq)
    | ok fl =>
      cases fl with
      | ret u => exact I1.after hq
      | next => exact False.elim hq
      | brk => exact False.elim hq
      | cont => exact False.elim hq
end
end Wn

set_option Elab.async false
set_option linter.all false
set_option maxRecDepth 100000
set_option maxHeartbeats 4000000
namespace Wn
open PySem PySem.Spec PyProof.Rows L2 HotX L2H LamX
/-- a(); except W as n: return en(n); return z -/
def tRef (K : PySem.W.Frag) (WE : Addr) (z : Str) (φ : Addr → Addr → (D → Prop) → Prop) (t : TD) : TD := fun δ P EP => t δ (fun _ => P (.str z)) (fun c => PySem.W.exmOne K (.ref c) (.ref WE) = some true ∧ ∀ a, φ a c P)
theorem takes0N {X : Cx} : L2N.Takes X (fun _ _ _ _ => False) := fun _ _ x => by
  obtain ⟨_, _, _, _, _, _, _, _, _, _, _, _, _, _, _, _, z⟩ := x
  exact z.elim
section
variable {X : Cx} {T : Tbl} {E : XK}
theorem pd_ref {x a n wn en z : Str} {st : Stmt} {g c P WE : Addr} {fd : FuncData} {sg : Scope} {k ke : Nat} {φ : Addr → Addr → (D → Prop) → Prop} {params : Arguments} {body : Expr} {scope : Scope} {t : TD} {p lpos pos p1 p2 p3 p4 p5 p6 p7 p8 p9 p10 p11 p12 : Pos} {j : Nat}
    (F : L2.Fun X.K x x st g fd) (hsg : defScope st = sg) (hbd : defBody st = [.Try [.Expr (.Call (.Name a p1) [] [] p2) p3] [.ExceptHandler (some (.Name wn p4)) (some n) [.Return (some (.Call (.Name en p5) [.Name n p6] [] p7)) p8] p9] [] [] p10, .Return (some (.Constant (.str z) j p11)) p12])
    (Sg : FnScope [a, n] [a] sg) (hva : sg.names.lookup a = some .local) (hvn : sg.names.lookup n = some .local) (hgw : sg.names.lookup wn = some .globalImplicit) (hge : sg.names.lookup en = some .globalImplicit) (hb : L2.Binds X.K fd [a] [])
    (hm : X.mg x = some (.ref g)) (hmw : X.mg wn = some (.ref WE)) (ce : ClE X.prog X.w X.K X.mg X.base T ke en φ) (TB : TabB X.base X.mg c P) (hcode : X.env.code = .ref c) (hmT : (P, X.env.qual ++ "<lambda>") ∈ T) (hu : ∀ p ∈ T, p.1 = P → p.2 = X.env.qual ++ "<lambda>") (hr : Room (k + 2) X.A) (hke : ke ≤ k + 1)
    (L : LamS X.env.scope scope) (hbody : ∀ (A : Around) (outer : List Env) (s : Shared) (H : Hp) (E : XK) (f c' : Addr), Room k (A.deeper (lamEnv X scope s.heap.objs.size f c')) → Passes (L2N.CX (lamN X A outer s H E scope f c').prog (lamN X A outer s H E scope f c').w) (lamN X A outer s H E scope f c') E → PE (lamN X A outer s H E scope f c') body (lF X.K T E t))
    (hdef : defaultsOf params X.env = ([], [])) (hbind : ∀ (q : Str) (cl : List (Str × Addr)) (pm cv ctv : Value), bindArgs (PySem.W.kla_fn "<lambda>" q params body scope cl pm cv ctv) ⟨[], []⟩ = pure [])
    (dd : (x == ("__debug__" : Str)) = false ∧ (a == ("__debug__" : Str)) = false ∧ (a == ("__classdict__" : Str)) = false ∧ (n == ("__debug__" : Str)) = false ∧ (n == ("__classdict__" : Str)) = false ∧ (wn == ("__debug__" : Str)) = false ∧ (en == ("__debug__" : Str)) = false := by decide) (hg : Gl X x := by rfl) :
    PE X (.Call (.Name x p) [.Lambda params body scope lpos] [] pos) (lF X.K T E (tRef X.K WE z φ t)) := by
  subst hsg
  obtain ⟨d1, d2, d3, d4, d5, d6, d7⟩ := dd
  obtain ⟨oc, od, kV, doc, pm0, an, cdv, ct, osl, rfl, lk, hcd⟩ := F.ex
  refine ⟨fun pins s σ H Q I ⟨δ, G0, H0, G, R, EP, LV, ht, kk⟩ => ?_⟩
  refine wpAny_Call_Name_kw (ld_glob I hg hm ?_ d1)
  refine PySem.W.callWith_K (h₀ := X.base) I.ok.mod.kin F.kp ?_ (by rfl) (by rfl)
  show wpAny _ _ (spliced ((false, eval (.Lambda params body scope lpos) X.env) :: backTo pos (starEach [] X.env))) _ _ s
  refine Calls.spliced_cons (lam_makeN I TB hcode hmT hu LV.rep.tab hdef (L.has I.ok) fun f c' pm ctv H1 s' I1 gr hf hfn hfr hco => Calls.spliced_nil ⟨I1.kIn, ?_⟩)
  refine wpAny_call (codeAny_mono (R := CR (L2N.CX X.prog X.w) X.stack X.prog X.w H1 s' Q C8.E0) (run_ofS (N := [a, n]) (ps := [a]) (us := [.ref f]) (vs := [.ref f]) lk hcd Sg hr I1.env0 (hb s' [.ref f] I1.kIn rfl) (.cons rfl .nil) rfl fun hr' => ?_) fun r s2 hq => ?_)
  · rw [hbd]
    have L1 := LV.gr (gr δ.s)
    have key := L2N.ps_try_as (X := cxOf (L2N.CX X.prog X.w) X.prog X.w X.K X.mg X.base [a, n] x (defScope st) g cdv X.A X.stack s' H1 C8.E0) (x := wn) (n := n) (c := .ref WE) (i := 1) (body := [.Expr (.Call (.Name a p1) [] [] p2) p3]) (b₀ := .Return (some (.Call (.Name en p5) [.Name n p6] [] p7)) p8) (suite := []) (np := p4) (pos := p10) (pos' := p9) (Wout := fun _ _ _ _ => False)
      (tb := fun W D σz H' => ∃ Ech : XK, σz[0]? = some (some (.ref f)) ∧ H' c' = some (CodeO c' (X.env.qual ++ "<lambda>")) ∧ (∀ cls d H2, Ech cls d H2 → W cls d σz H2) ∧ lF X.K T Ech t σ H' fun _ H2 => D.nx σz H2)
      (ts := fun a cls d D σz H' => ∃ C, cls = .ref C ∧ d = none ∧ lE X.K T 1 a C φ σz H' D.rt)
      rfl rfl Sg.nd rfl hvn ⟨hgw, d6, .inl hmw⟩ takes0N (fun W pn xe tk hp => ⟨fun pins s2 σz H' D I2 ⟨Ech, h1, h2, h3, h4⟩ => ?_⟩) (fun a1 oe cls d pn hz hf => ⟨fun pins s2 σz H' D I2 ⟨C, e1, e2, h⟩ => ?_⟩)
    · refine ⟨_, pss_cons key (pss_one (ps_ret pe_str)), ?_⟩
      have hl2 : (L2.start [a, n] [V.ref f]) = [some (.ref f), none] := rfl
      refine ⟨fun cls d H2 => ∃ c, cls = .ref c ∧ d = none ∧ (PySem.W.exmOne X.K (.ref c) (.ref WE) = some true ∧ ∀ a, φ a c R) ∧ Gr T δ.s H1 H2, rfl, hco, fun cls d H2 ⟨c, e1, e2, ⟨e3, e4⟩, g2⟩ => ?_, δ, G0, H0, G, _, _, ⟨L1.rep, fun c hc H2 g2 => ⟨c, rfl, rfl, hc, g2⟩⟩, ht, fun d hd v H2 G2 x2 r2 => ?_⟩
      · subst e1
        subst e2
        refine ⟨true, e3, fun _ a1 na => ?_, fun z => by cases z⟩
        have L2' := L1.gr g2
        have R0 : Rep X.K T G H2 G H2 (L2.start [a, n] [V.ref f]) ⟨δ.s, startD [a, n] [.ref f]⟩ := rep_start L2'.rep.src L2'.rep.tab L2'.rep.gv (.cons rfl .nil)
        exact ⟨c, rfl, rfl, _, G, H2, G, R, R0.setD (i := 1) (x := .ref a1) rfl, rfl, e4 a1, fun d hd v H3 G3 x3 r3 => kk d hd v H3 G3 ((Stp.of_gr LV.rep.gv ((gr δ.s).trans g2)).trans x3) r3⟩
      · exact kk _ hd _ H2 G (.of_gr LV.rep.gv ((gr δ.s).trans x2.gr)) rfl
    · exact (pss_one (ps_expr (pos := p3) (pe_actN (Eg := C8.E0) (sg := defScope st) (tb := lF X.K T Ech t) I1 L hf hfn hfr (hbind _ _ _ _ _) tk hr' (fun A outer s H hr2 => hbody A outer s H Ech f c' hr2 (passL (X := X) (A := A) (outer := outer) (s := s) (H := H) (E := Ech) (scope := scope) (f := f) (c' := c'))) (i := 0) (k := k) rfl (.inl hva) d2 d3))).run pins s2 σz H' D I2 ⟨h1, h2, h3, h4⟩
    · subst e1
      subst e2
      exact (pss_one (ps_ret (pos := p8) (pe_clE (X := cxOf (L2N.CX X.prog X.w) X.prog X.w X.K X.mg X.base [a, n] x (defScope st) g cdv X.A X.stack s' H1 C8.E0) (i := 1) ce ((roomH_of hr').mono hke) hz hf hge rfl (.inl hvn) d4 d5 d7))).run pins s2 σz H' D I2 h
  · cases r with
    | error e =>
      obtain ⟨_, _, _, _, _, _, _, _, _, _, _, _, q⟩ := (show L2N.CX X.prog X.w X.stack H1 s' C8.E0 e s2 from hq)
      exact q.elim
    | ok fl =>
      cases fl with
      | ret u => exact I1.after hq
      | next => exact False.elim hq
      | brk => exact False.elim hq
      | cont => exact False.elim hq
end
end Wn

set_option Elab.async false
set_option linter.all false
set_option maxRecDepth 100000
set_option maxHeartbeats 4000000
namespace Wn
open PySem L2
def isSr : Slot → Bool
  | .sr _ => true
  | _ => false
/-- the source may be laid into slot i -/
def srOk (i : Nat) (δ : DE) : Bool := (δ.sl.set i .no).all (fun o => !isSr o) && (match δ.s with
  | none => true
  | some _ => (match δ.sl[i]? with
    | some (.sr _) => true
    | _ => false))
def tSrcS (i : Nat) (te : TDL) : TDS := fun δ Z => srOk i δ = true ∧ te δ (fun ds => match ds with
  | [.int x, .int y] => (0 ≤ x ∧ 0 ≤ y ∧ y < 2147483648) ∧ ∀ a, Z.nx ⟨some a, δ.sl.set i (.sr a)⟩
  | _ => False) (Z.ex δ.s)
section
variable {K : PySem.W.Frag} {T : Tbl} {G0 H0 G H G' H' : Hp} {σ : L2.St} {δ : DE}
theorem rep_src {i : Nat} {a : Addr} {x y : Int} (R : Rep K T G0 H0 G H σ δ) (ok : srOk i δ = true) (st : Stp T δ.s G G' H H') (h1 : H a = none) (h2 : G' a = none) (h3 : H' a = some (.lst [.int x, .int y])) (b1 : 0 ≤ x) (b2 : 0 ≤ y) (b3 : y < 2147483648) :
    Rep K T G0 H0 G' H' (σ.set i (some (.ref a))) ⟨some a, δ.sl.set i (.sr a)⟩ := by
  unfold srOk at ok
  obtain ⟨ok1, ok2⟩ := Bool.and_eq_true_iff.mp ok
  have h0 : H0 a = none := R.st.gr.none_of h1
  have R' := R.stp st
  have old : ∀ b, δ.s = some b → H0 b = none := fun b e => by
    rw [e] at ok2
    cases q : δ.sl[i]? with
    | none =>
      rw [q] at ok2
      cases ok2
    | some o =>
      rw [q] at ok2
      cases o with
      | sr c =>
        obtain ⟨v, _, _, z1, z2⟩ := R.sl i _ q
        rw [e] at z1
        cases z1
        exact z2
      | _ => cases ok2
  have ns : ∀ j o, i ≠ j → δ.sl[j]? = some o → isSr o = false := fun j o c e => by
    have e2 : (δ.sl.set i .no)[j]? = some o := by
      rw [List.getElem?_set_ne c, e]
    have q := List.all_eq_true.mp ok1 o (List.mem_of_getElem? e2)
    cases z : isSr o with
    | false => rfl
    | true =>
      rw [z] at q
      cases q
  refine ⟨⟨⟨fun b o e => ?_, R'.st.gr.al, fun c e q => ?_, R'.st.gr.tb⟩, R'.st.gg, fun b o e => ?_, R'.st.nw⟩, fun c e => ?_, R'.tab, by rw [List.length_set, R.len]; exact (List.length_set ..).symm, fun j o h => ?_, fun j k c hjk q1 q2 e1 e2 => ?_⟩
  · obtain ⟨e1, e2, e3⟩ := vw_of e
    exact vw_at (vw_of (R'.st.gr.ex b o (vw_at e1 (fun z => by rw [old b z] at e1; cases e1) e3))).1 e2 e3
  · have e : a = c := Option.some.inj e
    obtain ⟨p, q, z, _⟩ := q
    rw [← e, h0] at z
    cases z
  · obtain ⟨e1, e2, e3⟩ := vw_of (R'.gv b o e)
    exact vw_at e1 (fun z => by
      have z : a = b := Option.some.inj z
      rw [← z, h2] at e
      cases e) e3
  · have e : a = c := Option.some.inj e
    rw [← e]
    exact ⟨x, y, h3, b1, b2, b3⟩
  · have h : (δ.sl.set i (.sr a))[j]? = some o := h
    by_cases c : i = j
    · subst c
      by_cases hi : i < δ.sl.length
      · rw [List.getElem?_set_self hi] at h
        cases h
        exact ⟨_, List.getElem?_set_self (by rw [R.len]; exact hi), rfl, rfl, h0⟩
      · rw [List.getElem?_eq_none (by rw [List.length_set]; omega)] at h
        cases h
    · rw [List.getElem?_set_ne c] at h ⊢
      obtain ⟨v, z1, z2⟩ := R.sl j o h
      obtain ⟨v', z3, z4⟩ := R'.sl j o h
      rw [z1] at z3
      cases z3
      refine ⟨v, z1, ?_⟩
      cases o with
      | no => trivial
      | d w => exact z4
      | sr b =>
        have q := ns j _ c h
        cases q
      | ow xs =>
        obtain ⟨b, us, e, k1, k2, k3, k4, k5⟩ := z4
        obtain ⟨b', us', e', _, _, _, k4', _⟩ := z2
        rw [e] at e'
        cases e'
        exact ⟨b, us, e, k1, fun z => (by have z : a = b := Option.some.inj z; rw [← z, h1] at k4'; cases k4'), k3, k4, k5⟩
      | oK ks xs =>
        obtain ⟨b, us, e, k1, k2, k3, k4, k5⟩ := z4
        obtain ⟨b', us', e', _, _, _, k4', _⟩ := z2
        rw [e] at e'
        cases e'
        exact ⟨b, us, e, k1, fun z => (by have z : a = b := Option.some.inj z; rw [← z, h1] at k4'; cases k4'), k3, k4, k5⟩
      | oT ks xs =>
        obtain ⟨b, us, e, k1, k2, k3, k4, k5⟩ := z4
        obtain ⟨b', us', e', _, _, _, k4', _⟩ := z2
        rw [e] at e'
        cases e'
        exact ⟨b, us, e, k1, fun z => (by have z : a = b := Option.some.inj z; rw [← z, h1] at k4'; cases k4'), k3, k4, k5⟩
      | oA b xs =>
        obtain ⟨us, e, k1, k2, k3, k4, k5⟩ := z4
        obtain ⟨us', e', _, _, _, k4', _⟩ := z2
        exact ⟨us, e, k1, fun z => (by have z : a = b := Option.some.inj z; rw [← z, h1] at k4'; cases k4'), k3, k4, k5⟩
  · have no : ∀ l, isOwn (δ.sl.set i (.sr a))[l]? = true → i ≠ l ∧ isOwn δ.sl[l]? = true := fun l hl => by
      by_cases c : i = l
      · subst c
        by_cases hi : i < δ.sl.length
        · rw [List.getElem?_set_self hi] at hl
          cases hl
        · rw [List.getElem?_eq_none (by rw [List.length_set]; omega)] at hl
          cases hl
      · rw [List.getElem?_set_ne c] at hl
        exact ⟨c, hl⟩
    obtain ⟨c1, k1⟩ := no j q1
    obtain ⟨c2, k2⟩ := no k q2
    rw [List.getElem?_set_ne c1] at e1
    rw [List.getElem?_set_ne c2] at e2
    exact R.un j k c hjk k1 k2 e1 e2
/-- the source is written -/
theorem Gr.srcw {a : Addr} {x y : Int} {us : List V} (hw : H a = some (.lst us)) (b1 : 0 ≤ x) (b2 : 0 ≤ y) (b3 : y < 2147483648) : Gr T (some a) H (upd H a (.lst [.int x, .int y])) where
  ex := fun b o e => by
    obtain ⟨e1, e2, e3⟩ := vw_of e
    exact vw_at (by rw [upd_ne (fun z => e2 (by rw [z]))]; exact e1) e2 e3
  al := fun b hb => by
    by_cases c : b = a
    · rw [c, upd_same]
      simp
    · rw [upd_ne c]
      exact hb
  sr := fun c e _ => by
    have e : a = c := Option.some.inj e
    rw [← e]
    exact ⟨x, y, upd_same, b1, b2, b3⟩
  tb := fun t p hp => by
    obtain ⟨ps, q1, q2, q3⟩ := t p hp
    have np : p.1 ≠ a := fun z => by
      rw [z, hw] at q1
      cases q1
    refine ⟨ps, by rw [upd_ne np]; exact q1, q2, fun pos cv hcv => ?_⟩
    obtain ⟨c, e1, e2⟩ := q3 pos cv hcv
    have nc : c ≠ a := fun z => by
      rw [z, hw] at e2
      unfold LamX.CodeO at e2
      cases e2
    exact ⟨c, e1, by rw [upd_ne nc]; exact e2⟩
end
/-- some number that the source may hold at j -/
def tSrcI (i j : Nat) : TD := fun δ P _ => ∃ a, δ.s = some a ∧ δ.sl[i]? = some (.d (.ref a)) ∧ ∀ z : Int, 0 ≤ z → (j = 1 → z < 2147483648) → P (.int z)
def tSrcW (i j : Nat) (te : TD) : TDS := fun δ Z => te δ (fun d => match d with
  | .int z => (0 ≤ z ∧ (j = 1 → z < 2147483648)) ∧ (∃ a, δ.s = some a ∧ δ.sl[i]? = some (.d (.ref a))) ∧ Z.nx δ
  | _ => False) (Z.ex δ.s)
section
variable {X : Cx} {K : PySem.W.Frag} {T : Tbl} {E : XK} {e : Expr} {pos : Pos}
theorem pd_srcS (i : Nat) {x : Str} {te : TDL} {pos' : Pos} (hN : X.N.Nodup) (he : PE X e (lN K T E te)) (hi : X.N[i]? = some x := by rfl) (hx : Loc X.env.scope x := by first | exact Or.inl rfl | exact Or.inr rfl) (hs : swapsWith e (some (.Name x pos')) pos.line X.env = pure false := by rfl)
    (hf : X.fn x = true ∨ X.env.scope.names.lookup x = some .local := by first | exact .inl rfl | exact .inr rfl) : PS X (.Assign [.Name x pos'] e pos) (lS K T E (tSrcS i te)) :=
  ps_imp (ps_set hN hi hx he hs hf) fun D σ H ⟨δ, G0, H0, G, Z, R, ⟨ok, h⟩, F⟩ => ⟨δ, G0, H0, G, _, _, F.lv R, h, fun ds hd a us H' G' st h1 h2 h3 r => by
    split at hd
    · rename_i x y
      have e2 : us = [V.int x, V.int y] := RpA.ints (ns := [x, y]) r
      rw [e2] at h3
      exact F.nx _ G' _ H' st.gg (rep_src R ok st h1 h2 h3 hd.1.1 hd.1.2.1 hd.1.2.2) (hd.2 a)
    · exact hd.elim⟩
theorem pd_srcI (i j : Nat) {x : Str} {p p2 : Pos} {k : Nat} (hj : j < 2) (hN : X.N[i]? = some x := by rfl) (hv : Vis X.env.scope x := by first | exact Or.inl rfl | exact Or.inr (Or.inl rfl) | exact Or.inr (Or.inr rfl)) (hd : (x == ("__debug__" : Str)) = false := by decide)
    (hcd : (x == ("__classdict__" : Str)) = false := by decide) (hs : PlainIx (.Constant (.int (j : Int)) k p2) := by intro _ _; rfl) : PE X (.Subscript (.Name x p) (.Constant (.int (j : Int)) k p2) pos) (lF X.K T E (tSrcI i j)) :=
  pe_imp (pe_ix ix_list (pe_var hN hv hd hcd) pe_int hs) fun σ H Q ⟨δ, G0, H0, G, P, EP, L, ⟨a, h1, h2, h3⟩, k⟩ => by
    obtain ⟨v, e1, r⟩ := rep_d L.rep h2
    obtain ⟨x, y, e2, b1, b2, b3⟩ := L.rep.src a h1
    have r : v = .ref a := r
    refine ⟨v, e1, a, [.int x, .int y], j, if j = 0 then .int x else .int y, r, rfl, .of e2, ?_, ?_⟩
    · rcases (show j = 0 ∨ j = 1 by omega) with z | z <;> subst z <;> rfl
    · rcases (show j = 0 ∨ j = 1 by omega) with z | z <;> subst z
      · exact k _ (h3 x b1 (fun z => by cases z)) _ H G (.refl L.rep.gv) rfl
      · exact k _ (h3 y b2 (fun _ => b3)) _ H G (.refl L.rep.gv) rfl
theorem pd_srcW (i j : Nat) {x : Str} {te : TD} {p p2 tpos : Pos} {k : Nat} (hj : j < 2) (he : PE X e (lF X.K T E te)) (hN : X.N[i]? = some x := by rfl) (hv : Vis X.env.scope x := by first | exact Or.inl rfl | exact Or.inr (Or.inl rfl) | exact Or.inr (Or.inr rfl)) (hd : (x == ("__debug__" : Str)) = false := by decide)
    (hcd : (x == ("__classdict__" : Str)) = false := by decide)
    (ha : ∀ v, assign (.Subscript (.Name x p) (.Constant (.int (j : Int)) k p2) tpos) X.env v = (do
      let ov ← holding [v] (eval (.Name x p) X.env)
      let iv ← holding [v, ov] (eval (.Constant (.int (j : Int)) k p2) X.env)
      standAt tpos
      holding [v, ov, iv] (setItem ov iv v)
      release [v, ov, iv] []) := by intro _; rfl) (hs : swapsWithSole [.Subscript (.Name x p) (.Constant (.int (j : Int)) k p2) tpos] e pos.line X.env = pure false := by rfl) (hw : swappedStores [.Subscript (.Name x p) (.Constant (.int (j : Int)) k p2) tpos] e X.env = pure none := by rfl)
    (h1 : (assignEach [.Subscript (.Name x p) (.Constant (.int (j : Int)) k p2) tpos] X.env).map (·.2) = [assign (.Subscript (.Name x p) (.Constant (.int (j : Int)) k p2) tpos) X.env] := by rfl) : PS X (.Assign [.Subscript (.Name x p) (.Constant (.int (j : Int)) k p2) tpos] e pos) (lS X.K T E (tSrcW i j te)) :=
  ps_imp (ps_asg he (pg_sub (pe_var hN hv hd hcd) pe_int set_list ha) hs hw h1) fun D σ H ⟨δ, G0, H0, G, Z, R, h, F⟩ => ⟨δ, G0, H0, G, _, _, F.lv R, h, fun d hd v H' G' st r => by
    cases d with
    | int z =>
      obtain ⟨⟨b1, b2⟩, ⟨a, e1, e2⟩, hz⟩ := hd
      have R' := R.stp st
      obtain ⟨w, e3, r2⟩ := rep_d R' e2
      have r2 : w = .ref a := r2
      obtain ⟨x, y, e4, c1, c2, c3⟩ := R'.src a e1
      refine ⟨w, e3, a, [.int x, .int y], j, j, r2, rfl, e4, ?_, ?_⟩
      · rcases (show j = 0 ∨ j = 1 by omega) with z | z <;> subst z <;> rfl
      · have r : v = .int z := r
        rw [r]
        rcases (show j = 0 ∨ j = 1 by omega) with q | q <;> subst q
        · exact F.nx _ G' σ _ st.gg (R'.gr (by rw [e1]; exact Gr.srcw e4 b1 c2 c3)) hz
        · exact F.nx _ G' σ _ st.gg (R'.gr (by rw [e1]; exact Gr.srcw e4 c1 b1 (b2 rfl))) hz
    | _ => exact hd.elim⟩
end
end Wn

set_option Elab.async false
set_option linter.all false
set_option maxRecDepth 100000
set_option maxHeartbeats 4000000
namespace Wn
open PySem PySem.Spec PyProof.Rows L2 LamX
def tIxO (i : Nat) (tb : TD) : TD := fun δ P EP => match δ.sl[i]? with
  | some (.ow xs) => tb δ (fun k => match k with
    | .int j => (match L2.atI xs j with
      | some d => P d
      | none => False)
    | _ => False) EP
  | _ => False
section
variable {X : Cx} {T : Tbl} {E : XK} {b : Expr} {pos : Pos} {tb : TD}
theorem pd_ixO (i : Nat) {x : Str} {p : Pos} (hb : PE X b (lR X.K T E tb)) (hN : X.N[i]? = some x := by rfl) (hv : Vis X.env.scope x := by first | exact Or.inl rfl | exact Or.inr (Or.inl rfl) | exact Or.inr (Or.inr rfl)) (hd : (x == ("__debug__" : Str)) = false := by decide)
    (hcd : (x == ("__classdict__" : Str)) = false := by decide) (hs : PlainIx b := by intro _ _; rfl) : PE X (.Subscript (.Name x p) b pos) (lF X.K T E (tIxO i tb)) :=
  pe_imp (pe_ix ix_list (pe_var (pos := p) hN hv hd hcd) hb hs) fun σ H Q ⟨δ, G0, H0, G, P, EP, L, ht, k⟩ => by
    unfold tIxO at ht
    cases e0 : δ.sl[i]? with
    | none =>
      rw [e0] at ht
      exact ht.elim
    | some o =>
      rw [e0] at ht
      cases o with
      | ow xs =>
        obtain ⟨v, h1, a, us, e2, q1, q3, q4, q5, q6⟩ := L.rep.sl i _ e0
        rw [e2] at h1
        refine ⟨.ref a, h1, δ, G0, H0, G, _, EP, L, ht, fun d hd w H2 g2 r2 => ?_⟩
        cases d with
        | int j =>
          have hd : (match L2.atI xs j with | some d => P d | none => False) := hd
          cases q2 : L2.atI xs j with
          | none =>
            rw [q2] at hd
            exact hd.elim
          | some d =>
            rw [q2] at hd
            obtain ⟨y, h3, h4⟩ := q6.atI q2
            exact ⟨a, us, j, y, rfl, r2, .of (vw_sub _ _ (g2.ex _ _ (vw_at q5 q3 fun ps z => by cases z))), h3, k d hd y H2 G (.of_gr L.rep.gv g2) h4⟩
        | _ => exact hd.elim
      | _ => exact ht.elim
end
section
variable {P : Program} {w : World} {K : PySem.W.Frag} {T : Tbl} {mg : Str → Option Value} {base : Heap} {x qual : Str} {st : Stmt} {f : Addr} {fd : FuncData} {N ps : List Str} {k n : Nat} {b : TDS}
/-- a def at a known place: its code object is the one that the head tells -/
theorem fn_Dc {p : Str × Option Str} (F : L2.Fun K x qual st (He.fAd K p) fd) (S : FnScope N ps (defScope st)) (hn : ps.length = n) (hb : ∀ (A : Around) (outer : List Env) (s : Shared) (H : Hp) (E : XK), Room k (A.deeper (envOfC qual (defScope st) s.heap.objs.size (He.fAd K p) (.ref (He.codeOf K p)))) →
      PSs (cxOf (L2N.CX P w) P w K mg base N qual (defScope st) (He.fAd K p) (.ref (He.codeOf K p)) A outer s H E) (defBody st) (lS K T E b)) : FnOk P w K mg base (L2N.CX P w) (k + 1) (He.fAd K p) fd ps (spD K T n (bodyF N b)) := by
  have F' := F
  obtain ⟨oc, od, kV, doc, pm, an, cdv, ct, osl, efd, lk, hcd⟩ := F.ex
  obtain ⟨c, rfl⟩ := He.codeIn_ref hcd
  subst efd
  have ec : He.codeOf K p = c := He.codeOf_eq lk rfl
  rw [ec] at hb
  refine fn_of lk hcd S (fun vs H Q E ⟨s, G, ds, P, EP, _, _, _, r, hl, _⟩ => by rw [r.len, hl, hn]) fun A outer s H vs Q E hr ⟨s0, G, ds, R, EP, src, tab, gv, r, hl, h, k1, k2⟩ => ⟨_, hb A outer s H E hr, ⟨s0, startD N ds⟩, G, H, G, _, rep_start src tab gv r, h, ?_⟩
  refine ⟨fun δ G' σ H' _ R hz => ?_, fun δ G' σ H' _ R hz => hz.elim, fun δ G' σ H' _ R hz => hz.elim, fun s' d hz v G' H' x r' => ?_, fun s' es hz a us G' H' x h1 h2 h4 h3 r' => ?_, fun s' c hz H' g => ?_⟩
  · obtain ⟨e, hp⟩ := hz
    exact k1 _ hp .non H' G' (by rw [← e]; exact R.st) rfl
  · obtain ⟨e, hp⟩ := hz
    exact k1 d hp v H' G' (by rw [← e]; exact x) r'
  · exact (fits_fn (K := K) (E := E) k1).rn s' es hz a us G' H' x h1 h2 h4 h3 r'
  · obtain ⟨e, hp⟩ := hz
    exact k2 c hp H' (by rw [← e]; exact g)
/-- nothing is promised -/
theorem Cl.void {sp : Sp} {k j : Nat} (c : Cl P w K mg base k x sp) {n : Nat} : Cl P w K mg base j x (spD K T n fun _ _ _ _ => False) := by
  obtain ⟨f, fd, ps, F, r⟩ := c.ex
  exact ⟨f, fd, ps, ⟨fun vs H Q E ⟨s, G, ds, P, EP, _, _, _, _, _, h, _⟩ => h.elim, fun A outer s H args us vs Q E _ _ _ _ ⟨s0, G, ds, P, EP, _, _, _, _, _, h, _⟩ => h.elim⟩, r⟩
/-- what returns a new list returns data -/
def fD (ψ : FnL) : Fn := fun s ds P EP => ψ s ds (fun es => P (.lst es)) EP
theorem spN_D {ψ : FnL} : ∀ vs H Q E, spD K T n (fD ψ) vs H Q E → spN K T n ψ vs H Q E := fun vs H Q E ⟨s, G, ds, P, EP, h1, h2, h3, h4, h5, h6, k1, k2⟩ => ⟨s, G, ds, _, EP, h1, h2, h3, h4, h5, h6, fun es hes a us H' G' x n1 n2 n3 r => by
  have sa : s ≠ some a := fun z => by
    obtain ⟨p, q, e, _⟩ := h1 a z
    rw [n1] at e
    cases e
  exact (fits_fn (K := K) (T := T) (E := E) (Q := Q) k1).rn s es ⟨rfl, hes⟩ a us G' H' x n1 n2 sa n3 r, k2⟩
theorem Cl.toA {a : Addr} {φ : Fn} (c : Cl P w K mg base k x (spD K T n φ)) (e : mg x = some (.ref a)) : ClA P w K mg base T k a n φ := by
  obtain ⟨f, fd, ps, F, hm, r⟩ := c.ex
  rw [e] at hm
  cases hm
  exact ⟨fd, ps, F, r⟩
end
end Wn

set_option Elab.async false
set_option linter.all false
set_option maxRecDepth 100000
set_option maxHeartbeats 4000000
namespace Wn
open PySem PySem.Spec PyProof.Rows L2 LamX
def spLaw (K : PySem.W.Frag) (T : Tbl) (n : Nat) : Sp := fun vs H Q E => ∃ a, ∃ ns : List Int, vs = [.ref a] ∧ SqL K H a (ns.map V.int) ∧ ns.length ≤ n ∧ (∀ z ∈ ns, Builtin.Int.intBits z ≤ 1048576) ∧ LamX.Tabs T H ∧ ∀ H', Q (.bl true) H'
theorem sqL_vwn {K : PySem.W.Frag} {H : Hp} {a : Addr} {xs : List V} (h : SqL K H a xs) : SqL K (vw none H) a xs := by
  rcases h with (h | ⟨o, h⟩) | h
  · exact .inl (.inl (vw_at h (fun z => by cases z) fun ps z => by cases z))
  · exact .inl (.inr ⟨o, vw_at h (fun z => by cases z) fun ps z => by cases z⟩)
  · exact .inr h
/-- what the law's reading is to show -/
def LawD (N : List Str) (b : TDS) (n : Nat) : Prop := ∀ ns : List Int, ns.length ≤ n → (∀ z ∈ ns, Builtin.Int.intBits z ≤ 1048576) → b ⟨none, startD N [.kl (ns.map D.int)]⟩ { nx := fun _ => False, rt := fun _ d => d = .bl true, rn := fun _ _ => False, ex := fun _ _ => False }
section
variable {P : Program} {w : World} {K : PySem.W.Frag} {T : Tbl} {mg : Str → Option Value} {base : Heap} {x qual : Str} {st : Stmt} {f : Addr} {fd : FuncData} {N ps : List Str} {k n : Nat} {b : TDS}
theorem fn_law (F : L2.Fun K x qual st f fd) (S : FnScope N ps (defScope st)) (hn : ps.length = 1) (hL : LawD N b n) (hb : ∀ (cdv : Value) (A : Around) (outer : List Env) (s : Shared) (H : Hp) (E : XK), Room k (A.deeper (envOfC qual (defScope st) s.heap.objs.size f cdv)) →
      PSs (cxOf (L2N.CX P w) P w K mg base N qual (defScope st) f cdv A outer s H E) (defBody st) (lS K T E b)) : FnOk P w K mg base (L2N.CX P w) (k + 1) f fd ps (spLaw K T n) := by
  refine fn_okX F S (fun vs H Q E ⟨a, ns, e, _⟩ => by rw [e, hn] <;> rfl) fun cdv A outer s0 H vs Q E hr ⟨a, ns, e, h1, h2, h3, h4, h5⟩ => ⟨_, hb cdv A outer s0 H E hr, ?_⟩
  subst e
  refine ⟨⟨none, startD N [.kl (ns.map D.int)]⟩, vw none H, H, vw none H, _, rep_start (fun a z => by cases z) h4 (.refl _) (.cons ⟨a, _, rfl, sqL_vwn h1, .of_ints ns⟩ .nil), hL ns h2 h3, ⟨fun δ G' σ H' _ R hz => hz.elim, fun δ G' σ H' _ R hz => hz.elim, fun δ G' σ H' _ R hz => hz.elim, fun s' d hz v G' H' x r' => ?_, fun s' es hz a us G' H' x h1 h2 h4 h3 r' => hz.elim, fun s' c hz H' g => hz.elim⟩⟩
  have hz : d = .bl true := hz
  rw [hz] at r'
  have r' : v = .bl true := r'
  rw [r']
  exact h5 H'
end
/-- where the def x makes its lambda -/
structure Tb (K : PySem.W.Frag) (base : Heap) (mg : Str → Option Value) (T : Tbl) (x : Str) : Prop where
  tb : TabB base mg (He.codeOf K (x, none)) (He.tabOf K (He.codeOf K (x, none)))
  mem : (He.tabOf K (He.codeOf K (x, none)), x ++ ".<locals>." ++ "<lambda>") ∈ T
  un : ∀ p ∈ T, p.1 = He.tabOf K (He.codeOf K (x, none)) → p.2 = x ++ ".<locals>." ++ "<lambda>"
end Wn

set_option Elab.async false
set_option linter.all false
set_option maxRecDepth 100000
set_option maxHeartbeats 4000000
namespace Wn
open PySem L2
theorem valV_keys (k : Key) : ∀ ws : List (Key × V), (valV ws k).isSome = (ws.map (·.1)).any (fun j => decide (j = k)) := fun ws => by
  rw [← valV_any, List.any_map]
  rfl
/-- behind d[k] = v -/
def putKs (ks : List Key) (k : Key) : List Key := if ks.any (fun j => decide (j = k)) = true then ks else ks ++ [k]
def putVs : List Key → List D → Key → D → List D
  | j :: ks, d :: ds, k, v => if j = k then v :: (putVs ks ds k v) else d :: putVs ks ds k v
  | _, _, _, _ => []
def putDs (ks : List Key) (ds : List D) (k : Key) (v : D) : List D := if ks.any (fun j => decide (j = k)) = true then putVs ks ds k v else ds ++ [v]
theorem put_keys (ws : List (Key × V)) (k : Key) (v : V) : (putK ws k v).map (·.1) = putKs (ws.map (·.1)) k := by
  have e : (ws.map (·.1)).any (fun j => decide (j = k)) = ws.any fun kv => decide (kv.1 = k) := by
    rw [List.any_map]
    rfl
  unfold putK putKs
  rw [e]
  by_cases c : (ws.any fun kv => decide (kv.1 = k)) = true
  · rw [if_pos c, if_pos c, List.map_map]
    refine List.map_congr_left fun x _ => ?_
    show (if x.1 = k then (x.1, v) else x).1 = x.1
    split <;> rfl
  · rw [if_neg c, if_neg c, List.map_append]
    rfl
theorem put_vals {K : PySem.W.Frag} {G : Hp} {k : Key} {v : V} {d : D} (hv : Rp K G d v) : ∀ (ws : List (Key × V)) (ds : List D), RpA K G ds (ws.map (·.2)) → RpA K G (putVs (ws.map (·.1)) ds k d) ((ws.map fun kv => if kv.1 = k then (kv.1, v) else kv).map (·.2))
  | [], ds, h => by
    cases ds with
    | nil => exact rfl
    | cons x r =>
      obtain ⟨_, _, e, _⟩ := h
      cases e
  | w :: ws, ds, h => by
    cases ds with
    | nil =>
      have h : _ = [] := h
      cases h
    | cons x r =>
      obtain ⟨y, ys, e, h1, h2⟩ := h
      rw [List.map_cons] at e
      cases e
      rw [List.map_cons, List.map_cons, List.map_cons]
      unfold putVs
      by_cases c : w.1 = k
      · rw [if_pos c, if_pos c]
        exact .cons hv (put_vals hv ws r h2)
      · rw [if_neg c, if_neg c]
        exact .cons h1 (put_vals hv ws r h2)
theorem put_rep {K : PySem.W.Frag} {G : Hp} {k : Key} {v : V} {d : D} {ws : List (Key × V)} {ds : List D} (hv : Rp K G d v) (h : RpA K G ds (ws.map (·.2))) : RpA K G (putDs (ws.map (·.1)) ds k d) ((putK ws k v).map (·.2)) := by
  have e : (ws.map (·.1)).any (fun j => decide (j = k)) = ws.any fun kv => decide (kv.1 = k) := by
    rw [List.any_map]
    rfl
  unfold putK putDs
  rw [e]
  by_cases c : (ws.any fun kv => decide (kv.1 = k)) = true
  · rw [if_pos c, if_pos c]
    exact put_vals hv ws ds h
  · rw [if_neg c, if_neg c, List.map_append]
    exact h.snoc hv
/-- key in the frame's own dict of slot i -/
def tInK (neg : Bool) (i : Nat) (tk : TD) : TD := fun δ P EP => tk δ (fun k => match k, δ.sl[i]? with
  | .int z, some (.oK ks _) => P (.bl (if neg then !(ks.any fun j => decide (j = .inl z)) else ks.any fun j => decide (j = .inl z)))
  | _, _ => False) EP
/-- d[key] = e -/
def tPutK (i : Nat) (tk te : TD) : TDS := fun δ Z => te δ (fun d => match δ.sl[i]? with
  | some (.oK ks vs) => tk δ (fun k => match k with
    | .int z => szOk (ks.length + 1) (Z.nx (δ.set i (.oK (putKs ks (.inl z)) (putDs ks vs (.inl z) d))))
    | _ => False) (Z.ex δ.s)
  | _ => False) (Z.ex δ.s)
section
variable {X : Cx} {K : PySem.W.Frag} {T : Tbl} {E : XK} {e k : Expr} {pos : Pos} {tk te : TD}
theorem rep_oK {G0 H0 G H : Hp} {σ : L2.St} {δ : DE} {i : Nat} {ks : List Key} {vs : List D} (R : Rep K T G0 H0 G H σ δ) (h : δ.sl[i]? = some (.oK ks vs)) : ∃ a ws, σ[i]? = some (some (.ref a)) ∧ H a = some (.dK ws) ∧ ws.map (·.1) = ks ∧ RpA K G vs (ws.map (·.2)) := by
  obtain ⟨v, h1, a, ws, ev, q1, q2, q3, q4, q6, q5⟩ := R.sl i _ h
  rw [ev] at h1
  exact ⟨a, ws, h1, q4, q6, q5⟩
theorem inK_run {neg : Bool} {i : Nat} {σ : L2.St} {H : Hp} {Q : VK} (h : lF K T E (tInK neg i tk) σ H Q) : lR K T E tk σ H fun y H1 => ∃ v, σ[i]? = some (some v) ∧ ∃ a o, v = .ref a ∧ DGet H1 a y o ∧ Q (.bl (if neg then !o.isSome else o.isSome)) H1 := by
  obtain ⟨δ, G0, H0, G, P, EP, L, ht, q⟩ := h
  refine ⟨δ, G0, H0, G, _, EP, L, ht, fun d hd v H1 g1 r1 => ?_⟩
  cases d with
  | int z =>
    cases e0 : δ.sl[i]? with
    | none =>
      rw [e0] at hd
      exact hd.elim
    | some o =>
      rw [e0] at hd
      cases o with
      | oK ks vs =>
        obtain ⟨a, ws, h1, h2, h3, h4⟩ := rep_oK (L.gr g1).rep e0
        have r1 : v = .int z := r1
        refine ⟨.ref a, h1, a, _, rfl, by rw [r1]; exact DGet.k (k := .inl z) h2, ?_⟩
        rw [valV_keys, h3]
        exact q _ hd _ H1 G (.of_gr L.rep.gv g1) rfl
      | _ => exact hd.elim
  | _ => exact hd.elim
theorem pd_ninK (i : Nat) {x : Str} {p : Pos} (hu : X.A.units + 1 < cLine) (hk : PE X k (lR K T E tk)) (hN : X.N[i]? = some x := by rfl) (hv : Vis X.env.scope x := by first | exact Or.inl rfl | exact Or.inr (Or.inl rfl) | exact Or.inr (Or.inr rfl)) (hd : (x == ("__debug__" : Str)) = false := by decide)
    (hcd : (x == ("__classdict__" : Str)) = false := by decide) : PE X (.Compare k [.NotIn] [.Name x p] pos) (lF K T E (tInK true i tk)) :=
  pe_imp (pe_cmp (pc_dnotin hu hk (pe_var (pos := p) hN hv hd hcd)) (by rfl)) fun σ H Q h => inK_run (neg := true) h
theorem pd_tninK (i : Nat) {x : Str} {p : Pos} (hu : X.A.units + 1 < cLine) (hk : PE X k (lR K T E tk)) (hN : X.N[i]? = some x := by rfl) (hv : Vis X.env.scope x := by first | exact Or.inl rfl | exact Or.inr (Or.inl rfl) | exact Or.inr (Or.inr rfl)) (hd : (x == ("__debug__" : Str)) = false := by decide)
    (hcd : (x == ("__classdict__" : Str)) = false := by decide) : PT X (.Compare k [.NotIn] [.Name x p] pos) (lB K T E (tBl (tInK true i tk))) :=
  pt_imp (pt_cmp (pc_dnotin hu hk (pe_var (pos := p) hN hv hd hcd)) (by rfl)) fun σ H Q ⟨δ, G0, H0, G, P, EP, L, ht, q⟩ => inK_run (neg := true) (Q := fun x H' => ∃ k, x = .bl k ∧ Q k H') ⟨δ, G0, H0, G, _, EP, L, ht, fun d hd v H' G' x r => by
    cases d with
    | bl b => exact ⟨b, r, q b hd H' x.gr⟩
    | _ => exact hd.elim⟩
theorem pd_putK (i : Nat) {x : Str} {p tpos : Pos} (hu : X.A.units + 1 < cLine) (he : PE X e (lF K T E te)) (hk : PE X k (lR K T E tk)) (hN : X.N[i]? = some x := by rfl) (hv : Vis X.env.scope x := by first | exact Or.inl rfl | exact Or.inr (Or.inl rfl) | exact Or.inr (Or.inr rfl)) (hd : (x == ("__debug__" : Str)) = false := by decide)
    (hcd : (x == ("__classdict__" : Str)) = false := by decide) (hs : swapsWith e (some (.Subscript (.Name x p) k tpos)) pos.line X.env = pure false := by rfl) : PS X (.Assign [.Subscript (.Name x p) k tpos] e pos) (lS K T E (tPutK i tk te)) :=
  ps_imp (ps_dput hu (pe_var (pos := p) hN hv hd hcd) hk he hs) fun D σ H ⟨δ, G0, H0, G, Z, R, h, F⟩ => ⟨δ, G0, H0, G, _, _, F.lv R, h, fun d hd v H' G' x r => by
    cases e0 : δ.sl[i]? with
    | none =>
      rw [e0] at hd
      exact hd.elim
    | some o =>
      rw [e0] at hd
      cases o with
      | oK ks vs =>
        have R' := R.stp x
        obtain ⟨a0, ws0, h1, _⟩ := rep_oK R' e0
        refine ⟨.ref a0, h1, δ, G0, H0, G', _, _, (F.up x.gg).lv R', hd, fun kd hkd kv H2 g2 rk => ?_⟩
        cases kd with
        | int z =>
          obtain ⟨z1, z2⟩ := szOk.get hkd
          have R2 := R'.gr g2
          obtain ⟨w, h3, a, ws, ev, q1, q2, q3, q4, q6, q5⟩ := R2.sl i _ e0
          rw [ev, h1] at h3
          cases h3
          have rk : kv = .int z := rk
          have hl : ws.length < sizeLine := by
            have q : ws.length = ks.length := by rw [← q6, List.length_map]
            omega
          refine ⟨a0, _, rfl, by rw [rk]; exact DPut.k (k := .inl z) q4 hl, ?_⟩
          refine F.nx _ G' σ _ x.gg (R2.wr (o' := .oK (putKs ks (.inl z)) (putDs ks vs (.inl z) d)) e0 rfl h1 q1 q2 q3 q4 trivial ⟨a0, putK ws (.inl z) v, rfl, q1, q2, q3, upd_same, ?_, ?_⟩) z2
          · rw [put_keys, q6]
          · rw [← q6]
            exact put_rep r q5
        | _ => exact hkd.elim
      | _ => exact hd.elim⟩
/-- list(range(n)) -/
def tLR1 (t : TD) : TDL := fun δ P EP => t δ (fun d => match d with
  | .int j => j ≤ 100000 ∧ -(2 ^ 62) ≤ j ∧ P (rgD 0 j.toNat)
  | _ => False) EP
theorem rgV_rep {G : Hp} (j : Int) : RpA K G (rgD 0 j.toNat) (rgV 0 j) := by
  have e1 : rgD 0 j.toNat = ((List.range j.toNat).map fun (k : Nat) => (0 : Int) + k).map D.int := by
    unfold rgD
    rw [List.map_map]
    rfl
  have e2 : rgV 0 j = ((List.range j.toNat).map fun (k : Nat) => (0 : Int) + k).map V.int := by
    unfold rgV
    rw [List.map_map, Int.sub_zero]
    rfl
  rw [e1, e2]
  exact RpA.of_ints _
theorem pd_listR1 {a : Expr} {p p2 pos2 : Pos} {t : TD} (hc : X.calm = true) (hm : X.mg "list" = none) (hm2 : X.mg "range" = none) (ha : PE X a (lR K T E t)) (hg : Gl X "list" := by rfl) (hg2 : Gl X "range" := by rfl) (na : starEach [a] X.env = (false, eval a X.env) :: starEach [] X.env := by rfl)
    (na2 : starEach [.Call (.Name "range" p2) [a] [] pos2] X.env = (false, eval (.Call (.Name "range" p2) [a] [] pos2) X.env) :: starEach [] X.env := by rfl) : PE X (.Call (.Name "list" p) [.Call (.Name "range" p2) [a] [] pos2] [] pos) (lN K T E (tLR1 t)) :=
  pe_imp (pe_listRg hc hg hm (prg_1 hg2 hm2 ha na) na2) fun σ H Q ⟨δ, G0, H0, G, P, EP, L, ht, q⟩ => ⟨δ, G0, H0, G, _, EP, L, ht, fun d hd v H1 g1 r1 => by
    cases d with
    | int j =>
      obtain ⟨b1, b2, hP⟩ := hd
      exact ⟨j, r1, ⟨by omega, by omega, b2, by omega, by omega⟩, fun p hp => q _ hP p _ _ G ((Stp.of_gr L.rep.gv g1).trans (.of_gr (L.gr g1).rep.gv (.new hp))) (g1.none_of hp) ((L.gr g1).rep.gnone hp) upd_same (rgV_rep j)⟩
    | _ => exact hd.elim⟩
end
end Wn

set_option Elab.async false
set_option linter.all false
set_option maxRecDepth 100000
set_option maxHeartbeats 4000000
namespace Wn
open PySem L2
theorem u1un {n m : Nat} (h : n + 64 < m) : n + 1 < m := by omega
@[simp] def fgL : List Nat → List Slot → List Slot
  | [], l => l
  | j :: js, l => fgL js (l.set j .no)
def tFgE (js : List Nat) (t : TDS) : TDS := fun δ Z => t δ { Z with nx := fun δ' => Z.nx ⟨δ'.s, fgL js δ'.sl⟩ }
section
variable {X : Cx} {K : PySem.W.Frag} {T : Tbl} {E : XK} {G G0 H H0 : Hp} {σ : L2.St} {δ : DE} {st : Stmt} {t : TDS}
theorem Rep.fg1 (R : Rep K T G0 H0 G H σ δ) (i : Nat) : Rep K T G0 H0 G H σ (δ.set i .no) := by
  by_cases c : i < σ.length
  · have e : σ.set i σ[i] = σ := List.set_getElem_self c
    have q := R.setNo (i := i) (v := σ[i])
    rw [e] at q
    exact q
  · have q := R.setNo (i := i) (v := none)
    rw [List.set_eq_of_length_le (Nat.le_of_not_lt c)] at q
    exact q
theorem Rep.fg : ∀ (js : List Nat) {δ : DE}, Rep K T G0 H0 G H σ δ → Rep K T G0 H0 G H σ ⟨δ.s, fgL js δ.sl⟩
  | [], _, R => R
  | j :: js, _, R => Rep.fg js (R.fg1 j)
theorem pd_fg (js : List Nat) (h : PS X st (lS K T E t)) : PS X st (lS K T E (tFgE js t)) :=
  ps_imp h fun D σ H ⟨δ, G0, H0, G, Z, R, h, F⟩ => ⟨δ, G0, H0, G, _, R, h, ⟨fun δ' G' σ' H' g R' z => F.nx _ G' σ' H' g (R'.fg js) z, F.bk, F.ct, F.rt, F.rn, F.ex⟩⟩
end
/-! several targets at once, some of them cells: by way of a tuple -/
def stAll : List Nat → List V → L2.St → L2.St
  | j :: js, v :: vs, σ => stAll js vs (σ.set j (some v))
  | _, _, σ => σ
def gNs (js : List Nat) : TGs := fun vs σ H Q => vs.length = js.length ∧ Q (stAll js vs σ) H
def slAll : List Nat → List MI → DE → Option DE
  | [], [], δ => some δ
  | j :: js, m :: ms, δ => slAll js ms (δ.set j m.slot)
  | _, _, _ => none
def tParM (js : List Nat) (t : TDM) : TDS := fun δ Z => t δ (fun ms => ms.length ≤ 100 ∧ (match slAll js ms δ with
  | some δ' => Z.nx δ'
  | none => False)) (Z.ex δ.s)
theorem MisOk.len {K : PySem.W.Frag} {HS G H : Hp} : ∀ {ms : List MI} {vs : List V}, MisOk K HS G H ms vs → vs.length = ms.length
  | [], vs, h => by
    rw [show vs = [] from h] <;> rfl
  | m :: ms, vs, ⟨v, r, e, _, h, _⟩ => by
    rw [e, List.length_cons, List.length_cons, h.len]
theorem slAll_len : ∀ (js : List Nat) (ms : List MI) (δ δ' : DE), slAll js ms δ = some δ' → ms.length = js.length := by
  intro js
  induction js with
  | nil =>
    intro ms δ δ' q
    cases ms with
    | nil => rfl
    | cons d ds => cases q
  | cons j js ih =>
    intro ms δ δ' q
    cases ms with
    | nil => cases q
    | cons d ds => rw [List.length_cons, List.length_cons, ih ds _ _ q]
theorem rep_mis {K : PySem.W.Frag} {T : Tbl} {G0 H0 HS G H : Hp} (h0 : ∀ a, HS a = none → H0 a = none) : ∀ (js : List Nat) (ms : List MI) (vs : List V) {σ : L2.St} {δ δ' : DE}, Rep K T G0 H0 G H σ δ → (∀ a, δ.s = some a → HS a ≠ none) → (∀ j ∈ js, j < σ.length) → MisOk K HS G H ms vs →
    (∀ b, (∃ i : Nat, (∃ m', ms[i]? = some m' ∧ m'.fresh = true) ∧ vs[i]? = some (V.ref b)) → ∀ j : Nat, isOwn δ.sl[j]? = true → σ[j]? ≠ some (some (V.ref b))) → slAll js ms δ = some δ' → Rep K T G0 H0 G H (stAll js vs σ) δ' ∧ δ'.s = δ.s
  | [], ms, vs, σ, δ, δ', R, _, _, h, _, e => by
    cases ms with
    | nil =>
      cases e
      rw [show vs = [] from h]
      exact ⟨R, rfl⟩
    | cons m ms => cases e
  | j :: js, ms, vs, σ, δ, δ', R, hs, hj, h, hn, e => by
    cases ms with
    | nil => cases e
    | cons m ms =>
      obtain ⟨v, r, ev, h1, h2, h3⟩ := h
      subst ev
      have hjl := hj j List.mem_cons_self
      have R1 := rep_mi (i := j) R h0 hs h1 fun a hf ev k hk => hn a ⟨0, ⟨m, rfl, hf⟩, by rw [ev] <;> rfl⟩ k hk
      exact rep_mis (δ := δ.set j m.slot) h0 js ms r R1 hs (fun k hk => by
        rw [List.length_set]
        exact hj k (List.mem_cons_of_mem _ hk)) h2 (fun b ⟨i, ⟨m', q1, q2⟩, q3⟩ => set_no hjl (hn b ⟨i + 1, ⟨m', by simpa using q1, q2⟩, by simpa using q3⟩) fun hf z => h3 b hf z b ⟨i, ⟨m', q1, q2⟩, q3⟩ rfl) e
section
variable {X : Cx} {T : Tbl} {E : XK} {e : Expr} {es ts : List Expr} {r : TDM} {pos : Pos} {js : List Nat}
theorem pd_ns0 : PGs X [] (gNs []) := pgs_imp pgs_nil fun vs σ H Q ⟨h, q⟩ => by
  cases vs with
  | nil => exact ⟨rfl, q⟩
  | cons v vs => cases h
theorem pd_ns1 (j : Nat) {x : Str} {pos : Pos} (hN : X.N.Nodup) (h2 : PGs X es (gNs js)) (hi : X.N[j]? = some x := by rfl) (hx : Loc X.env.scope x := by first | exact Or.inl rfl | exact Or.inr rfl) (hf : X.fn x = true ∨ X.env.scope.names.lookup x = some .local := by first | exact .inl rfl | exact .inr rfl)
    (hs : (assignEach (.Name x pos :: es) X.env).map (·.2) = assign (.Name x pos) X.env :: (assignEach es X.env).map (·.2) := by rfl) : PGs X (.Name x pos :: es) (gNs (j :: js)) :=
  pgs_imp (pgs_cons (pg_name hN hi hx hf) h2 hs) fun vs σ H Q ⟨h, q⟩ => by
    cases vs with
    | nil => cases h
    | cons v vs => exact ⟨v, vs, rfl, by simpa using h, q⟩
theorem pd_parM {kk k2 : Nat} {pt p2 : Pos} {n : Nat} (hc : X.calm = true) (h : PGs X ts (gNs js)) (ha : PA X es (lM X.K T E r)) (hj : js.length = n := by rfl) (hn : (assignEach ts X.env).length = n := by rfl) (hst : (assignEach ts X.env).findIdx? (·.1) = none := by rfl)
    (hjs : (js.all fun j => decide (j < X.N.length)) = true := by rfl) (hs : swapsWithSole [.Tuple ts kk pt] (.Tuple es k2 p2) pos.line X.env = pure false := by rfl) (hw : swappedStores [.Tuple ts kk pt] (.Tuple es k2 p2) X.env = pure none := by rfl)
    (h1 : (assignEach [.Tuple ts kk pt] X.env).map (·.2) = [assign (.Tuple ts kk pt) X.env] := by rfl) : PS X (.Assign [.Tuple ts kk pt] (.Tuple es k2 p2) pos) (lS X.K T E (tParM js r)) :=
  ⟨fun pins s σ H D I ⟨δ, G0, H0, G, Z, R, h0, F⟩ => (ps_asg (pe_tup ha) (pg_tup (n := n) hc h hn hst) hs hw h1).run pins s σ H D I ⟨δ, G0, H0, G, _, _, F.lv R, h0, fun ms hms vs H' G' x r => by
    obtain ⟨hl, hms⟩ := hms
    cases q : slAll js ms δ with
    | none =>
      rw [q] at hms
      exact hms.elim
    | some δ' =>
      rw [q] at hms
      have lv := r.len
      have lj := slAll_len js ms δ δ' q
      refine ⟨by have : sizeLine = sizeLine := rfl; rw [lv]; exact Nat.le_trans hl (by decide), fun p hp => ⟨p, vs, rfl, .inl (.inl upd_same), by rw [lv, lj, hj], by rw [lv, lj], ?_⟩⟩
      have R' := R.stp x
      have x2 : Stp T δ.s G' G' H' (upd H' p (.tup vs)) := .of_gr R'.gv (.new hp)
      have hsr : ∀ a, δ.s = some a → H a ≠ none := fun a e z => by
        obtain ⟨p, q, w, _⟩ := R.src a e
        rw [z] at w
        cases w
      have up : ∀ {ms : List MI} {vs : List V}, MisOk X.K H G' H' ms vs → MisOk X.K H G' (upd H' p (.tup vs)) ms vs := fun {ms vs} r => by
        have key : ∀ (w : List V) {ms : List MI} {vs : List V}, MisOk X.K H G' H' ms vs → MisOk X.K H G' (upd H' p (.tup w)) ms vs := fun w ms => by
          induction ms with
          | nil => exact fun {vs} h => h
          | cons m ms ih =>
            intro vs h
            obtain ⟨v, r, ev, h1, h2, h3⟩ := h
            have y : Stp T δ.s G' G' H' (upd H' p (.tup w)) := .of_gr R'.gv (.new hp)
            exact ⟨v, r, ev, h1.stp R' y hsr, ih h2, h3⟩
        exact key vs r
      obtain ⟨R2, es⟩ := rep_mis (fun a h => R.st.gr.none_of h) js ms vs (R'.stp x2) hsr (fun j hj => by
        have hl : σ.length = X.N.length := I.len
        rw [hl]
        exact of_decide_eq_true (List.all_eq_true.mp hjs j hj)) (up r) (fun b hb j hj => R.own_ne (r.at_new b hb).1 j hj) q
      exact F.nx δ' G' _ _ x.gg R2 hms⟩⟩
end
end Wn

set_option Elab.async false
set_option linter.all false
set_option maxRecDepth 100000
set_option maxHeartbeats 4000000
namespace Wn
open PySem L2
/-! ### data of bounded depth -/
def D.ok : Nat → D → Bool
  | _, .non => true
  | _, .bl _ => true
  | _, .int _ => true
  | _, .str x => PyData.canLay0 (.str x)
  | n + 1, .tup ds => ds.all (D.ok n)
  | n + 1, .lst ds => ds.all (D.ok n)
  | _, _ => false
theorem pyA_ok {n : Nat} (ih : ∀ d : D, D.ok n d = true → ∃ p, d.py = some p ∧ p.canLay0 = true ∧ p.depth ≤ n) : ∀ ds : List D, ds.all (D.ok n) = true → ∃ ps, D.pyA ds = some ps ∧ PyData.canLayAll0 ps = true ∧ PyData.depthAll ps ≤ n
  | [], _ => ⟨[], rfl, rfl, Nat.zero_le _⟩
  | d :: ds, h => by
    rw [List.all_cons, Bool.and_eq_true] at h
    obtain ⟨p, h1, h2, h3⟩ := ih d h.1
    obtain ⟨ps, k1, k2, k3⟩ := pyA_ok ih ds h.2
    refine ⟨p :: ps, ?_, ?_, ?_⟩
    · unfold D.pyA
      rw [h1, k1]
    · unfold PyData.canLayAll0
      rw [h2, k2] <;> rfl
    · unfold PyData.depthAll
      omega
theorem D.ok_py : ∀ (n : Nat) (d : D), D.ok n d = true → ∃ p, d.py = some p ∧ p.canLay0 = true ∧ p.depth ≤ n := by
  intro n
  induction n with
  | zero =>
    intro d h
    cases d with
    | non => exact ⟨.none, by unfold D.py; rfl, rfl, Nat.zero_le _⟩
    | bl b => exact ⟨.bool b, by unfold D.py; rfl, rfl, Nat.zero_le _⟩
    | int i => exact ⟨.int i, by unfold D.py; rfl, rfl, Nat.zero_le _⟩
    | str x => exact ⟨.str x, by unfold D.py; rfl, h, Nat.zero_le _⟩
    | _ => cases h
  | succ n ih =>
    intro d h
    cases d with
    | non => exact ⟨.none, by unfold D.py; rfl, rfl, Nat.zero_le _⟩
    | bl b => exact ⟨.bool b, by unfold D.py; rfl, rfl, Nat.zero_le _⟩
    | int i => exact ⟨.int i, by unfold D.py; rfl, rfl, Nat.zero_le _⟩
    | str x => exact ⟨.str x, by unfold D.py; rfl, h, Nat.zero_le _⟩
    | tup ds =>
      obtain ⟨ps, h1, h2, h3⟩ := pyA_ok ih ds h
      exact ⟨.tuple ps, by unfold D.py; rw [h1]; rfl, by unfold PyData.canLay0; exact h2, by unfold PyData.depth; omega⟩
    | lst ds =>
      obtain ⟨ps, h1, h2, h3⟩ := pyA_ok ih ds h
      exact ⟨.list ps, by unfold D.py; rw [h1]; rfl, by unfold PyData.canLay0; exact h2, by unfold PyData.depth; omega⟩
    | _ => cases h
theorem D.ok_mono : ∀ (n m : Nat) (d : D), n ≤ m → D.ok n d = true → D.ok m d = true := by
  intro n
  induction n with
  | zero =>
    intro m d _ h
    cases d <;> first
      | (cases h; done)
      | (cases m <;> first | rfl | exact h)
  | succ n ih =>
    intro m d hm h
    obtain ⟨m, rfl⟩ : ∃ k, m = k + 1 := ⟨m - 1, by omega⟩
    cases d with
    | tup ds => exact List.all_eq_true.mpr fun x hx => ih m x (by omega) (List.all_eq_true.mp h x hx)
    | lst ds => exact List.all_eq_true.mpr fun x hx => ih m x (by omega) (List.all_eq_true.mp h x hx)
    | non => rfl
    | bl b => rfl
    | int i => rfl
    | str x => exact h
    | _ => cases h
theorem D.ok_ty {n : Nat} {d : D} (h : D.ok n d = true) : d.ty.isSome = true := by
  cases n <;> cases d <;> first
    | rfl
    | cases h
theorem shaped_ok {n : Nat} {d : D} (h : D.ok n d = true) (hn : n ≤ 64) : ∃ p, d.py = some p ∧ SeqAt.shaped p = true := by
  obtain ⟨p, h1, h2, h3⟩ := D.ok_py n d h
  exact ⟨p, h1, by unfold SeqAt.shaped; rw [h2, decide_eq_true (by omega)]; rfl⟩
/-- == by data, as a Bool -/
def D.eqB (x y : D) : Bool := match x.py, y.py with
  | some p, some q => PyData.eqv p q
  | _, _ => false
theorem dEq_ok {neg : Bool} {x y : D} {P : D → Prop} (hx : D.ok 64 x = true) (hy : D.ok 64 y = true) (h : P (.bl (if neg then !D.eqB x y else D.eqB x y))) : dEq neg x y P := by
  obtain ⟨p, p1, p2⟩ := shaped_ok hx (Nat.le_refl _)
  obtain ⟨q, q1, q2⟩ := shaped_ok hy (Nat.le_refl _)
  unfold dEq
  unfold D.eqB at h
  rw [p1, q1] at h ⊢
  exact ⟨⟨p2, q2⟩, h⟩
theorem eqB_int (i j : Int) : D.eqB (.int i) (.int j) = (i == j) := by
  unfold D.eqB D.py PyData.eqv
  rfl
theorem eqv_ints : ∀ ns ms : List Int, PyData.eqvAll (ns.map PyData.int) (ms.map PyData.int) = (ns == ms)
  | [], [] => rfl
  | [], _ :: _ => rfl
  | _ :: _, [] => rfl
  | n :: ns, m :: ms => by
    show (PyData.eqv (.int n) (.int m) && PyData.eqvAll (ns.map PyData.int) (ms.map PyData.int)) = (n :: ns == m :: ms)
    rw [eqv_ints ns ms]
    show ((n == m) && (ns == ms)) = (n :: ns == m :: ms)
    rfl
theorem pyA_ints : ∀ ns : List Int, D.pyA (ns.map D.int) = some (ns.map PyData.int)
  | [] => rfl
  | n :: ns => by
    show D.pyA (.int n :: ns.map D.int) = _
    unfold D.pyA
    rw [pyA_ints ns]
    unfold D.py
    rfl
theorem ok_int {n : Nat} {i : Int} : D.ok n (.int i) = true := by cases n <;> rfl
theorem ok_ints {n : Nat} : ∀ ns : List Int, (ns.map D.int).all (D.ok n) = true
  | [] => rfl
  | m :: ns => by
    rw [List.map_cons, List.all_cons, ok_int, ok_ints ns] <;> rfl
theorem ok_lstI {n : Nat} (ns : List Int) : D.ok (n + 1) (.lst (ns.map D.int)) = true := ok_ints ns
theorem ok_tupI {n : Nat} (ns : List Int) : D.ok (n + 1) (.tup (ns.map D.int)) = true := ok_ints ns
theorem eqB_lstI (ns ms : List Int) : D.eqB (.lst (ns.map D.int)) (.lst (ms.map D.int)) = (ns == ms) := by
  unfold D.eqB D.py
  rw [pyA_ints, pyA_ints]
  show PyData.eqv (.list (ns.map PyData.int)) (.list (ms.map PyData.int)) = _
  unfold PyData.eqv
  exact eqv_ints ns ms
theorem eqB_nil (ds : List D) (h : (ds.all (D.ok 63)) = true) : D.eqB (.lst ds) (.lst []) = ds.isEmpty := by
  obtain ⟨ps, h1, _⟩ := pyA_ok (n := 63) (D.ok_py 63) ds h
  unfold D.eqB D.py
  rw [h1]
  cases ds with
  | nil =>
    cases h1
    rfl
  | cons d ds =>
    cases ps with
    | nil =>
      unfold D.pyA at h1
      split at h1 <;> cases h1
    | cons p ps => rfl
theorem eqB_bl (a b : Bool) : D.eqB (.bl a) (.bl b) = (a == b) := by
  unfold D.eqB D.py PyData.eqv
  rfl
/-! ### comprehensions -/
theorem comp_map {g : TGD} {e : TD} {δ : DE} {P : List D → Prop} (F : D → D) : ∀ (xs acc : List D), (∀ x ∈ xs, ∀ Q : D → Prop, Q (F x) → g x δ fun δ' => e δ' Q noEx) → P (acc ++ xs.map F) → compD g yesD e δ P xs acc
  | [], acc, _, h => by
    rw [List.map_nil, List.append_nil] at h
    exact h
  | x :: r, acc, he, h => by
    unfold compD
    refine he x List.mem_cons_self (fun y => compD g yesD e δ P r (acc ++ [y])) ?_
    refine comp_map F r _ (fun y hy => he y (List.mem_cons_of_mem _ hy)) ?_
    rw [List.append_assoc]
    exact h
theorem comp_gen {g : TGD} {c : TDB} {e : TD} {δ : DE} {P : List D → Prop} (Dx : D → DE) (b : D → Bool) (F : D → D) : ∀ (xs acc : List D), (∀ x ∈ xs, ∀ Q : DE → Prop, Q (Dx x) → g x δ Q) → (∀ x ∈ xs, ∀ Q : Bool → Prop, Q (b x) → c (Dx x) Q noEx) → (∀ x ∈ xs, b x = true → ∀ Q : D → Prop, Q (F x) → e (Dx x) Q noEx) → P (acc ++ (xs.filter b).map F) → compD g c e δ P xs acc
  | [], acc, _, _, _, h => by
    rw [List.filter_nil, List.map_nil, List.append_nil] at h
    exact h
  | x :: r, acc, hg, hc, he, h => by
    unfold compD
    refine hg x List.mem_cons_self _ (hc x List.mem_cons_self _ ?_)
    cases q : b x with
    | true =>
      rw [List.filter_cons_of_pos q] at h
      refine he x List.mem_cons_self q (fun y => compD g c e δ P r (acc ++ [y])) (comp_gen Dx b F r _ (fun y hy => hg y (List.mem_cons_of_mem _ hy)) (fun y hy => hc y (List.mem_cons_of_mem _ hy)) (fun y hy => he y (List.mem_cons_of_mem _ hy)) ?_)
      rw [List.append_assoc]
      exact h
    | false =>
      rw [List.filter_cons_of_neg (by rw [q]; exact Bool.false_ne_true)] at h
      exact comp_gen Dx b F r acc (fun y hy => hg y (List.mem_cons_of_mem _ hy)) (fun y hy => hc y (List.mem_cons_of_mem _ hy)) (fun y hy => he y (List.mem_cons_of_mem _ hy)) h
theorem comp_fil {j : Nat} {c : TDB} {e : TD} {δ : DE} {P : List D → Prop} (b : D → Bool) (F : D → D) (xs acc : List D) (hc : ∀ x ∈ xs, ∀ Q : Bool → Prop, Q (b x) → c (δ.set j (.d x)) Q noEx) (he : ∀ x ∈ xs, b x = true → ∀ Q : D → Prop, Q (F x) → e (δ.set j (.d x)) Q noEx) (h : P (acc ++ (xs.filter b).map F)) : compD (gN j) c e δ P xs acc :=
  comp_gen (fun x => δ.set j (.d x)) b F xs acc (fun _ _ _ q => q) hc he h
/-- items that are drawn -/
theorem comp_any {g : TGD} {e : TD} {δ : DE} {P : List D → Prop} (R : D → Prop) : ∀ (xs acc : List D), (∀ x ∈ xs, ∀ Q : D → Prop, (∀ y, R y → Q y) → g x δ fun δ' => e δ' Q noEx) → (∀ ys : List D, ys.length = xs.length → (∀ y ∈ ys, R y) → P (acc ++ ys)) → compD g yesD e δ P xs acc
  | [], acc, _, h => by
    have q := h [] rfl (fun y hy => by cases hy)
    rw [List.append_nil] at q
    exact q
  | x :: r, acc, he, h => by
    unfold compD
    refine he x List.mem_cons_self (fun y => compD g yesD e δ P r (acc ++ [y])) fun y hy => comp_any R r _ (fun z hz => he z (List.mem_cons_of_mem _ hz)) fun ys hl hys => ?_
    rw [List.append_assoc]
    refine h (y :: ys) (by rw [List.length_cons, List.length_cons, hl]) fun z hz => ?_
    rcases List.mem_cons.mp hz with e1 | hz
    · rw [e1]
      exact hy
    · exact hys z hz
theorem onBls_mk {xs : List D} {ns : List Bool} {k : List Bool → Prop} (e : blsOf xs = some ns) (h : k ns) : onBls (.lst xs) k := by
  show (match blsOf xs with | some ns => k ns | none => False)
  rw [e]
  exact h
theorem onInts_mk {xs : List D} {ns : List Int} {k : List Int → Prop} (e : intsOf xs = some ns) (h : k ns) : onInts (.lst xs) k := by
  show (match intsOf xs with | some ns => k ns | none => False)
  rw [e]
  exact h
theorem onInts_mkT {xs : List D} {ns : List Int} {k : List Int → Prop} (e : intsOf xs = some ns) (h : k ns) : onInts (.tup xs) k := by
  show (match intsOf xs with | some ns => k ns | none => False)
  rw [e]
  exact h
/-! ### loops -/
/-- I holds ahead of each turn -/
theorem loop_inv {g : TGD} {b : TDS} {Z : DEnds} (I : DE → Prop) : ∀ (xs : List D) (δ : DE), I δ → (∀ δ, I δ → Z.nx δ) → (∀ x ∈ xs, ∀ δ, I δ → ∀ K : DE → Prop, (∀ δ', I δ' → K δ') → g x δ fun δ' => b δ' { Z with nx := K, ct := K, bk := Z.nx }) → loopD g b Z xs δ
  | [], δ, h, hn, _ => hn δ h
  | x :: r, δ, h, hn, ht => by
    unfold loopD
    exact ht x List.mem_cons_self δ h (loopD g b Z r) fun δ' h' => loop_inv I r δ' h' hn fun y hy => ht y (List.mem_cons_of_mem _ hy)
/-- .. by the items that are done -/
theorem loop_pre {g : TGD} {b : TDS} {Z : DEnds} (all : List D) (I : Nat → DE → Prop) : ∀ (n : Nat) (δ : DE), n ≤ all.length → I n δ → (∀ δ, I all.length δ → Z.nx δ) → (∀ (i : Nat) (x : D), all[i]? = some x → ∀ δ, I i δ → ∀ K : DE → Prop, (∀ δ', I (i + 1) δ' → K δ') → g x δ fun δ' => b δ' { Z with nx := K, ct := K, bk := Z.nx }) → loopD g b Z (all.drop n) δ := by
  intro n
  induction h : all.length - n generalizing n with
  | zero =>
    intro δ hn h0 hz ht
    have e : n = all.length := by omega
    rw [e, List.drop_length]
    exact hz δ (by rw [← e]; exact h0)
  | succ m ih =>
    intro δ hn h0 hz ht
    have hl : n < all.length := by omega
    rw [List.drop_eq_getElem_cons hl]
    unfold loopD
    exact ht n _ (List.getElem?_eq_getElem hl) δ h0 (loopD g b Z (all.drop (n + 1))) fun δ' h' => ih (n + 1) (by omega) δ' hl h' hz ht
theorem rgD_mem {lo : Int} {n : Nat} {x : D} (h : x ∈ rgD lo n) : ∃ k : Nat, k < n ∧ x = .int (lo + k) := by
  unfold rgD at h
  obtain ⟨k, hk, e⟩ := List.mem_map.mp h
  exact ⟨k, List.mem_range.mp hk, e.symm⟩
end Wn

set_option Elab.async false
set_option linter.all false
namespace Wn
open PySem PySem.Spec PyProof.Rows L2
@[simp] theorem e_tNF (t : TDL) (δ : DE) (P : D → Prop) (EP : Addr → Prop) : tNF t δ P EP = (t δ (fun ds => P (.lst ds)) EP) := Eq.trans rfl rfl
@[simp] theorem e_tSc (t : TD) (δ : DE) (P : D → Prop) (EP : Addr → Prop) : tSc t δ P EP = (t δ (fun d => isSc d = true ∧ P d) EP) := Eq.trans rfl rfl
@[simp] theorem e_tK (d : D) (w0 : DE) (P : D → Prop) (w2 : Addr → Prop) : tK d w0 P w2 = (P d) := Eq.trans rfl rfl
@[simp] theorem e_tN (i : Nat) (δ : DE) (P : D → Prop) (w2 : Addr → Prop) : tN i δ P w2 = (match δ.sl[i]? with
  | some (.d x) => P x
  | some (.sr a) => P (.ref a)
  | _ => False) := Eq.trans rfl rfl
@[simp] theorem e_tR (i : Nat) (δ : DE) (P : D → Prop) (w2 : Addr → Prop) : tR i δ P w2 = (match δ.sl[i]? with
  | some o => (match rdS o with
    | some x => P x
    | none => False)
  | none => False) := Eq.trans rfl rfl
@[simp] theorem e_t2 (f : D → D → (D → Prop) → Prop) (ta tb : TD) (δ : DE) (P : D → Prop) (EP : Addr → Prop) : t2 f ta tb δ P EP = (ta δ (fun x => tb δ (fun y => f x y P) EP) EP) := Eq.trans rfl rfl
@[simp] theorem e_tCh (f f' : D → D → (D → Prop) → Prop) (ta tb tc : TD) (δ : DE) (P : D → Prop) (EP : Addr → Prop) : tCh f f' ta tb tc δ P EP = (ta δ (fun x => tb δ (fun y => f x y (fun z => match z with
  | .bl true => tc δ (fun u => f' y u P) EP
  | .bl false => P (.bl false)
  | _ => False)) EP) EP) := Eq.trans rfl rfl
@[simp] theorem e_tBl (t : TD) (δ : DE) (P : Bool → Prop) (EP : Addr → Prop) : tBl t δ P EP = (t δ (fun d => match d with
  | .bl b => P b
  | _ => False) EP) := Eq.trans rfl rfl
@[simp] theorem e_tAndB (t u : TDB) (δ : DE) (P : Bool → Prop) (EP : Addr → Prop) : tAndB t u δ P EP = (t δ (fun b => match b with
  | true => u δ P EP
  | false => P false) EP) := Eq.trans rfl rfl
@[simp] theorem e_tOrB (t u : TDB) (δ : DE) (P : Bool → Prop) (EP : Addr → Prop) : tOrB t u δ P EP = (t δ (fun b => match b with
  | true => P true
  | false => u δ P EP) EP) := Eq.trans rfl rfl
@[simp] theorem e_tNotB (t : TDB) (δ : DE) (P : Bool → Prop) (EP : Addr → Prop) : tNotB t δ P EP = (t δ (fun b => P (!b)) EP) := Eq.trans rfl rfl
@[simp] theorem e_tBV (t : TDB) (δ : DE) (P : D → Prop) (EP : Addr → Prop) : tBV t δ P EP = (t δ (fun b => P (.bl b)) EP) := Eq.trans rfl rfl
@[simp] theorem e_tAndD (t u : TD) (δ : DE) (P : D → Prop) (EP : Addr → Prop) : tAndD t u δ P EP = (t δ (fun d => match d with
  | .bl true => u δ P EP
  | .bl false => P (.bl false)
  | _ => False) EP) := Eq.trans rfl rfl
@[simp] theorem e_tOrD (t u : TD) (δ : DE) (P : D → Prop) (EP : Addr → Prop) : tOrD t u δ P EP = (t δ (fun d => match d with
  | .bl true => P (.bl true)
  | .bl false => u δ P EP
  | _ => False) EP) := Eq.trans rfl rfl
@[simp] theorem e_tNotD (t : TD) (δ : DE) (P : D → Prop) (EP : Addr → Prop) : tNotD t δ P EP = (t δ (fun d => match d with
  | .bl b => P (.bl (!b))
  | _ => False) EP) := Eq.trans rfl rfl
@[simp] theorem e_tNeg (t : TD) (δ : DE) (P : D → Prop) (EP : Addr → Prop) : tNeg t δ P EP = (t δ (fun d => match d with
  | .int i => P (.int (-i))
  | _ => False) EP) := Eq.trans rfl rfl
@[simp] theorem e_tIfE (c : TDB) (t u : TD) (δ : DE) (P : D → Prop) (EP : Addr → Prop) : tIfE c t u δ P EP = (c δ (fun b => match b with
  | true => t δ P EP
  | false => u δ P EP) EP) := Eq.trans rfl rfl
@[simp] theorem e_tIfL (c : TDB) (t u : TDL) (δ : DE) (P : List D → Prop) (EP : Addr → Prop) : tIfL c t u δ P EP = (c δ (fun b => match b with
  | true => t δ P EP
  | false => u δ P EP) EP) := Eq.trans rfl rfl
@[simp] theorem e_tA0 (w0 : DE) (P : List D → Prop) (w2 : Addr → Prop) : tA0  w0 P w2 = (P []) := Eq.trans rfl rfl
@[simp] theorem e_tA1 (t : TD) (r : TDL) (δ : DE) (P : List D → Prop) (EP : Addr → Prop) : tA1 t r δ P EP = (t δ (fun x => r δ (fun xs => P (x :: xs)) EP) EP) := Eq.trans rfl rfl
@[simp] theorem e_tTupD (t : TDL) (δ : DE) (P : D → Prop) (EP : Addr → Prop) : tTupD t δ P EP = (tSize t δ (fun ds => P (.tup ds)) EP) := Eq.trans rfl rfl
@[simp] theorem e_tCD (f : List D → (D → Prop) → Prop) (t : TDL) (δ : DE) (P : D → Prop) (EP : Addr → Prop) : tCD f t δ P EP = (t δ (fun ds => f ds P) EP) := Eq.trans rfl rfl
@[simp] theorem e_tItl (t : TD) (δ : DE) (P : List D → Prop) (EP : Addr → Prop) : tItl t δ P EP = (t δ (fun d => match d with
  | .lst xs => P xs
  | _ => False) EP) := Eq.trans rfl rfl
@[simp] theorem e_tOwn (i : Nat) (δ : DE) (P : List D → Prop) (w2 : Addr → Prop) : tOwn i δ P w2 = (match δ.sl[i]? with
  | some (.ow xs) => P xs
  | some (.d (.lst xs)) => P xs
  | _ => False) := Eq.trans rfl rfl
@[simp] theorem e_tIs (k : Ty) (t : TD) (δ : DE) (P : D → Prop) (EP : Addr → Prop) : tIs k t δ P EP = (t δ (fun d => match d.ty with
  | some a => P (.bl (isTy a k))
  | none => False) EP) := Eq.trans rfl rfl
@[simp] theorem e_tIx (ta tb : TD) (δ : DE) (P : D → Prop) (EP : Addr → Prop) : tIx ta tb δ P EP = (ta δ (fun x => tb δ (fun i => dIx x i P) EP) EP) := Eq.trans rfl rfl
@[simp] theorem e_tO0 (w0 : DE) (P : Option Int → Prop) (w2 : Addr → Prop) : tO0  w0 P w2 = (P none) := Eq.trans rfl rfl
@[simp] theorem e_tO1 (t : TD) (δ : DE) (P : Option Int → Prop) (EP : Addr → Prop) : tO1 t δ P EP = (t δ (fun d => match d with
  | .int i => P (some i)
  | _ => False) EP) := Eq.trans rfl rfl
@[simp] theorem e_tSlL (te : TDL) (tl th : TDO) (δ : DE) (P : List D → Prop) (EP : Addr → Prop) : tSlL te tl th δ P EP = (te δ (fun xs => tl δ (fun lo => th δ (fun hi => P (cutD xs lo hi)) EP) EP) EP) := Eq.trans rfl rfl
@[simp] theorem e_tSlT (te : TD) (tl th : TDO) (δ : DE) (P : D → Prop) (EP : Addr → Prop) : tSlT te tl th δ P EP = (te δ (fun x => tl δ (fun lo => th δ (fun hi => match x with
  | .tup xs => P (.tup (cutD xs lo hi))
  | _ => False) EP) EP) EP) := Eq.trans rfl rfl
@[simp] theorem e_tRev (t : TDL) (δ : DE) (P : List D → Prop) (EP : Addr → Prop) : tRev t δ P EP = (t δ (fun xs => P xs.reverse) EP) := Eq.trans rfl rfl
@[simp] theorem e_tCatL (ta tb : TDL) (δ : DE) (P : List D → Prop) (EP : Addr → Prop) : tCatL ta tb δ P EP = (ta δ (fun xs => tb δ (fun ys => szOk (xs.length + ys.length) (P (xs ++ ys))) EP) EP) := Eq.trans rfl rfl
@[simp] theorem e_tRepL (ta : TDL) (tb : TD) (δ : DE) (P : List D → Prop) (EP : Addr → Prop) : tRepL ta tb δ P EP = (ta δ (fun xs => tb δ (fun d => match d with
  | .int k => (-(2 ^ 63) ≤ k ∧ k < 2 ^ 63) ∧ szOk (xs.length * k.toNat) (P (List.replicate k.toNat xs).flatten)
  | _ => False) EP) EP) := Eq.trans rfl rfl
@[simp] theorem e_tCatT (ta tb : TD) (δ : DE) (P : D → Prop) (EP : Addr → Prop) : tCatT ta tb δ P EP = (ta δ (fun x => tb δ (fun y => match x, y with
  | .tup xs, .tup ys => szOk (xs.length + ys.length) (P (.tup (xs ++ ys)))
  | _, _ => False) EP) EP) := Eq.trans rfl rfl
@[simp] theorem e_tRepT (ta tb : TD) (δ : DE) (P : D → Prop) (EP : Addr → Prop) : tRepT ta tb δ P EP = (ta δ (fun x => tb δ (fun y => match x, y with
  | .tup xs, .int k => (xs ≠ [] ∧ 2 ≤ k ∧ k ≤ 1000 ∧ xs.length ≤ 1000) ∧ P (.tup (List.replicate k.toNat xs).flatten)
  | _, _ => False) EP) EP) := Eq.trans rfl rfl
@[simp] theorem e_tTupI (t : TD) (δ : DE) (P : List D → Prop) (EP : Addr → Prop) : tTupI t δ P EP = (t δ (fun d => match d with
  | .tup xs => P xs
  | _ => False) EP) := Eq.trans rfl rfl
@[simp] theorem e_tTupL (t : TDL) (δ : DE) (P : D → Prop) (EP : Addr → Prop) : tTupL t δ P EP = (t δ (fun xs => P (.tup xs)) EP) := Eq.trans rfl rfl
@[simp] theorem e_nxD (δ : DE) (Z : DEnds) : nxD  δ Z = (Z.nx δ) := Eq.trans rfl rfl
@[simp] theorem e_tFz (i : Nat) (t : TDS) (δ : DE) (Z : DEnds) : tFz i t δ Z = (t (fzD i δ) Z) := Eq.trans rfl rfl
@[simp] theorem e_tEx (te : TD) (δ : DE) (Z : DEnds) : tEx te δ Z = (te δ (fun _ => Z.nx δ) (Z.ex δ.s)) := Eq.trans rfl rfl
@[simp] theorem e_tRt (te : TD) (δ : DE) (Z : DEnds) : tRt te δ Z = (te δ (fun d => Z.rt δ.s d) (Z.ex δ.s)) := Eq.trans rfl rfl
@[simp] theorem e_tRn (te : TDL) (δ : DE) (Z : DEnds) : tRn te δ Z = (te δ (fun ds => Z.rn δ.s ds) (Z.ex δ.s)) := Eq.trans rfl rfl
@[simp] theorem e_tRo (i : Nat) (δ : DE) (Z : DEnds) : tRo i δ Z = (match δ.sl[i]? with
  | some (.ow xs) => Z.rn δ.s xs
  | _ => False) := Eq.trans rfl rfl
@[simp] theorem e_tSet (i : Nat) (te : TD) (δ : DE) (Z : DEnds) : tSet i te δ Z = (te δ (fun d => Z.nx (δ.set i (.d d))) (Z.ex δ.s)) := Eq.trans rfl rfl
@[simp] theorem e_tSetN (i : Nat) (te : TDL) (δ : DE) (Z : DEnds) : tSetN i te δ Z = (te δ (fun ds => Z.nx (δ.set i (.ow ds))) (Z.ex δ.s)) := Eq.trans rfl rfl
@[simp] theorem e_tIf (c : TDB) (t u : TDS) (δ : DE) (Z : DEnds) : tIf c t u δ Z = (c δ (fun b => match b with
  | true => t δ Z
  | false => u δ Z) (Z.ex δ.s)) := Eq.trans rfl rfl
@[simp] theorem e_tRs (C : Addr) (δ : DE) (Z : DEnds) : tRs C δ Z = (Z.ex δ.s C) := Eq.trans rfl rfl
@[simp] theorem e_tSetG (g : TGD) (te : TD) (δ : DE) (Z : DEnds) : tSetG g te δ Z = (te δ (fun d => g d δ Z.nx) (Z.ex δ.s)) := Eq.trans rfl rfl
@[simp] theorem e_tForL (tl : TDL) (g : TGD) (b : TDS) (δ : DE) (Z : DEnds) : tForL tl g b δ Z = (tl δ (fun xs => loopD g b Z xs δ) (Z.ex δ.s)) := Eq.trans rfl rfl
@[simp] theorem e_tRg1 (t : TDL) (δ : DE) (P : List D → Prop) (EP : Addr → Prop) : tRg1 t δ P EP = (t δ (fun ds => match ds with
  | [.int j] => (-(2 ^ 62) ≤ j ∧ j < 2 ^ 62) ∧ P (rgD 0 j.toNat)
  | _ => False) EP) := Eq.trans rfl rfl
@[simp] theorem e_tRg2 (t : TDL) (δ : DE) (P : List D → Prop) (EP : Addr → Prop) : tRg2 t δ P EP = (t δ (fun ds => match ds with
  | [.int i, .int j] => (-(2 ^ 62) ≤ i ∧ i < 2 ^ 62 ∧ -(2 ^ 62) ≤ j ∧ j < 2 ^ 62) ∧ P (rgD i (j - i).toNat)
  | _ => False) EP) := Eq.trans rfl rfl
@[simp] theorem e_tApp (i : Nat) (te : TD) (δ : DE) (Z : DEnds) : tApp i te δ Z = (match δ.sl[i]? with
  | some (.ow xs) => te δ (fun d => szOk (xs.length + 1) (Z.nx (δ.set i (.ow (xs ++ [d]))))) (Z.ex δ.s)
  | _ => False) := Eq.trans rfl rfl
@[simp] theorem e_tStI (i : Nat) (ti te : TD) (δ : DE) (Z : DEnds) : tStI i ti te δ Z = (te δ (fun d => match δ.sl[i]? with
  | some (.ow xs) => ti δ (fun k => match k with
    | .int j => (match ixN xs.length j with
      | some n => Z.nx (δ.set i (.ow (xs.set n d)))
      | none => False)
    | _ => False) (Z.ex δ.s)
  | _ => False) (Z.ex δ.s)) := Eq.trans rfl rfl
@[simp] theorem e_yesD (w0 : DE) (P : Bool → Prop) (w2 : Addr → Prop) : yesD  w0 P w2 = (P true) := Eq.trans rfl rfl
@[simp] theorem e_tLc (tl : TDL) (vs : List Nat) (g : TGD) (c : TDB) (e : TD) (δ : DE) (P : List D → Prop) (EP : Addr → Prop) : tLc tl vs g c e δ P EP = (tl δ (fun xs => szOk xs.length (compD g c e (wipeD δ vs) P xs [])) EP) := Eq.trans rfl rfl
@[simp] theorem e_tM0 (w0 : DE) (P : List MI → Prop) (w2 : Addr → Prop) : tM0  w0 P w2 = (P []) := Eq.trans rfl rfl
@[simp] theorem e_tMF (t : TD) (r : TDM) (δ : DE) (P : List MI → Prop) (EP : Addr → Prop) : tMF t r δ P EP = (t δ (fun d => r δ (fun ms => P (.f d :: ms)) EP) EP) := Eq.trans rfl rfl
@[simp] theorem e_tMN (t : TDL) (r : TDM) (δ : DE) (P : List MI → Prop) (EP : Addr → Prop) : tMN t r δ P EP = (t δ (fun d => r δ (fun ms => P (.n d :: ms)) EP) EP) := Eq.trans rfl rfl
@[simp] theorem e_tMK (r : TDM) (δ : DE) (P : List MI → Prop) (EP : Addr → Prop) : tMK r δ P EP = (r δ (fun ms => P (.k :: ms)) EP) := Eq.trans rfl rfl
@[simp] theorem e_tMT (r : TDM) (δ : DE) (P : List MI → Prop) (EP : Addr → Prop) : tMT r δ P EP = (r δ (fun ms => P (.t :: ms)) EP) := Eq.trans rfl rfl
@[simp] theorem e_tPar2 (i j : Nat) (t : TDM) (δ : DE) (Z : DEnds) : tPar2 i j t δ Z = (t δ (fun ms => match ms with
  | [m, m'] => Z.nx ((δ.set i m.slot).set j m'.slot)
  | _ => False) (Z.ex δ.s)) := Eq.trans rfl rfl
@[simp] theorem e_tPar3 (i j l : Nat) (t : TDM) (δ : DE) (Z : DEnds) : tPar3 i j l t δ Z = (t δ (fun ms => match ms with
  | [m, m', m2] => Z.nx (((δ.set i m.slot).set j m'.slot).set l m2.slot)
  | _ => False) (Z.ex δ.s)) := Eq.trans rfl rfl
@[simp] theorem e_tJoin (ts : TD) (t : TDL) (δ : DE) (P : D → Prop) (EP : Addr → Prop) : tJoin ts t δ P EP = (ts δ (fun x => match x with
  | .str a => t δ (fun ds => dJoin a ds P) EP
  | _ => False) EP) := Eq.trans rfl rfl
@[simp] theorem e_tIsE (a : Addr) (b : Bool) (t : TD) (δ : DE) (P : D → Prop) (EP : Addr → Prop) : tIsE a b t δ P EP = (t δ (fun d => match d with
  | .ref a' => a' = a ∧ P (.bl b)
  | _ => False) EP) := Eq.trans rfl rfl
@[simp] theorem e_tRef (K : PySem.W.Frag) (WE : Addr) (z : Str) (φ : Addr → Addr → (D → Prop) → Prop) (t : TD) (δ : DE) (P : D → Prop) (EP : Addr → Prop) : tRef K WE z φ t δ P EP = (t δ (fun _ => P (.str z)) (fun c => PySem.W.exmOne K (.ref c) (.ref WE) = some true ∧ ∀ a, φ a c P)) := Eq.trans rfl rfl
@[simp] theorem e_tSrcS (i : Nat) (te : TDL) (δ : DE) (Z : DEnds) : tSrcS i te δ Z = (srOk i δ = true ∧ te δ (fun ds => match ds with
  | [.int x, .int y] => (0 ≤ x ∧ 0 ≤ y ∧ y < 2147483648) ∧ ∀ a, Z.nx ⟨some a, δ.sl.set i (.sr a)⟩
  | _ => False) (Z.ex δ.s)) := Eq.trans rfl rfl
@[simp] theorem e_tSrcI (i j : Nat) (δ : DE) (P : D → Prop) (w2 : Addr → Prop) : tSrcI i j δ P w2 = (∃ a, δ.s = some a ∧ δ.sl[i]? = some (.d (.ref a)) ∧ ∀ z : Int, 0 ≤ z → (j = 1 → z < 2147483648) → P (.int z)) := Eq.trans rfl rfl
@[simp] theorem e_tSrcW (i j : Nat) (te : TD) (δ : DE) (Z : DEnds) : tSrcW i j te δ Z = (te δ (fun d => match d with
  | .int z => (0 ≤ z ∧ (j = 1 → z < 2147483648)) ∧ (∃ a, δ.s = some a ∧ δ.sl[i]? = some (.d (.ref a))) ∧ Z.nx δ
  | _ => False) (Z.ex δ.s)) := Eq.trans rfl rfl
@[simp] theorem e_tIxO (i : Nat) (tb : TD) (δ : DE) (P : D → Prop) (EP : Addr → Prop) : tIxO i tb δ P EP = (match δ.sl[i]? with
  | some (.ow xs) => tb δ (fun k => match k with
    | .int j => (match L2.atI xs j with
      | some d => P d
      | none => False)
    | _ => False) EP
  | _ => False) := Eq.trans rfl rfl
@[simp] theorem e_tInK (neg : Bool) (i : Nat) (tk : TD) (δ : DE) (P : D → Prop) (EP : Addr → Prop) : tInK neg i tk δ P EP = (tk δ (fun k => match k, δ.sl[i]? with
  | .int z, some (.oK ks _) => P (.bl (if neg then !(ks.any fun j => decide (j = .inl z)) else ks.any fun j => decide (j = .inl z)))
  | _, _ => False) EP) := Eq.trans rfl rfl
@[simp] theorem e_tPutK (i : Nat) (tk te : TD) (δ : DE) (Z : DEnds) : tPutK i tk te δ Z = (te δ (fun d => match δ.sl[i]? with
  | some (.oK ks vs) => tk δ (fun k => match k with
    | .int z => szOk (ks.length + 1) (Z.nx (δ.set i (.oK (putKs ks (.inl z)) (putDs ks vs (.inl z) d))))
    | _ => False) (Z.ex δ.s)
  | _ => False) (Z.ex δ.s)) := Eq.trans rfl rfl
@[simp] theorem e_tLR1 (t : TD) (δ : DE) (P : List D → Prop) (EP : Addr → Prop) : tLR1 t δ P EP = (t δ (fun d => match d with
  | .int j => j ≤ 100000 ∧ -(2 ^ 62) ≤ j ∧ P (rgD 0 j.toNat)
  | _ => False) EP) := Eq.trans rfl rfl
@[simp] theorem e_tParM (js : List Nat) (t : TDM) (δ : DE) (Z : DEnds) : tParM js t δ Z = (t δ (fun ms => ms.length ≤ 100 ∧ (match slAll js ms δ with
  | some δ' => Z.nx δ'
  | none => False)) (Z.ex δ.s)) := Eq.trans rfl rfl
@[simp] theorem e_bodyF {N : List Str} {b : TDS} {s : Option Addr} {ds : List D} {P : D → Prop} {EP : Addr → Prop} : bodyF N b s ds P EP = b ⟨s, startD N ds⟩ { nx := fun δ' => δ'.s = s ∧ P .non, rt := fun s' d => s' = s ∧ P d, rn := fun s' ds => s' = s ∧ P (.lst ds), ex := fun s' c => s' = s ∧ EP c } := Eq.trans rfl rfl
@[simp] theorem e_bodyN {N : List Str} {b : TDS} {s : Option Addr} {ds : List D} {P : List D → Prop} {EP : Addr → Prop} : bodyN N b s ds P EP = b ⟨s, startD N ds⟩ { nx := fun _ => False, rt := fun _ _ => False, rn := fun s' ds => s' = s ∧ P ds, ex := fun s' c => s' = s ∧ EP c } := Eq.trans rfl rfl
theorem ble_and {n : Nat} {p : Prop} : (match Nat.ble n 100000 with | true => p | false => False) = (n ≤ 100000 ∧ p) := by
  by_cases h : n ≤ 100000
  · rw [Nat.ble_eq_true_of_le h]
    exact propext ⟨fun q => ⟨h, q⟩, fun q => q.2⟩
  · cases e : Nat.ble n 100000 with
    | true => exact absurd (Nat.le_of_ble_eq_true e) h
    | false => exact propext ⟨fun q => q.elim, fun q => h q.1⟩
theorem beq_and {n m : Nat} {p : Prop} : (match Nat.beq n m with | true => p | false => False) = (n = m ∧ p) := by
  cases e : Nat.beq n m with
  | true => exact propext ⟨fun q => ⟨Nat.eq_of_beq_eq_true e, q⟩, fun q => q.2⟩
  | false => exact propext ⟨fun q => q.elim, fun q => Nat.ne_of_beq_eq_false e q.1⟩
@[simp] theorem e_szOk {n : Nat} {p : Prop} : szOk n p = (n ≤ 100000 ∧ p) := ble_and
@[simp] theorem e_tSize (t : TDL) (δ : DE) (P : List D → Prop) (EP : Addr → Prop) : tSize t δ P EP = t δ (fun ds => ds.length ≤ 100000 ∧ P ds) EP := by
  show t δ (fun ds => match Nat.ble ds.length 100000 with | true => P ds | false => False) EP = _
  congr 1
  funext ds
  exact ble_and
@[simp] theorem e_tCl (n : Nat) (φ : Fn) (t : TDL) (δ : DE) (P : D → Prop) (EP : Addr → Prop) : tCl n φ t δ P EP = t δ (fun ds => ds.length = n ∧ φ δ.s ds P EP) EP := by
  show t δ (fun ds => match Nat.beq ds.length n with | true => φ δ.s ds P EP | false => False) EP = _
  congr 1
  funext ds
  exact beq_and
@[simp] theorem e_tClN (n : Nat) (φ : FnL) (t : TDL) (δ : DE) (P : List D → Prop) (EP : Addr → Prop) : tClN n φ t δ P EP = t δ (fun ds => ds.length = n ∧ φ δ.s ds P EP) EP := by
  show t δ (fun ds => match Nat.beq ds.length n with | true => φ δ.s ds P EP | false => False) EP = _
  congr 1
  funext ds
  exact beq_and
end Wn

set_option Elab.async false
set_option linter.all false
set_option maxRecDepth 100000
set_option maxHeartbeats 1000000
namespace Wn
open PySem L2
/-- what follows a statement; opened where the state is known -/
def cont (u : TDS) (Z : DEnds) : DE → Prop := fun δ => u δ Z
@[simp] theorem e_sqD (t u : TDS) (δ : DE) (Z : DEnds) : sqD t u δ Z = t δ { Z with nx := cont u Z } := Eq.trans rfl rfl
@[simp] theorem u_cont (u : TDS) (Z : DEnds) (s : Option Addr) (l : List Slot) : cont u Z ⟨s, l⟩ = u ⟨s, l⟩ Z := Eq.trans rfl rfl
def fgK (js : List Nat) (K : DE → Prop) : DE → Prop := fun δ => K ⟨δ.s, fgL js δ.sl⟩
@[simp] theorem e_tFgE (js : List Nat) (t : TDS) (δ : DE) (Z : DEnds) : tFgE js t δ Z = t δ { Z with nx := fgK js Z.nx } := Eq.trans rfl rfl
@[simp] theorem u_fgK (js : List Nat) (K : DE → Prop) (s : Option Addr) (l : List Slot) : fgK js K ⟨s, l⟩ = K ⟨s, fgL js l⟩ := Eq.trans rfl rfl
@[simp] theorem u_startD (N : List Str) (ds : List D) : startD N ds = ds.map Slot.d ++ List.replicate (N.length - ds.length) Slot.no := Eq.trans rfl rfl
@[simp] theorem u_set (s : Option Addr) (l : List Slot) (i : Nat) (o : Slot) : DE.set ⟨s, l⟩ i o = ⟨s, l.set i o⟩ := Eq.trans rfl rfl
@[simp] theorem u_rdS0 : rdS .no = none := Eq.trans rfl rfl
@[simp] theorem u_rdS1 (x : D) : rdS (.d x) = some x := Eq.trans rfl rfl
@[simp] theorem u_rdS2 (a : Addr) : rdS (.sr a) = some (.ref a) := Eq.trans rfl rfl
@[simp] theorem u_rdS3 (xs : List D) : rdS (.ow xs) = some (.lst xs) := Eq.trans rfl rfl
@[simp] theorem u_rdS4 (ks : List Key) (xs : List D) : rdS (.oK ks xs) = some (.dK ks xs) := Eq.trans rfl rfl
@[simp] theorem u_rdS5 (ks : List (List Key)) (xs : List D) : rdS (.oT ks xs) = some (.dT ks xs) := Eq.trans rfl rfl
@[simp] theorem u_fI (C : Int → Int → Prop) (g : Int → Int → D) (i j : Int) (P : D → Prop) : fI C g (.int i) (.int j) P = (C i j ∧ P (g i j)) := Eq.trans rfl rfl
@[simp] theorem u_fI0 (g : Int → Int → D) (i j : Int) (P : D → Prop) : fI0 g (.int i) (.int j) P = P (g i j) := Eq.trans rfl rfl
theorem shaped_int (i : Int) : SeqAt.shaped (.int i) = true := by
  obtain ⟨p, h1, h2⟩ := shaped_ok (ok_int (n := 64) (i := i)) (Nat.le_refl _)
  unfold D.py at h1
  cases h1
  exact h2
theorem shaped_bl (b : Bool) : SeqAt.shaped (.bool b) = true := by
  obtain ⟨p, h1, h2⟩ := shaped_ok (show D.ok 64 (.bl b) = true from rfl) (Nat.le_refl _)
  unfold D.py at h1
  cases h1
  exact h2
@[simp] theorem u_dEq_int (neg : Bool) (i j : Int) (P : D → Prop) : dEq neg (.int i) (.int j) P = P (.bl (if neg then !(i == j) else i == j)) := by
  unfold dEq D.py
  simp only [shaped_int, true_and]
  unfold PyData.eqv
  rfl
@[simp] theorem u_dEq_bl (neg : Bool) (i j : Bool) (P : D → Prop) : dEq neg (.bl i) (.bl j) P = P (.bl (if neg then !(i == j) else i == j)) := by
  unfold dEq D.py
  simp only [shaped_bl, true_and]
  unfold PyData.eqv
  rfl
@[simp] theorem u_dIsN (neg : Bool) (x : D) (P : D → Prop) : dIsN neg x .non P = P (.bl (if neg then !x.isNon else x.isNon)) := Eq.trans rfl rfl
@[simp] theorem u_non0 : D.isNon .non = true := Eq.trans rfl rfl
@[simp] theorem u_non1 (i : Int) : D.isNon (.int i) = false := Eq.trans rfl rfl
@[simp] theorem u_non2 (i : Bool) : D.isNon (.bl i) = false := Eq.trans rfl rfl
@[simp] theorem u_non3 (i : Str) : D.isNon (.str i) = false := Eq.trans rfl rfl
@[simp] theorem u_non4 (i : List D) : D.isNon (.tup i) = false := Eq.trans rfl rfl
@[simp] theorem u_non5 (i : List D) : D.isNon (.lst i) = false := Eq.trans rfl rfl
@[simp] theorem u_len1 (xs : List D) (P : D → Prop) : fLen [.lst xs] P = P (.int xs.length) := Eq.trans rfl rfl
@[simp] theorem u_len2 (xs : List D) (P : D → Prop) : fLen [.tup xs] P = P (.int xs.length) := Eq.trans rfl rfl
@[simp] theorem u_len3 (xs : List D) (P : D → Prop) : fLen [.kl xs] P = P (.int xs.length) := Eq.trans rfl rfl
@[simp] theorem u_len4 (xs : List D) (P : D → Prop) : fLen [.kt xs] P = P (.int xs.length) := Eq.trans rfl rfl
@[simp] theorem u_len5 (x : Str) (P : D → Prop) : fLen [.str x] P = (x.length ≤ sizeLine ∧ P (.int x.length)) := Eq.trans rfl rfl
@[simp] theorem u_abs (i : Int) (P : D → Prop) : fAbs [.int i] P = P (.int (i.natAbs : Int)) := by
  show P (.int (if i < 0 then -i else i)) = _
  rw [show (if i < 0 then -i else i) = (i.natAbs : Int) from by split <;> omega]
@[simp] theorem u_int1 (i : Int) (P : D → Prop) : fInt [.int i] P = P (.int i) := Eq.trans rfl rfl
@[simp] theorem u_int2 (i : Bool) (P : D → Prop) : fInt [.bl i] P = P (.int (if i then 1 else 0)) := Eq.trans rfl rfl
@[simp] theorem u_bool1 (i : Int) (P : D → Prop) : fBool [.int i] P = P (.bl (i != 0)) := Eq.trans rfl rfl
@[simp] theorem u_bool2 (i : Bool) (P : D → Prop) : fBool [.bl i] P = P (.bl i) := Eq.trans rfl rfl
@[simp] theorem u_strI (i : Int) (P : D → Prop) : fStrI [.int i] P = (i.natAbs.log2 < 1920 ∧ P (.str (toString i))) := Eq.trans rfl rfl
@[simp] theorem u_max2 (i j : Int) (P : D → Prop) : fMax [.int i, .int j] P = P (.int (if j > i then j else i)) := Eq.trans rfl rfl
@[simp] theorem u_min2 (i j : Int) (P : D → Prop) : fMin [.int i, .int j] P = P (.int (if j < i then j else i)) := Eq.trans rfl rfl
@[simp] theorem u_sumT (ns : List Int) (P : D → Prop) : fSum [.tup (ns.map D.int)] P = P (.int ns.sum) := by
  unfold fSum onInts itemsD
  simp only [intsOf_map]
@[simp] theorem u_sumL (ns : List Int) (P : D → Prop) : fSum [.lst (ns.map D.int)] P = P (.int ns.sum) := by
  unfold fSum onInts itemsD
  simp only [intsOf_map]
@[simp] theorem u_all (ns : List Bool) (P : D → Prop) : fAll [.lst (ns.map D.bl)] P = P (.bl (ns.all id)) := by
  unfold fAll onBls
  simp only [blsOf_map]
@[simp] theorem u_any (ns : List Bool) (P : D → Prop) : fAny [.lst (ns.map D.bl)] P = P (.bl (ns.any id)) := by
  unfold fAny onBls
  simp only [blsOf_map]
@[simp] theorem u_ty0 : D.ty .non = some .non := Eq.trans rfl rfl
@[simp] theorem u_ty1 (x : Bool) : D.ty (.bl x) = some .bl := Eq.trans rfl rfl
@[simp] theorem u_ty2 (x : Int) : D.ty (.int x) = some .int := Eq.trans rfl rfl
@[simp] theorem u_ty3 (x : Str) : D.ty (.str x) = some .str := Eq.trans rfl rfl
@[simp] theorem u_ty4 (x : List D) : D.ty (.tup x) = some .tup := Eq.trans rfl rfl
@[simp] theorem u_ty5 (x : List D) : D.ty (.lst x) = some .lst := Eq.trans rfl rfl
@[simp] theorem u_ty6 (x : List D) : D.ty (.kt x) = some .tup := Eq.trans rfl rfl
@[simp] theorem u_its1 (x : List D) : itemsX (.lst x) = some x := Eq.trans rfl rfl
@[simp] theorem u_its2 (x : List D) : itemsX (.tup x) = some x := Eq.trans rfl rfl
@[simp] theorem u_its3 (x : List D) : itemsX (.kl x) = some x := Eq.trans rfl rfl
@[simp] theorem u_its4 (x : List D) : itemsX (.kt x) = some x := Eq.trans rfl rfl
@[simp] theorem u_gN (j : Nat) (d : D) (δ : DE) (P : DE → Prop) : gN j d δ P = P (δ.set j (.d d)) := Eq.trans rfl rfl
@[simp] theorem u_gT (js : List Nat) (ds : List D) (δ : DE) (P : DE → Prop) : gT js (.tup ds) δ P = (match setAll js ds δ with
  | some δ' => P δ'
  | none => False) := Eq.trans rfl rfl
@[simp] theorem u_setAll0 (δ : DE) : setAll [] [] δ = some δ := Eq.trans rfl rfl
@[simp] theorem u_setAll1 (j : Nat) (js : List Nat) (d : D) (ds : List D) (δ : DE) : setAll (j :: js) (d :: ds) δ = setAll js ds (δ.set j (.d d)) := Eq.trans rfl rfl
@[simp] theorem u_wipe0 (δ : DE) : wipeD δ [] = δ := Eq.trans rfl rfl
@[simp] theorem u_wipe1 (δ : DE) (v : Nat) (vs : List Nat) : wipeD δ (v :: vs) = (wipeD δ vs).set v .no := Eq.trans rfl rfl
@[simp] theorem u_mi1 (d : D) : MI.slot (.f d) = .d d := Eq.trans rfl rfl
@[simp] theorem u_mi2 (d : List D) : MI.slot (.n d) = .ow d := Eq.trans rfl rfl
@[simp] theorem u_mi3 : MI.slot .k = .oK [] [] := Eq.trans rfl rfl
@[simp] theorem u_mi4 : MI.slot .t = .oT [] [] := Eq.trans rfl rfl
@[simp] theorem u_slAll0 (δ : DE) : slAll [] [] δ = some δ := Eq.trans rfl rfl
@[simp] theorem u_slAll1 (j : Nat) (js : List Nat) (d : MI) (ds : List MI) (δ : DE) : slAll (j :: js) (d :: ds) δ = slAll js ds (δ.set j d.slot) := Eq.trans rfl rfl
@[simp] theorem u_isSc1 (i : Int) : isSc (.int i) = true := Eq.trans rfl rfl
@[simp] theorem u_isSc2 (i : Bool) : isSc (.bl i) = true := Eq.trans rfl rfl
@[simp] theorem u_isSc3 (i : Str) : isSc (.str i) = true := Eq.trans rfl rfl
@[simp] theorem u_isSc4 (i : Addr) : isSc (.ref i) = true := Eq.trans rfl rfl
@[simp] theorem u_isSc5 : isSc .non = true := Eq.trans rfl rfl
@[simp] theorem u_sr0 : isSr .no = false := Eq.trans rfl rfl
@[simp] theorem u_sr1 (x : D) : isSr (.d x) = false := Eq.trans rfl rfl
@[simp] theorem u_sr2 (x : List D) : isSr (.ow x) = false := Eq.trans rfl rfl
@[simp] theorem u_sr3 (x : Addr) : isSr (.sr x) = true := Eq.trans rfl rfl
@[simp] theorem u_sr4 (k : List Key) (x : List D) : isSr (.oK k x) = false := Eq.trans rfl rfl
@[simp] theorem u_sr5 (k : List (List Key)) (x : List D) : isSr (.oT k x) = false := Eq.trans rfl rfl
theorem u_dIx {x : D} {xs : List D} {i : Int} {d : D} {P : D → Prop} (hx : itemsX x = some xs) (h0 : 0 ≤ i) (hi : xs[i.toNat]? = some d) (h : P d) : dIx x (.int i) P := by
  unfold dIx
  rw [hx]
  have hl : i.toNat < xs.length := (List.getElem?_eq_some_iff.mp hi).1
  have e : L2.atI xs i = some d := by
    unfold L2.atI L2.ixN
    rw [if_pos h0, if_pos (by omega)]
    exact hi
  dsimp only
  rw [e]
  exact h
theorem eqv_refl_all : ∀ ps : List PyData, (∀ p ∈ ps, PyData.eqv p p = true) → PyData.eqvAll ps ps = true
  | [], _ => by unfold PyData.eqvAll; rfl
  | p :: ps, h => by
    unfold PyData.eqvAll
    rw [h p List.mem_cons_self, eqv_refl_all ps fun q hq => h q (List.mem_cons_of_mem _ hq)]
    rfl
theorem pyA_refl {n : Nat} (ih : ∀ d p, D.ok n d = true → d.py = some p → PyData.eqv p p = true) : ∀ (ds : List D) (ps : List PyData), ds.all (D.ok n) = true → D.pyA ds = some ps → ∀ p ∈ ps, PyData.eqv p p = true
  | [], ps, _, e, p, hp => by
    unfold D.pyA at e
    cases e
    cases hp
  | d :: ds, ps, h, e, p, hp => by
    rw [List.all_cons, Bool.and_eq_true] at h
    unfold D.pyA at e
    cases e1 : d.py with
    | none =>
      rw [e1] at e
      simp at e
    | some q =>
      cases e2 : D.pyA ds with
      | none =>
        rw [e1, e2] at e
        simp at e
      | some qs =>
        rw [e1, e2] at e
        simp at e
        rw [← e] at hp
        rcases List.mem_cons.mp hp with z | z
        · rw [z]
          exact ih d q h.1 e1
        · exact pyA_refl ih ds qs h.2 e2 p z
theorem py_refl : ∀ (n : Nat) (d : D) (p : PyData), D.ok n d = true → d.py = some p → PyData.eqv p p = true := by
  intro n
  induction n with
  | zero =>
    intro d p h e
    cases d <;> first
      | (cases h; done)
      | (unfold D.py at e; cases e; unfold PyData.eqv; simp)
  | succ n ih =>
    intro d p h e
    cases d with
    | tup ds =>
      unfold D.py at e
      cases e1 : D.pyA ds with
      | none =>
        rw [e1] at e
        cases e
      | some ps =>
        rw [e1] at e
        cases e
        unfold PyData.eqv
        exact eqv_refl_all ps (pyA_refl ih ds ps h e1)
    | lst ds =>
      unfold D.py at e
      cases e1 : D.pyA ds with
      | none =>
        rw [e1] at e
        cases e
      | some ps =>
        rw [e1] at e
        cases e
        unfold PyData.eqv
        exact eqv_refl_all ps (pyA_refl ih ds ps h e1)
    | non =>
      unfold D.py at e
      cases e
      unfold PyData.eqv
      rfl
    | bl b =>
      unfold D.py at e
      cases e
      unfold PyData.eqv
      simp
    | int b =>
      unfold D.py at e
      cases e
      unfold PyData.eqv
      simp
    | str b =>
      unfold D.py at e
      cases e
      unfold PyData.eqv
      simp
    | _ => cases h
theorem eqB_refl {x : D} (h : D.ok 64 x = true) : D.eqB x x = true := by
  obtain ⟨p, h1, _⟩ := D.ok_py 64 x h
  unfold D.eqB
  rw [h1]
  exact py_refl 64 x p h h1
/-- the same on both sides -/
theorem dNe_same {x y : D} {P : D → Prop} (e : x = y) (hx : D.ok 64 x = true) (h : P (.bl false)) : dEq true x y P := by
  subst e
  refine dEq_ok hx hx ?_
  rw [eqB_refl hx]
  exact h
theorem dEq_same {x y : D} {P : D → Prop} (e : x = y) (hx : D.ok 64 x = true) (h : P (.bl true)) : dEq false x y P := by
  subst e
  refine dEq_ok hx hx ?_
  rw [eqB_refl hx]
  exact h
/-! ### loops over typed items -/
/-- a loop that changes nothing -/
theorem loop_same {g : TGD} {b : TDS} {Z : DEnds} {δ0 : DE} {xs : List D} (hz : Z.nx δ0) (ht : ∀ x ∈ xs, ∀ K : DE → Prop, K δ0 → g x δ0 fun δ' => b δ' { Z with nx := K, ct := K, bk := Z.nx }) : loopD g b Z xs δ0 :=
  loop_inv (fun δ => δ = δ0) xs δ0 rfl (fun δ h => h ▸ hz) fun x hx δ h K hK => by
    subst h
    exact ht x hx K (hK _ rfl)
theorem loop_acc {α β : Type} {g : TGD} {b : TDS} {Z : DEnds} (S : α → DE) (I : Nat → α → Prop) (e : β → D) (ys : List β) (a0 : α) (h0 : I 0 a0) (hz : ∀ a, I ys.length a → Z.nx (S a)) (ht : ∀ i y, ys[i]? = some y → ∀ a, I i a → ∀ K : DE → Prop, (∀ a', I (i + 1) a' → K (S a')) → g (e y) (S a) fun δ' => b δ' { Z with nx := K, ct := K, bk := Z.nx }) : loopD g b Z (ys.map e) (S a0) := by
  have q := loop_pre (g := g) (b := b) (Z := Z) (ys.map e) (fun n δ => ∃ a, I n a ∧ δ = S a) 0 (S a0) (Nat.zero_le _) ⟨a0, h0, rfl⟩ (fun δ ⟨a, h1, h2⟩ => by
    rw [List.length_map] at h1
    rw [h2]
    exact hz a h1) fun i x hx δ ⟨a, h1, h2⟩ K hK => by
      rw [List.getElem?_map] at hx
      cases q : ys[i]? with
      | none =>
        rw [q] at hx
        cases hx
      | some y =>
        rw [q] at hx
        cases hx
        rw [h2]
        exact ht i y q a h1 K fun a' h' => hK _ ⟨a', h', rfl⟩
  rwa [List.drop_zero] at q
/-- a loop as a fold -/
theorem loop_fold {α β : Type} {g : TGD} {b : TDS} {Z : DEnds} (S : α → DE) (f : α → β → α) (e : β → D) (ys : List β) (a0 : α) (hz : Z.nx (S (ys.foldl f a0))) (ht : ∀ i y, ys[i]? = some y → ∀ K : DE → Prop, K (S (f ((ys.take i).foldl f a0) y)) → g (e y) (S ((ys.take i).foldl f a0)) fun δ' => b δ' { Z with nx := K, ct := K, bk := Z.nx }) : loopD g b Z (ys.map e) (S a0) :=
  loop_acc S (fun i a => a = (ys.take i).foldl f a0) e ys a0 (by simp) (fun a h => by
    rw [h, List.take_length]
    exact hz) fun i y hy a h K hK => by
      rw [h]
      refine ht i y hy K (hK _ ?_)
      rw [List.take_succ, hy]
      simp
theorem loop_mem {α β : Type} {g : TGD} {b : TDS} {Z : DEnds} (S : α → DE) (I : α → Prop) (e : β → D) (ys : List β) (a0 : α) (h0 : I a0) (hz : ∀ a, I a → Z.nx (S a)) (ht : ∀ y ∈ ys, ∀ a, I a → ∀ K : DE → Prop, (∀ a', I a' → K (S a')) → g (e y) (S a) fun δ' => b δ' { Z with nx := K, ct := K, bk := Z.nx }) : loopD g b Z (ys.map e) (S a0) :=
  loop_acc S (fun _ a => I a) e ys a0 h0 hz fun i y hy a h K hK => ht y (List.mem_of_getElem? hy) a h K hK
theorem loop_ints {g : TGD} {b : TDS} {Z : DEnds} {δ : DE} {lo : Int} {n : Nat} (h : loopD g b Z ((List.range n).map fun k : Nat => D.int (lo + k)) δ) : loopD g b Z (rgD lo n) δ := h
/-- while: a state, an invariant, a measure -/
theorem wh_acc {α : Type} {c : TDB} {b : TDS} {Z : DEnds} {δ0 : DE} (S : α → DE) (I : Nat → α → Prop) (m0 : Nat) (a0 : α) (e0 : δ0 = S a0) (h0 : I m0 a0) (ht : ∀ m a, I m a → ∀ K : DE → Prop, (∀ m' a', m' < m → I m' a' → K (S a')) → c (S a) (fun q => match q with
    | true => b (S a) { Z with nx := K, ct := K, bk := Z.nx }
    | false => Z.nx (S a)) (Z.ex (S a).s)) : tWh c b δ0 Z := by
  refine ⟨fun m δ => ∃ a, I m a ∧ δ = S a, ⟨m0, a0, h0, e0⟩, fun m δ ⟨a, h, e⟩ => ?_⟩
  subst e
  exact ht m a h _ fun m' a' hm h' => ⟨m', hm, a', h', rfl⟩
/-! ### comprehensions over typed items -/
theorem comp_mapT {β : Type} {g : TGD} {el : TD} {δ : DE} {P : List D → Prop} (e : β → D) (F : β → D) (ys : List β) {acc : List D} (he : ∀ y ∈ ys, ∀ Q : D → Prop, Q (F y) → g (e y) δ fun δ' => el δ' Q noEx) (h : P (acc ++ ys.map F)) : compD g yesD el δ P (ys.map e) acc := by
  induction ys generalizing acc with
  | nil =>
    rw [List.map_nil, List.append_nil] at h
    exact h
  | cons y ys ih =>
    rw [List.map_cons]
    unfold compD
    refine he y List.mem_cons_self (fun d => compD g yesD el δ P (ys.map e) (acc ++ [d])) ?_
    refine ih (fun z hz => he z (List.mem_cons_of_mem _ hz)) ?_
    rw [List.append_assoc]
    exact h
theorem comp_filT {β : Type} {g : TGD} {c : TDB} {el : TD} {δ : DE} {P : List D → Prop} (Dx : β → DE) (b : β → Bool) (e : β → D) (F : β → D) (ys : List β) {acc : List D} (hg : ∀ y ∈ ys, ∀ Q : DE → Prop, Q (Dx y) → g (e y) δ Q) (hc : ∀ y ∈ ys, ∀ Q : Bool → Prop, Q (b y) → c (Dx y) Q noEx) (he : ∀ y ∈ ys, b y = true → ∀ Q : D → Prop, Q (F y) → el (Dx y) Q noEx) (h : P (acc ++ (ys.filter b).map F)) : compD g c el δ P (ys.map e) acc := by
  induction ys generalizing acc with
  | nil =>
    rw [List.filter_nil, List.map_nil, List.append_nil] at h
    exact h
  | cons y ys ih =>
    rw [List.map_cons]
    unfold compD
    refine hg y List.mem_cons_self _ (hc y List.mem_cons_self _ ?_)
    cases q : b y with
    | true =>
      rw [List.filter_cons_of_pos q] at h
      refine he y List.mem_cons_self q (fun d => compD g c el δ P (ys.map e) (acc ++ [d])) (ih (fun z hz => hg z (List.mem_cons_of_mem _ hz)) (fun z hz => hc z (List.mem_cons_of_mem _ hz)) (fun z hz => he z (List.mem_cons_of_mem _ hz)) ?_)
      rw [List.append_assoc]
      exact h
    | false =>
      rw [List.filter_cons_of_neg (by rw [q]; exact Bool.false_ne_true)] at h
      exact ih (fun z hz => hg z (List.mem_cons_of_mem _ hz)) (fun z hz => hc z (List.mem_cons_of_mem _ hz)) (fun z hz => he z (List.mem_cons_of_mem _ hz)) h
/-- .. over one name -/
theorem comp_filI {β : Type} {j : Nat} {c : TDB} {el : TD} {δ : DE} {P : List D → Prop} (b : β → Bool) (e : β → D) (F : β → D) (ys : List β) {acc : List D} (hc : ∀ y ∈ ys, ∀ Q : Bool → Prop, Q (b y) → c (δ.set j (.d (e y))) Q noEx) (he : ∀ y ∈ ys, b y = true → ∀ Q : D → Prop, Q (F y) → el (δ.set j (.d (e y))) Q noEx) (h : P (acc ++ (ys.filter b).map F)) : compD (gN j) c el δ P (ys.map e) acc :=
  comp_filT (fun y => δ.set j (.d (e y))) b e F ys (fun _ _ _ q => q) hc he h
theorem comp_ints {g : TGD} {c : TDB} {el : TD} {δ : DE} {P : List D → Prop} {lo : Int} {n : Nat} {acc : List D} (h : compD g c el δ P ((List.range n).map fun k : Nat => D.int (lo + k)) acc) : compD g c el δ P (rgD lo n) acc := h
theorem loop_ix {β : Type} {g : TGD} {b : TDS} {Z : DEnds} {δ0 : DE} (S : Nat → DE) (e : β → D) (ys : List β) (h0 : δ0 = S 0) (hz : Z.nx (S ys.length)) (ht : ∀ i y, ys[i]? = some y → ∀ K : DE → Prop, K (S (i + 1)) → g (e y) (S i) fun δ' => b δ' { Z with nx := K, ct := K, bk := Z.nx }) : loopD g b Z (ys.map e) δ0 := by
  rw [h0]
  exact loop_acc S (fun i a => a = i) e ys 0 rfl (fun a h => by rw [h]; exact hz) fun i y hy a h K hK => by
    subst h
    exact ht a y hy K (hK _ rfl)
end Wn

set_option Elab.async false
set_option linter.all false
set_option maxRecDepth 100000
set_option maxHeartbeats 1000000
namespace Wn
open PySem L2
theorem cut_take (xs : List D) (k : Nat) : cutD xs none (some (k : Int)) = xs.take k := by
  unfold cutD
  rw [HT.sIx_nat, HT.sIx_none, List.drop_zero, Nat.sub_zero]
  by_cases h : k ≤ xs.length
  · rw [Nat.min_eq_left h]
  · rw [Nat.min_eq_right (by omega), List.take_length, List.take_of_length_le (by omega)]
theorem cut_drop (xs : List D) (k : Nat) : cutD xs (some (k : Int)) none = xs.drop k := by
  unfold cutD
  rw [HT.sIx_nat, HT.sIx_none]
  by_cases h : k ≤ xs.length
  · rw [Nat.min_eq_left h, List.take_of_length_le]
    rw [List.length_drop]
    omega
  · rw [Nat.min_eq_right (by omega), List.drop_length, List.drop_of_length_le (by omega), List.take_nil]
theorem cut_mid (xs : List D) (i j : Nat) : cutD xs (some (i : Int)) (some (j : Int)) = (xs.drop i).take (j - i) := by
  unfold cutD
  rw [HT.sIx_nat, HT.sIx_nat]
  by_cases h : i ≤ xs.length
  · rw [Nat.min_eq_left h]
    by_cases h2 : j ≤ xs.length
    · rw [Nat.min_eq_left h2]
    · rw [Nat.min_eq_right (by omega), List.take_of_length_le (by rw [List.length_drop]; omega), List.take_of_length_le (by rw [List.length_drop]; omega)]
  · rw [List.drop_of_length_le (show xs.length ≤ min i xs.length by omega), List.drop_of_length_le (by omega), List.take_nil, List.take_nil]
theorem flats_ints : ∀ ns : List Int, flatsOf (ns.map D.int) = some (ns.map V.int)
  | [] => rfl
  | n :: r => by
    show (match D.flat (.int n), flatsOf (r.map D.int) with | some v, some vs => some (v :: vs) | _, _ => none) = _
    rw [flats_ints r]
    rfl
theorem inV_ints (i : Int) (ns : List Int) : inV (.int i) (ns.map V.int) = ns.any (· == i) := by
  unfold inV
  rw [List.any_map]
  rfl
@[simp] theorem u_in_intsL (neg : Bool) (i : Int) (ns : List Int) (P : D → Prop) : dIn neg (.int i) (.lst (ns.map D.int)) P = P (.bl (if neg then !(ns.any (· == i)) else ns.any (· == i))) := by
  show (match some (V.int i), (some (ns.map D.int)).bind flatsOf with | some v, some vs => P (.bl (if neg then !inV v vs else inV v vs)) | _, _ => False) = _
  rw [Option.bind_some, flats_ints]
  dsimp only
  rw [inV_ints]
@[simp] theorem u_in_intsT (neg : Bool) (i : Int) (ns : List Int) (P : D → Prop) : dIn neg (.int i) (.tup (ns.map D.int)) P = P (.bl (if neg then !(ns.any (· == i)) else ns.any (· == i))) := by
  show (match some (V.int i), (some (ns.map D.int)).bind flatsOf with | some v, some vs => P (.bl (if neg then !inV v vs else inV v vs)) | _, _ => False) = _
  rw [Option.bind_some, flats_ints]
  dsimp only
  rw [inV_ints]
/-- == of lists of ints -/
theorem dEq_lstI {neg : Bool} {ns ms : List Int} {P : D → Prop} (h : P (.bl (if neg then !(ns == ms) else ns == ms))) : dEq neg (.lst (ns.map D.int)) (.lst (ms.map D.int)) P := by
  refine dEq_ok (ok_lstI ns) (ok_lstI ms) ?_
  rw [eqB_lstI]
  exact h
theorem dEq_nil {neg : Bool} {ns : List Int} {P : D → Prop} (h : P (.bl (if neg then !ns.isEmpty else ns.isEmpty))) : dEq neg (.lst (ns.map D.int)) (.lst []) P := by
  have e : (ns == []) = ns.isEmpty := by cases ns <;> rfl
  exact dEq_lstI (ms := []) (by rw [e]; exact h)
/-- where the source is, or that there is none yet -/
def SrcIn (s : Option Addr) (o : Slot) : Prop := s = none ∧ o = .no ∨ ∃ a, s = some a ∧ o = .sr a
/-- the law's loop over its cells -/
theorem outer_loop {i j : Nat} {b : TDS} {Z : DEnds} {l : List Slot} {N : Nat} (hN : N ≤ 99) (hij : (l.set j .no).set i .no = l) (hz : ∀ s o, SrcIn s o → Z.nx ⟨s, l.set j o⟩)
    (ht : ∀ (k : Int) s o, 0 ≤ k → k < 100 → SrcIn s o → ∀ K : DE → Prop, (∀ a, K ⟨some a, l.set j (.sr a)⟩) → b ⟨s, (l.set j o).set i (.d (.int k))⟩ { Z with nx := K, ct := K, bk := Z.nx }) (hlj : l.set j .no = l) : loopD (gN i) b Z (rgD 0 N) ⟨none, l⟩ := by
  refine loop_inv (fun δ => ∃ s o, SrcIn s o ∧ δ = ⟨s, l.set j o⟩) _ _ ⟨none, .no, .inl ⟨rfl, rfl⟩, by rw [hlj]⟩ (fun δ ⟨s, o, h, e⟩ => by rw [e]; exact hz s o h) fun x hx δ ⟨s, o, h, e⟩ K hK => ?_
  obtain ⟨k, hk, ex⟩ := rgD_mem hx
  subst ex
  subst e
  exact ht _ s o (by omega) (by omega) h K fun a => hK _ ⟨some a, .sr a, .inr ⟨a, rfl, rfl⟩, rfl⟩
theorem cells_le (c d : Int) (n : Nat) (hc : 0 ≤ c) (hc2 : c ≤ 99) (hd : d ≤ 99) : (if c < (if (n : Int) < d then (n : Int) else d) then (if (n : Int) < d then (n : Int) else d) else c).toNat ≤ 99 ∧ -4611686018427387904 ≤ (if c < (if (n : Int) < d then (n : Int) else d) then (if (n : Int) < d then (n : Int) else d) else c) ∧ (if c < (if (n : Int) < d then (n : Int) else d) then (if (n : Int) < d then (n : Int) else d) else c) < 4611686018427387904 := by
  refine ⟨?_, ?_, ?_⟩ <;> split <;> split <;> omega
end Wn

set_option Elab.async false
set_option linter.all false
set_option maxRecDepth 100000
set_option maxHeartbeats 1000000
namespace Wn
open PySem PySem.Spec PyProof.Rows L2
theorem loop_acc0 {α β : Type} {g : TGD} {b : TDS} {Z : DEnds} {δ0 : DE} (S : α → DE) (I : Nat → α → Prop) (e : β → D) (ys : List β) (a0 : α) (e0 : δ0 = S a0) (h0 : I 0 a0) (hz : ∀ a, I ys.length a → Z.nx (S a)) (ht : ∀ i y, ys[i]? = some y → ∀ a, I i a → ∀ K : DE → Prop, (∀ a', I (i + 1) a' → K (S a')) → g (e y) (S a) fun δ' => b δ' { Z with nx := K, ct := K, bk := Z.nx }) : loopD g b Z (ys.map e) δ0 := by
  rw [e0]
  exact loop_acc S I e ys a0 h0 hz ht
def rg3D (lo c : Int) (n : Nat) : List D := (List.range n).map fun (k : Nat) => D.int (lo + k * c)
theorem rg3D_len (lo c : Int) (n : Nat) : (rg3D lo c n).length = n := by
  unfold rg3D
  rw [List.length_map, List.length_range]
theorem rg3D_get {lo c : Int} {n i : Nat} (h : i < n) : (rg3D lo c n).drop i = D.int (lo + i * c) :: (rg3D lo c n).drop (i + 1) := by
  unfold rg3D
  have hl : i < ((List.range n).map fun (k : Nat) => D.int (lo + k * c)).length := by
    rw [List.length_map, List.length_range]
    exact h
  rw [List.drop_eq_getElem_cons hl, List.getElem_map, List.getElem_range]
def tRg3 (t : TDL) : TDL := fun δ P EP => t δ (fun ds => match ds with
  | [.int i, .int j, .int c] => ∃ n, RgC i j c n ∧ P (rg3D i c n)
  | _ => False) EP
@[simp] theorem e_tRg3 (t : TDL) (δ : DE) (P : List D → Prop) (EP : Addr → Prop) : tRg3 t δ P EP = (t δ (fun ds => match ds with
  | [.int i, .int j, .int c] => ∃ n, RgC i j c n ∧ P (rg3D i c n)
  | _ => False) EP) := Eq.trans rfl rfl
theorem rgc_pos {i j c : Int} (hc : 0 < c) (hc2 : c < 1073741824) (hi : 0 ≤ i) (hij : i < j) (hj : j < 1000000000000) : RgC i j c ((j - i - 1) / c + 1).toNat := by
  have e : Builtin.Range.rangeSize i j c = (j - i - 1) / c + 1 := by
    unfold Builtin.Range.rangeSize
    rw [if_pos (by omega), if_pos hij]
  have e1 : 0 ≤ (j - i - 1) / c := Int.ediv_nonneg (by omega) (by omega)
  have e2 : (j - i - 1) / c ≤ j - i - 1 := Int.ediv_le_self _ (by omega)
  have e3 : (j - i - 1) / c * c ≤ j - i - 1 := Int.ediv_mul_le _ (by omega)
  refine ⟨by omega, by omega, ?_, by rw [e]; omega⟩
  unfold Builtin.Range.small
  rw [e]
  simp only [Builtin.Range.rangeFitsLong, Bool.and_eq_true, Bool.or_eq_true, decide_eq_true_eq, beq_iff_eq, show (0 : Int) < c from hc, if_true]
  have e4 : ((j - i - 1) / c + 1) * c = (j - i - 1) / c * c + c := by rw [Int.add_mul, Int.one_mul]
  have e5 : 0 ≤ (j - i - 1) / c * c := Int.mul_nonneg e1 (by omega)
  omega
section
variable {X : Cx} {K : PySem.W.Frag} {T : Tbl} {E : XK} {elt tg : Expr} {ifs : List Expr} {scope : Scope} {own : List (Str × Nat)} {pos p p2 : Pos} {js : List Nat} {g : TGD} {c : TDB} {e : TD} {te : TDL}
theorem lc_rg3 {σ : L2.St} {G0 H0 G H1 : Hp} {δ : DE} {lo st : Int} {n : Nat} {P : List D → Prop} {D : Addr} {Qd : Hp → Prop} {vs : List Nat} (hjs : ∀ i ∈ js, i ∈ vs) (R1 : Rep K T G0 H0 G H1 σ δ) (hD : H1 D = none) (hd : szOk (rg3D lo st n).length (compD g c e (wipeD δ vs) P (rg3D lo st n) []))
    (hq : ∀ H2 G2 ws acc, Stp T δ.s G G2 H1 H2 → G2 D = none → H2 D = some (.lst ws) → RpA K G2 acc ws → P acc → Qd H2) :
    ∃ W : Nat → Nat → Hp → Prop, (∃ m, W 0 m (upd H1 D (.lst []))) ∧ ∀ i m H, W i m H →
      ((Itc lo st n).stop i H ∧ Qd H) ∨ ((Itc lo st n).go i H ∧ ∃ Nx : Hp → Prop, (∀ H', Nx H' → ∃ m', m' < m ∧ W (i + 1) m' H') ∧ ∀ x H', (Itc lo st n).yld i H x H' → lG K T js g x (wipe σ vs) H' fun σ2 H2 => wipe σ2 vs = wipe σ vs ∧ lB K T E0 c σ2 H2 fun b H3 =>
        if b = true then lF K T E0 e σ2 H3 fun y H4 => ∃ acc, H4 D = some (.lst acc) ∧ acc.length < sizeLine ∧ Nx (upd H4 D (.lst (acc ++ [y]))) else Nx H3) := by
  have len := rg3D_len lo st n
  rw [e_szOk, len] at hd
  obtain ⟨z1, z2⟩ := hd
  -- what holds ahead of turn i, and how many turns are left
  refine ⟨fun i left H => i + left = n ∧ CInv K T δ.s G H1 D (fun acc G2 => compD g c e (wipeD δ vs) P ((rg3D lo st n).drop i) acc ∧ acc.length ≤ i) H, ⟨n, Nat.zero_add n, c_start R1 hD ⟨z2, Nat.le_refl _⟩⟩, fun i left H ⟨hl, inv⟩ => ?_⟩
  cases left with
  | zero =>
    obtain ⟨G2, ws, acc, x2, h2, h3, h4, h5, _⟩ := inv
    rw [List.drop_eq_nil_of_le (by rw [len]; omega)] at h5
    exact .inl ⟨by show n ≤ i; omega, hq H G2 ws acc x2 h2 h3 h4 h5⟩
  | succ left =>
    have lt : i < n := by omega
    refine .inr ⟨lt, CInv K T δ.s G H1 D (fun acc G2 => compD g c e (wipeD δ vs) P ((rg3D lo st n).drop (i + 1)) acc ∧ acc.length ≤ i + 1), fun H' q => ⟨left, Nat.lt_succ_self _, by omega, q⟩, fun x H' hy => ?_⟩
    have eH : H' = H := hy.1
    have ex : x = .int (lo + (i : Nat) * st) := hy.2
    rw [eH, ex]
    exact c_turn (d := .int (lo + i * st)) (tot := n) (i := i) hjs R1 hD (by omega) lt (fun acc G2 q => ⟨by rw [← rg3D_get lt]; exact q.1, q.2, rfl⟩) (fun _ _ _ _ _ _ q1 q2 => ⟨q1, q2⟩) inv
theorem rd_lcR3 {vs : List Nat} (hjs : ∀ i ∈ js, i ∈ vs) : ∀ (σ : L2.St) (H : Hp) (Q : VK), lN K T E (tLc (tRg3 te) vs g c e) σ H Q → L2.tLc (iRng3 (lAR K T E te)) (lG K T js g) (lB K T E0 c) (lF K T E0 e) vs σ H Q :=
  fun σ H Q ⟨δ, G0, H0, G, P, EP, L, hh, k⟩ => ⟨δ, G0, H0, G, _, EP, L, hh, fun ds hd vs H1 g1 r => by
    split at hd
    · obtain ⟨v, r1, ev, e1, r⟩ := r
      obtain ⟨v', r2, ev', e2, r⟩ := r
      obtain ⟨v'', r3, ev'', e3, r⟩ := r
      have r : r3 = [] := r
      obtain ⟨n, hr, hd⟩ := hd
      exact ⟨_, _, _, n, by rw [ev, ev', ev'', r, show v = _ from e1, show v' = _ from e2, show v'' = _ from e3], hr, fun D hD => lc_rg3 hjs (L.gr g1).rep hD hd fun H2 G2 ws acc x2 h2 h3 h4 h5 => k acc h5 D ws H2 G2 ((Stp.of_gr L.rep.gv g1).trans x2) (g1.none_of hD) h2 h3 h4⟩
    · exact hd.elim⟩
end
section
variable {X : Cx} {T : Tbl} {E : XK} {elt tg : Expr} {ifs : List Expr} {scope : Scope} {own : List (Str × Nat)} {pos p p2 : Pos} {js : List Nat} {g : TGD} {c : TDB} {e : TD} {te : TDL}
theorem pd_lcR3 {a a2 a3 : Expr} (hc : X.calm = true) (hN : X.N.Nodup) (hm : X.mg "range" = none) (ha : PA X [a, a2, a3] (lAR X.K T E te)) (ok : BlkOk X.N X.env.scope scope own) (hjs : ∀ i ∈ js, i ∈ own.map (·.2))
    (hg : ∀ (s : Shared) (H : Hp) (C : Addr) (cl : List (Str × Addr)) (fp : List Addr), PG (X.blk s H scope (compEnvC scope cl C X.env) fp) tg (lG X.K T js g)) (ht : ∀ (s : Shared) (H : Hp) (C : Addr) (cl : List (Str × Addr)) (fp : List Addr), PTs (X.blk s H scope (compEnvC scope cl C X.env) fp) ifs (lB X.K T E0 c))
    (he : ∀ (s : Shared) (H : Hp) (C : Addr) (cl : List (Str × Addr)) (fp : List Addr), PE (X.blk s H scope (compEnvC scope cl C X.env) fp) elt (lF X.K T E0 e)) (hgr : Gl X "range" := by rfl) (hs1 : starEach [a, a2, a3] X.env = (false, eval a X.env) :: starEach [a2, a3] X.env := by rfl) (hpl : (backTo p2 (starEach [a2, a3] X.env)).any (·.1) = false := by rfl) (hs : ∀ x, foldedSetIterable (.Call (.Name "range" p) [a, a2, a3] [] p2) X.env x = pure x := by intro _; rfl) :
    PE X (.ListComp elt [⟨tg, (.Call (.Name "range" p) [a, a2, a3] [] p2), ifs, 0⟩] scope pos) (lN X.K T E (tLc (tRg3 te) (own.map (·.2)) g c e)) := pe_imp (pe_lc hc hN (pi_range3 hgr hm ha hs1 hpl) ok hg ht he hs) (rd_lcR3 hjs)
theorem pd_setLfR3 {a a2 a3 : Expr} (i : Nat) {y : Str} {py spos : Pos} (hc : X.calm = true) (hN : X.N.Nodup) (hm : X.mg "range" = none) (ha : PA X [a, a2, a3] (lAR X.K T E te)) (ok : BlkOk X.N X.env.scope scope own) (hjs : ∀ i ∈ js, i ∈ own.map (·.2))
    (hg : ∀ (s : Shared) (H : Hp) (C : Addr) (cl : List (Str × Addr)) (fp : List Addr), PG (X.blk s H scope (compEnvC scope cl C X.env) fp) tg (lG X.K T js g)) (ht : ∀ (s : Shared) (H : Hp) (C : Addr) (cl : List (Str × Addr)) (fp : List Addr), PTs (X.blk s H scope (compEnvC scope cl C X.env) fp) ifs (lB X.K T E0 c))
    (he : ∀ (s : Shared) (H : Hp) (C : Addr) (cl : List (Str × Addr)) (fp : List Addr), PE (X.blk s H scope (compEnvC scope cl C X.env) fp) elt (lF X.K T E0 e))
    (hsw : swapsWith (.ListComp elt [⟨tg, (.Call (.Name "range" p) [a, a2, a3] [] p2), ifs, 0⟩] scope pos) (some (.Name y py)) spos.line X.env = pure true) (hy : X.N[i]? = some y := by rfl) (hyl : X.env.scope.names.lookup y = some .local := by rfl) (hgr : Gl X "range" := by rfl) (hs1 : starEach [a, a2, a3] X.env = (false, eval a X.env) :: starEach [a2, a3] X.env := by rfl) (hpl : (backTo p2 (starEach [a2, a3] X.env)).any (·.1) = false := by rfl) (hs : ∀ x, foldedSetIterable (.Call (.Name "range" p) [a, a2, a3] [] p2) X.env x = pure x := by intro _; rfl) :
    PS X (.Assign [.Name y py] (.ListComp elt [⟨tg, (.Call (.Name "range" p) [a, a2, a3] [] p2), ifs, 0⟩] scope pos) spos) (lS X.K T E (tSet i (tNF (tLc (tRg3 te) (own.map (·.2)) g c e)))) :=
  ps_imp (ps_setLc hc hN hy hyl hsw (pi_range3 hgr hm ha hs1 hpl) ok hg ht he hs) fun D σ H ⟨δ, G0, H0, G, Z, R, h, F⟩ => rd_lcR3 hjs σ H _ ⟨δ, G0, H0, G, _, _, F.lv R, h, fun ds hd a us H' G' x h1 h2 h3 r => by
    obtain ⟨x2, r2⟩ := frz_new (F.lv R) x h1 h2 h3 r
    exact F.nx _ _ _ H' x2.gg ((R.stp x2).setD r2) hd⟩
end
end Wn

set_option Elab.async false
set_option linter.all false
set_option maxRecDepth 100000
set_option maxHeartbeats 4000000
namespace Wn
open PySem PySem.Spec PyProof.Rows L2
/-- the pairs of place and item -/
def enumD (xs : List D) : List D := xs.zipIdx.map fun p => D.tup [.int (p.2 : Nat), p.1]
theorem enumD_len (xs : List D) : (enumD xs).length = xs.length := by
  unfold enumD
  rw [List.length_map, List.length_zipIdx]
theorem enumD_get {xs : List D} {i : Nat} (h : i < xs.length) : (enumD xs).drop i = D.tup [.int (i : Nat), xs[i]] :: (enumD xs).drop (i + 1) := by
  have hl : i < (enumD xs).length := by rw [enumD_len]; exact h
  have e : (enumD xs)[i]? = some (D.tup [.int (i : Nat), xs[i]]) := by
    unfold enumD
    rw [List.getElem?_map, List.getElem?_zipIdx, List.getElem?_eq_getElem h]
    simp
  rw [List.drop_eq_getElem_cons hl]
  rw [List.getElem?_eq_getElem hl] at e
  rw [Option.some.inj e]
def tEnum (t : TDL) : TDL := fun δ P EP => t δ (fun xs => P (enumD xs)) EP
@[simp] theorem e_tEnum (t : TDL) (δ : DE) (P : List D → Prop) (EP : Addr → Prop) : tEnum t δ P EP = (t δ (fun xs => P (enumD xs)) EP) := Eq.trans rfl rfl
section
variable {X : Cx} {T : Tbl} {E : XK} {it : Expr} {elts : List Expr} {body : List Stmt} {pos p p2 tpos : Pos} {kk : Nat} {js : List Nat} {g : TGD} {b : TDS} {te : TD}
theorem pd_forE (hp : PassesOwn (model X.prog X.w) X.A X.env X.xe) (hc : X.calm = true) (hm : X.mg "enumerate" = none) (he : PE X it (lF X.K T E te)) (hg : PG X (.Tuple elts kk tpos) (lG X.K T js g)) (hb : PSs X body (lS X.K T E b)) (hge : Gl X "enumerate" := by rfl) (hs1 : starEach [it] X.env = [(false, eval it X.env)] := by rfl)
    (hs2 : starEach (it :: []) X.env = (false, eval it X.env) :: starEach [] X.env := by rfl) (hs : ∀ x, foldedSetIterable (.Call (.Name "enumerate" p) [it] [] p2) X.env x = pure x := by intro _; rfl) :
    PS X (.For (.Tuple elts kk tpos) (.Call (.Name "enumerate" p) [it] [] p2) body [] pos) (lS X.K T E (tForL (tEnum (tItl te)) g b)) :=
  ps_imp (ps_for hp hc (pi_enum hge hm (pa_cons he pa_nil hs2) hs1) hg hb hs) fun D σ H ⟨δ, G0, H0, G, Z, R, h, F⟩ => ⟨δ, G0, H0, G, _, _, F.lv R, h, fun d hd v H1 G1 x1 r => by
    cases d with
    | lst ds =>
      obtain ⟨a, us, e, h1, h2⟩ := r
      have hd : loopD g b Z (enumD ds) δ := hd
      have seq : ∀ {G' H' σ' δ'}, Rep X.K T G0 H0 G' H' σ' δ' → G' a = some (.lst us) → SqL X.K H' a us := fun R' q => .of (vw_sub _ _ (R'.gv _ _ q))
      refine ⟨a, us, by rw [e], seq (R.stp x1) h1, fun i left σ' H' => i + left = ds.length ∧ ∃ δ' G', Same G G' ∧ Rep X.K T G0 H0 G' H' σ' δ' ∧ loopD g b Z ((enumD ds).drop i) δ' ∧ G' a = some (.lst us) ∧ RpA X.K G' ds us, ⟨ds.length, Nat.zero_add _, δ, G1, x1.gg, R.stp x1, hd, h1, h2⟩, fun i left σ' H' ⟨hl, δ', G', gg, R', ld, ha, ra⟩ => ?_⟩
      have ul : us.length = ds.length := ra.len
      cases left with
      | zero =>
        rw [List.drop_eq_nil_of_le (by rw [enumD_len]; omega)] at ld
        exact .inl ⟨⟨us, seq R' ha, by omega⟩, F.nx δ' G' σ' H' gg R' ld⟩
      | succ left =>
        have lt : i < ds.length := by omega
        rw [enumD_get lt] at ld
        obtain ⟨y, hy, ry⟩ := ra.get (List.getElem?_eq_getElem lt)
        refine .inr ⟨⟨us, y, seq R' ha, hy⟩, fun σ2 H2 => (i + 1) + left = ds.length ∧ ∃ δ' G', Same G G' ∧ Rep X.K T G0 H0 G' H2 σ2 δ' ∧ loopD g b Z ((enumD ds).drop (i + 1)) δ' ∧ G' a = some (.lst us) ∧ RpA X.K G' ds us, fun σ2 H2 q => ⟨left, Nat.lt_succ_self _, q⟩, fun x H2 hx => ?_⟩
        obtain ⟨t, z, ex, ht, eH, hz⟩ := hx
        have ez : y = z := Option.some.inj (hy.symm.trans (hz us (seq R' ha)))
        subst ez
        subst ex
        subst eH
        have st := R'.fresh (o := .tup [.int (i : Nat), y]) ht fun ps q => by cases q
        have R2 := R'.stp st
        have g2 : Same G (upd G' t (.tup [.int (i : Nat), y])) := gg.trans st.gg
        have rt : Rp X.K (upd G' t (.tup [.int (i : Nat), y])) (.tup [.int (i : Nat), ds[i]]) (.ref t) := ⟨t, _, rfl, upd_same, .cons rfl (.cons (ry.mono st.gg) .nil)⟩
        exact ⟨δ', G0, H0, _, _, _, R2, rt, ld, fun δ2 σ2 R3 _ _ h3 => ⟨δ2, G0, H0, _, _, R3, h3, F.turn g2 fun δ3 G3 σ3 H3 s3 R4 h4 => ⟨by omega, δ3, G3, g2.trans s3, R4, h4, s3 _ _ (st.gg _ _ ha), ra.mono (st.gg.trans s3)⟩⟩⟩
    | _ => exact hd.elim⟩
end
end Wn

set_option Elab.async false
set_option linter.all false
set_option maxRecDepth 100000
set_option maxHeartbeats 4000000
namespace Wn
open PySem PySem.Spec PyProof.Rows L2
/-! ### xs.count(k), ints -/
def dCnt (xs : List D) (k : D) (P : D → Prop) : Prop := match intsOf xs, k with
  | some ns, .int j => P (.int (ns.count j : Nat))
  | _, _ => False
def tCnt (tl : TDL) (tk : TD) : TD := fun δ P EP => tl δ (fun xs => tk δ (fun k => dCnt xs k P) EP) EP
@[simp] theorem e_tCnt (tl : TDL) (tk : TD) (δ : DE) (P : D → Prop) (EP : Addr → Prop) : tCnt tl tk δ P EP = (tl δ (fun xs => tk δ (fun k => dCnt xs k P) EP) EP) := Eq.trans rfl rfl
@[simp] theorem u_dCnt (ns : List Int) (j : Int) (P : D → Prop) : dCnt (ns.map D.int) (.int j) P = P (.int (ns.count j : Nat)) := by
  unfold dCnt
  rw [intsOf_map]
section
variable {X : Cx} {T : Tbl} {E : XK} {o e : Expr} {apos cpos : Pos} {tl : TDL} {tk : TD}
theorem pd_count (ho : PE X o (lL X.K T E tl)) (hk : PE X e (lR X.K T E tk)) (hs : starEach [e] X.env = (false, eval e X.env) :: starEach [] X.env := by rfl) (hbase : attributeBase o "count" X.env (eval o X.env) = eval o X.env := by rfl)
    (hfew : ((backTo cpos (starEach [e] X.env)).all (fun x => !x.1) && (backToKw cpos (keywordEach [] X.env)).all (fun x => x.1.isSome) && decide ([e].length + ([] : List Keyword).length + (if ([] : List Keyword).isEmpty then 0 else 1) < 30)) = true := by rfl)
    (hline : (apos.endLine == cpos.line) = true := by rfl) (hplain : (backTo cpos (starEach [] X.env)).any (·.1) = false := by rfl) : PE X (.Call (.Attribute o "count" apos) [e] [] cpos) (lF X.K T E (tCnt tl tk)) :=
  pe_imp (pe_bm PySem.F.plainAttrs_list PySem.F.slot_list_count PySem.F.type_list_count mt_lcount ho (pa_cons hk pa_nil hs) hbase hfew hline hs hplain) fun σ H Q ⟨δ, G0, H0, G, P, EP, L, ht, k⟩ => ⟨δ, G0, H0, G, _, EP, L, ht, fun xs hxs a us H1 G1 x1 h1 r1 => ⟨Or.inl ⟨rfl, us, .of (vw_sub _ _ h1)⟩, δ, G0, H0, G1, _, EP, L.stp x1, hxs, fun d hd v H2 g2 r2 => by
    unfold dCnt at hd
    cases q : intsOf xs with
    | none =>
      rw [q] at hd
      exact hd.elim
    | some ns =>
      rw [q] at hd
      cases d with
      | int j =>
        have r2 : v = .int j := r2
        have e1 := of_intsOf q
        rw [e1] at r1
        have e2 := r1.ints
        rw [e2] at h1
        exact ⟨a, ns, j, rfl, by rw [r2], .of (vw_sub _ _ (g2.ex _ _ h1)), k _ hd _ H2 G1 (x1.trans (.of_gr (L.stp x1).rep.gv g2)) rfl⟩
      | _ => exact hd.elim⟩⟩
end
/-! ### in a list of data -/
def dInX (neg : Bool) : D → D → (D → Prop) → Prop := fun x y P => match x.py, y.py with
  | some p, some (.list qs) => (SeqAt.shaped p = true ∧ SeqAt.shaped (.list qs) = true) ∧ P (.bl (if neg then !(qs.any fun z => PyData.eqv z p) else qs.any fun z => PyData.eqv z p))
  | _, _ => False
theorem sop_inX {K : PySem.W.Frag} : Sop K (rInD K) (dInX false) := by
  intro s H dx dy x y P Q rx ry h k
  unfold dInX at h
  cases ex : dx.py with
  | none =>
    rw [ex] at h
    exact h.elim
  | some p =>
    cases ey : dy.py with
    | none =>
      rw [ex, ey] at h
      exact h.elim
    | some q =>
      rw [ex, ey] at h
      cases q with
      | list qs => exact ⟨p, qs, rx.at.dp _ _ _ ex, ry.at.dp _ _ _ ey, h.1.1, h.1.2, k _ _ h.2 fun _ => rfl⟩
      | _ => exact h.elim
theorem sop_ninX {K : PySem.W.Frag} : Sop K (rNotInD K) (dInX true) := by
  intro s H dx dy x y P Q rx ry h k
  unfold dInX at h
  cases ex : dx.py with
  | none =>
    rw [ex] at h
    exact h.elim
  | some p =>
    cases ey : dy.py with
    | none =>
      rw [ex, ey] at h
      exact h.elim
    | some q =>
      rw [ex, ey] at h
      cases q with
      | list qs => exact ⟨p, qs, rx.at.dp _ _ _ ex, ry.at.dp _ _ _ ey, h.1.1, h.1.2, k _ _ h.2 fun _ => rfl⟩
      | _ => exact h.elim
section
variable {X : Cx} {T : Tbl} {E : XK} {a b : Expr} {pos : Pos} {ta tb : TD}
theorem room65 {k : Nat} {A : Around} (r : Room k A) : A.units + 65 < cLine := by
  have := r.un
  omega
theorem pd_inX (hu : X.A.units + 65 < cLine) (ha : PE X a (lR X.K T E ta)) (hb : PE X b (lR X.K T E tb)) (hm : behindInMarks .In b = false := by with_unfolding_all rfl) : PE X (.Compare a [.In] [b] pos) (lF X.K T E (t2 (dInX false) ta tb)) := pd_cmp (op_inD hu) sop_inX ha hb hm
theorem pd_ninX (hu : X.A.units + 65 < cLine) (ha : PE X a (lR X.K T E ta)) (hb : PE X b (lR X.K T E tb)) (hm : behindInMarks .NotIn b = false := by with_unfolding_all rfl) : PE X (.Compare a [.NotIn] [b] pos) (lF X.K T E (t2 (dInX true) ta tb)) := pd_cmp (op_notInD hu) sop_ninX ha hb hm
theorem pd_tinX (hu : X.A.units + 65 < cLine) (ha : PE X a (lR X.K T E ta)) (hb : PE X b (lR X.K T E tb)) (hm : behindInMarks .In b = false := by with_unfolding_all rfl) : PT X (.Compare a [.In] [b] pos) (lB X.K T E (tBl (t2 (dInX false) ta tb))) := pd_tcmp (op_inD hu) sop_inX ha hb hm
theorem pd_tninX (hu : X.A.units + 65 < cLine) (ha : PE X a (lR X.K T E ta)) (hb : PE X b (lR X.K T E tb)) (hm : behindInMarks .NotIn b = false := by with_unfolding_all rfl) : PT X (.Compare a [.NotIn] [b] pos) (lB X.K T E (tBl (t2 (dInX true) ta tb))) := pd_tcmp (op_notInD hu) sop_ninX ha hb hm
end
/-! ### targets that may change the heap -/
def lH (K : PySem.W.Frag) (T : Tbl) (g : TGD) : TG := fun v σ H Q => ∃ δ G0 H0 G d, ∃ P : DE → Prop, Rep K T G0 H0 G H σ δ ∧ Rp K G d v ∧ g d δ P ∧ ∀ δ' σ' H' G', Same G G' → Rep K T G0 H0 G' H' σ' δ' → δ'.s = δ.s → P δ' → Q σ' H'
def gAll : List TGD → List D → DE → (DE → Prop) → Prop
  | [], [], δ, P => P δ
  | g :: gs, d :: ds, δ, P => g d δ fun δ' => gAll gs ds δ' P
  | _, _, _, _ => False
def lHs (K : PySem.W.Frag) (T : Tbl) (gs : List TGD) : TGs := fun vs σ H Q => ∃ δ G0 H0 G ds, ∃ P : DE → Prop, Rep K T G0 H0 G H σ δ ∧ RpA K G ds vs ∧ gAll gs ds δ P ∧ ∀ δ' σ' H' G', Same G G' → Rep K T G0 H0 G' H' σ' δ' → δ'.s = δ.s → P δ' → Q σ' H'
/-- xs[k] as a target -/
def gStI (i : Nat) (tk : TD) : TGD := fun d δ P => match δ.sl[i]? with
  | some (.ow xs) => tk δ (fun k => match k with
    | .int j => (match ixN xs.length j with
      | some n => P (δ.set i (.ow (xs.set n d)))
      | none => False)
    | _ => False) noEx
  | _ => False
def tAsgH (gs : List TGD) (r : TDL) : TDS := fun δ Z => r δ (fun ds => ds.length ≤ 100 ∧ ds.length = gs.length ∧ gAll gs ds δ Z.nx) (Z.ex δ.s)
@[simp] theorem e_tAsgH (gs : List TGD) (r : TDL) (δ : DE) (Z : DEnds) : tAsgH gs r δ Z = (r δ (fun ds => ds.length ≤ 100 ∧ ds.length = gs.length ∧ gAll gs ds δ Z.nx) (Z.ex δ.s)) := Eq.trans rfl rfl
@[simp] theorem u_gAll0 (δ : DE) (P : DE → Prop) : gAll [] [] δ P = P δ := Eq.trans rfl rfl
@[simp] theorem u_gAll1 (g : TGD) (gs : List TGD) (d : D) (ds : List D) (δ : DE) (P : DE → Prop) : gAll (g :: gs) (d :: ds) δ P = g d δ fun δ' => gAll gs ds δ' P := Eq.trans rfl rfl
@[simp] theorem u_gStI (i : Nat) (tk : TD) (d : D) (δ : DE) (P : DE → Prop) : gStI i tk d δ P = (match δ.sl[i]? with
  | some (.ow xs) => tk δ (fun k => match k with
    | .int j => (match ixN xs.length j with
      | some n => P (δ.set i (.ow (xs.set n d)))
      | none => False)
    | _ => False) noEx
  | _ => False) := Eq.trans rfl rfl
section
variable {X : Cx} {T : Tbl} {E : XK} {e : Expr} {es ts : List Expr} {pos tpos : Pos} {js : List Nat} {g : TGD} {gs : List TGD} {r : TDL} {tk : TD}
theorem pd_hG (h : PG X e (lG X.K T js g)) : PG X e (lH X.K T g) := pg_imp h fun v σ H Q ⟨δ, G0, H0, G, d, P, R, r, hg, k⟩ => ⟨δ, G0, H0, G, d, P, R, r, hg, fun δ' σ' R' e _ hp => k δ' σ' H G (.refl _) R' e hp⟩
theorem pd_hI (i : Nat) {x : Str} {ix : Expr} {p : Pos} (hi : PE X ix (lR X.K T E tk)) (hN : X.N[i]? = some x := by rfl) (hv : Vis X.env.scope x := by first | exact Or.inl rfl | exact Or.inr (Or.inl rfl) | exact Or.inr (Or.inr rfl)) (hd : (x == ("__debug__" : Str)) = false := by decide) (hcd : (x == ("__classdict__" : Str)) = false := by decide)
    (ha : ∀ v, assign (.Subscript (.Name x p) ix tpos) X.env v = (do
      let whose ← holding [v] (eval (.Name x p) X.env)
      let place ← holding [v, whose] (eval ix X.env)
      standAt tpos
      holding [v, whose, place] (setItem whose place v)
      release [v, whose, place] []) := by intro _; rfl) : PG X (.Subscript (.Name x p) ix tpos) (lH X.K T (gStI i tk)) :=
  pg_imp (pg_sub (pe_var hN hv hd hcd) hi set_list ha) fun v σ H Q ⟨δ, G0, H0, G, d, P, R, r, hg, k⟩ => by
    unfold gStI at hg
    cases e0 : δ.sl[i]? with
    | none =>
      rw [e0] at hg
      exact hg.elim
    | some o =>
      rw [e0] at hg
      cases o with
      | ow xs =>
        obtain ⟨a, us, h1, h2, h3, h4⟩ := rep_ow R e0
        refine ⟨.ref a, h1, δ, G0, H0, G, _, noEx, ⟨R, fun c z => z.elim⟩, hg, fun kd hkd kv H2 g2 rk => ?_⟩
        cases kd with
        | int j =>
          have hkd : (match ixN xs.length j with | some n => P (δ.set i (.ow (xs.set n d))) | none => False) := hkd
          cases q : ixN xs.length j with
          | none =>
            rw [q] at hkd
            exact hkd.elim
          | some n =>
            rw [q] at hkd
            exact ⟨a, us, j, n, rfl, rk, vw_sub _ _ (g2.ex _ _ h4), by rw [h3.len]; exact q, k _ _ _ G (.refl _) (rep_owW (R.gr g2) e0 h1 (h3.set r n)) rfl hkd⟩
        | _ => exact hkd.elim
      | _ => exact hg.elim
theorem pd_h0 : PGs X [] (lHs X.K T []) := pgs_imp pgs_nil fun vs σ H Q ⟨δ, G0, H0, G, ds, P, R, r, h, k⟩ => by
  cases ds with
  | nil => exact ⟨r, k δ σ H G (.refl _) R rfl h⟩
  | cons d ds => exact h.elim
theorem pd_h1 (h1 : PG X e (lH X.K T g)) (h2 : PGs X es (lHs X.K T gs)) (hs : (assignEach (e :: es) X.env).map (·.2) = assign e X.env :: (assignEach es X.env).map (·.2) := by rfl) : PGs X (e :: es) (lHs X.K T (g :: gs)) :=
  pgs_imp (pgs_cons h1 h2 hs) fun vs σ H Q ⟨δ, G0, H0, G, ds, P, R, r, h, k⟩ => by
    cases ds with
    | nil => exact h.elim
    | cons d ds =>
      obtain ⟨v, rs, e, r1, r2⟩ := r
      exact ⟨v, rs, e, δ, G0, H0, G, d, _, R, r1, h, fun δ' σ' H' G' gg R' es hp => ⟨δ', G0, H0, G', ds, P, R', r2.mono gg, hp, fun δ2 σ2 H2 G2 g2 R2 e2 hp2 => k δ2 σ2 H2 G2 (gg.trans g2) R2 (e2.trans es) hp2⟩⟩
theorem pd_asgH {kk k2 n : Nat} {pt p2 : Pos} (hc : X.calm = true) (h : PGs X ts (lHs X.K T gs)) (ha : PA X es (lA X.K T E r)) (hj : gs.length = n := by rfl) (hn : (assignEach ts X.env).length = n := by rfl) (hst : (assignEach ts X.env).findIdx? (·.1) = none := by rfl)
    (hs : swapsWithSole [.Tuple ts kk pt] (.Tuple es k2 p2) pos.line X.env = pure false := by rfl) (hw : swappedStores [.Tuple ts kk pt] (.Tuple es k2 p2) X.env = pure none := by rfl)
    (h1 : (assignEach [.Tuple ts kk pt] X.env).map (·.2) = [assign (.Tuple ts kk pt) X.env] := by rfl) : PS X (.Assign [.Tuple ts kk pt] (.Tuple es k2 p2) pos) (lS X.K T E (tAsgH gs r)) :=
  ps_imp (ps_asg (pe_tup ha) (pg_tup (n := n) hc h hn hst) hs hw h1) fun D σ H ⟨δ, G0, H0, G, Z, R, h0, F⟩ => ⟨δ, G0, H0, G, _, _, F.lv R, h0, fun ds hds vs H' G' x r => by
    obtain ⟨l1, l2, hp⟩ := hds
    have lv := r.len
    refine ⟨by rw [lv]; exact Nat.le_trans l1 (by decide), fun p hp0 => ⟨p, vs, rfl, .inl (.inl upd_same), by rw [lv, l2, hj], ?_⟩⟩
    have R' := R.stp x
    have x2 : Stp T δ.s G' G' H' (upd H' p (.tup vs)) := .of_gr R'.gv (.new hp0)
    exact ⟨δ, G0, H0, G', ds, _, R'.stp x2, r, hp, fun δ' σ' H2 G2 gg R2 e2 hz => F.nx δ' G2 σ' H2 (x.gg.trans gg) R2 hz⟩⟩
end
end Wn

set_option Elab.async false
set_option linter.all false
set_option maxRecDepth 100000
set_option maxHeartbeats 4000000
namespace Wn
open PySem PySem.Spec PyProof.Rows L2
section
variable {P : Program} {w : World} {A : Around} {E : Value → Shared → Prop} {s : Shared} {l S : Addr} {items : Array Value} {ns : List Int}
/-- a set that was just made -/
abbrev bare (w : World) : Obj := { cls := .type "set", dict := none, data := .set #[] 0 (.fresh 0 0 (!w.params.followText "set-order")) }
/-- what a filled set leaves -/
def Filled (w : World) (s s' : Shared) (S : Addr) (ns : List Int) : Prop := ∃ h' tk c, s' = { s with heap := h', toks := tk } ∧ SetR w h' S (fun j => decide (j ∈ ns)) c ∧ c ≤ ns.length ∧ ∀ b o, b ≠ S → s.heap.get? b = some o → h'.get? b = some o
theorem set_fill (calm : A.handled = none) (isl : s.heap.IsList l items) (isn : IntsAre items.toList ns) (few : ns.length + 1 < scanBound) (new : s.heap.get? S = some (bare w)) (ne : l ≠ S) :
    codeAny (model P w) A (.call (.builtin "set.__init__") ⟨[.ref S, .ref l], []⟩) (wants (fun r s' => r = .none ∧ Filled w s s' S ns) E) s := by
  have ty : Shared.TypeIs s (.ref S) "set" := ⟨_, new, rfl⟩
  refine codeAny_call_builtin F.called_set.init.plain F.entry_set_init (check_set_init_1 ty ?_)
  have lS : S < s.heap.objs.size := Heap.lt_size new
  have ll : l < s.heap.objs.size := by
    obtain ⟨o, ho, _⟩ := isl
    exact Heap.lt_size ho
  have size : items.size = ns.length := by
    have q := IntsAre.length isn
    rwa [Array.length_toList] at q
  have at_ : ∀ (i : Nat) (v : Value), items[i]? = some v → ∃ k t, ns[i]? = some k ∧ v = .int k t := fun i v hv => by
    obtain ⟨t, e⟩ := PyProof.Rows.IntsAre.int_at isn i v (by rw [Array.getElem?_toList]; exact hv)
    have lt : i < ns.length := size ▸ (Array.getElem?_eq_some_iff.mp hv).1
    exact ⟨ns[i], t, List.getElem?_eq_getElem lt, by rw [e, List.getD_eq_getElem?_getD, List.getElem?_eq_getElem lt]; rfl⟩
  have isl0 := isl
  obtain ⟨⟨ocls, odict, odata, oslots⟩, hol, hcl, nl, hdl⟩ := isl
  simp only at hcl hdl
  subst hcl hdl
  have f1 := F.sub_list_set
  have f2 := F.sub_list_frozenset
  have f3 : (Value.type "list" == Value.type "dict") = false := by decide
  unfold Builtin.«set.__init__» noKeywords Builtin.Frozenset.updateFrom
  generalize hPI : pyIter = PI
  wp_walk
  subst hPI
  refine wpAny_pyIter_list isl0 (wpAny_bind (wpAny_runValue ?_))
  have out : S ∉ [s.heap.objs.size, l] := by
    simp only [List.mem_cons, List.not_mem_nil, or_false, not_or]
    exact ⟨Nat.ne_of_lt lS, Ne.symm ne⟩
  refine set_update_ints ((Walks.list (by simp [calm]) _ l (Nat.ne_of_lt ll) items).toS) S out ns size few at_ (items.size - 0) 0 _ rfl (Nat.zero_le _) ⟨⟨_, Heap.get?_push_size _ rfl, rfl, rfl⟩, isl0.push _⟩ ⟨0, Nat.le_refl 0, setR_new_at (Heap.get?_push_of_some _ new)⟩ fun s' c mv hc R => ?_
  obtain ⟨h', g', d', tk', os'⟩ := s'
  have e1 : g' = s.gens := mv.gens
  have e2 : d' = s.drawn := mv.drawn
  have e3 : os' = s.os := mv.os
  subst e1 e2 e3
  show wpAny _ _ _ _ _ _
  refine wpAny_pure ?_
  show wpAny _ _ (ret Value.none) _ _ _
  refine wpAny_pure ⟨rfl, h', tk', c, rfl, R, size ▸ hc, fun b o nb hb => mv.heap b o ?_ (Heap.get?_push_of_some _ hb)⟩
  simp only [List.mem_cons, List.not_mem_nil, or_false, not_or]
  exact ⟨nb, Nat.ne_of_lt (Heap.lt_size hb)⟩
theorem set_make {Q : Value → Shared → Prop} (calm : A.handled = none) (isl : s.heap.IsList l items) (isn : IntsAre items.toList ns) (few : ns.length + 1 < scanBound)
    (h : ∀ h' tk c, SetR w h' s.heap.objs.size (fun j => decide (j ∈ ns)) c → c ≤ ns.length → (∀ b o, s.heap.get? b = some o → h'.get? b = some o) → Q (.ref s.heap.objs.size) { s with heap := h', toks := tk }) : wpAny (model P w) A (call (.type "set") [.ref l]) Q E s := by
  obtain ⟨_, _, mro⟩ := F.called_set.mro
  have made := F.called_set.made
  have sub := F.called_set.sub
  have no := F.called_set.notType
  have can := F.called_set.canCreate
  have how := F.typeCall_set_1 (.ref l)
  have ll : l < s.heap.objs.size := by
    obtain ⟨o, ho, _⟩ := isl
    exact Heap.lt_size ho
  refine wpAny_call (codeAny_of_tree ?_)
  show wpAny _ _ (callAny (.type "set") _) _ _ _
  refine wpAny_pure ⟨Code.quiet_builtin _ (by decide +kernel), codeAny_builtin F.entry_type_call ?_⟩
  rw [Around.under_plain (weight_type_call_type "set" [.ref l] []) rfl]
  repeat (any_goals (first | assumption | wp_step))
  refine codeAny_mono (code_set_led1 (.ref l) (E := E) (Q₁ := fun v z => v = .ref s.heap.objs.size ∧ z = { s with heap := s.heap.push (bare w) }) ⟨rfl, rfl⟩) fun r z hr => ?_
  match r, hr with
  | .error _, hr => exact hr
  | .ok (.ret _), hr =>
    obtain ⟨rfl, rfl⟩ := hr
    have made2 : (s.heap.push (bare w)).get? s.heap.objs.size = some (bare w) := Heap.get?_push_size _ rfl
    have ty : Shared.TypeIs { s with heap := s.heap.push (bare w) } (.ref s.heap.objs.size) "set" := ⟨_, made2, rfl⟩
    have look := F.called_set.init.lookup
    have bind := F.called_set.init.bind (.ref s.heap.objs.size)
    repeat (any_goals (first | assumption | wp_step))
    refine codeAny_mono (set_fill (E := E) (s := { s with heap := s.heap.push (bare w) }) (ns := ns) (by simpa using calm) (isl.push _) isn few made2 (Nat.ne_of_lt ll)) fun r z hr => ?_
    match r, hr with
    | .error _, hr => exact hr
    | .ok (.ret _), hr =>
      obtain ⟨rfl, h', tk, c, rfl, R, hc, keep⟩ := hr
      repeat (any_goals (first | assumption | wp_step))
      exact h h' tk c R hc fun b o hb => keep b o (Nat.ne_of_lt (Heap.lt_size hb)) (Heap.get?_push_of_some _ hb)
    | .ok .next, hr => exact hr.elim
    | .ok .brk, hr => exact hr.elim
    | .ok .cont, hr => exact hr.elim
  | .ok .next, hr => exact hr.elim
  | .ok .brk, hr => exact hr.elim
  | .ok .cont, hr => exact hr.elim
end
theorem intsOf_vals : ∀ {ns : List Int} {us : List Value}, Vals (ns.map V.int) us → IntsAre us ns
  | [], _, .nil => .nil
  | n :: ns, _, .cons r t => by
    obtain ⟨tk, e⟩ := r
    rw [e]
    exact .cons n tk (intsOf_vals t)
/-- set(xs), by what stands in the heap -/
def rMkSet (K : PySem.W.Frag) (w : World) : List V → Hp → VK → Prop := fun vs H Q => ∃ (l : Addr) (ns : List Int), vs = [V.ref l] ∧ SqL K H l (ns.map V.int) ∧ ns.length ≤ 4000 ∧ ∀ p c, H p = none → c ≤ ns.length → Q (.ref p) (upd H p (SetO w p (fun j => decide (j ∈ ns)) c))
section
variable {X : Cx}
theorem cr_mkSet (hc : X.calm = true) : CallR X (.type "set") (rMkSet X.K X.w) := by
  intro pins s σ H xs us Q I r h
  obtain ⟨l, ns, rfl, hl, few, q⟩ := h
  rw [Vals.ref1 r]
  obtain ⟨its, rv, pl, hz⟩ := I.list hl
  refine set_make (I.ok.hd hc) pl.isList (ns := ns) (by simpa using intsOf_vals rv) (by unfold scanBound; omega) fun h' tk c R hc2 keep => ?_
  exact ⟨.ref s.heap.objs.size, upd H s.heap.objs.size (SetO X.w s.heap.objs.size (fun j => decide (j ∈ ns)) c), I.laid (t' := tk) keep (Nat.le_refl _) (setO_new R), rfl, q _ c (I.hok.fresh (Nat.le_refl _)) hc2⟩
end
/-- sorted(set(xs)), few ints -/
def dSrtSet (xs : List D) (P : List D → Prop) : Prop := match intsOf xs with
  | some ns => ns.length < 64 ∧ ∀ ms : List Int, ms.Pairwise (· < ·) → (∀ k, k ∈ ms ↔ k ∈ ns) → P (ms.map D.int)
  | none => False
def tSrtSet (tl : TDL) : TDL := fun δ P EP => tl δ (fun xs => dSrtSet xs P) EP
@[simp] theorem e_tSrtSet (tl : TDL) (δ : DE) (P : List D → Prop) (EP : Addr → Prop) : tSrtSet tl δ P EP = (tl δ (fun xs => dSrtSet xs P) EP) := Eq.trans rfl rfl
@[simp] theorem u_dSrtSet (ns : List Int) (P : List D → Prop) : dSrtSet (ns.map D.int) P = (ns.length < 64 ∧ ∀ ms : List Int, ms.Pairwise (· < ·) → (∀ k, k ∈ ms ↔ k ∈ ns) → P (ms.map D.int)) := by
  unfold dSrtSet
  rw [intsOf_map]
section
variable {X : Cx} {T : Tbl} {E : XK} {e : Expr} {p p2 pos pos2 : Pos} {tl : TDL}
theorem pd_srtSet (hc : X.calm = true) (hm1 : X.mg "sorted" = none) (hm2 : X.mg "set" = none) (he : PE X e (lL X.K T E tl)) (hg1 : Gl X "sorted" := by rfl) (hg2 : Gl X "set" := by rfl) (hs1 : starEach [e] X.env = (false, eval e X.env) :: starEach [] X.env := by rfl)
    (hs2 : starEach [.Call (.Name "set" p2) [e] [] pos2] X.env = (false, eval (.Call (.Name "set" p2) [e] [] pos2) X.env) :: starEach [] X.env := by rfl) (hp1 : (backTo pos (starEach [] X.env)).any (·.1) = false := by rfl) (hp2 : (backTo pos2 (starEach [] X.env)).any (·.1) = false := by rfl) :
    PE X (.Call (.Name "sorted" p) [.Call (.Name "set" p2) [e] [] pos2] [] pos) (lN X.K T E (tSrtSet tl)) :=
  pe_imp (pe_callB (cr_sortedSet hc) hg1 hm1 boot_sorted (pa_cons (pe_callTy (cr_mkSet hc) hg2 hm2 PyProof.Rows.boot_set (pa_cons he pa_nil hs1) (by decide) (by decide) hs1 hp2) pa_nil hs2) (by decide) (by decide) hs2 hp1) fun σ H Q ⟨δ, G0, H0, G, P, EP, L, ht, k⟩ => ⟨δ, G0, H0, G, _, EP, L, ht, fun xs hxs a us H1 G1 x1 h1 r1 => by
    unfold dSrtSet at hxs
    cases q : intsOf xs with
    | none =>
      rw [q] at hxs
      exact hxs.elim
    | some ns =>
      rw [q] at hxs
      obtain ⟨few, hP⟩ := hxs
      rw [of_intsOf q] at r1
      rw [r1.ints] at h1
      refine ⟨a, ns, rfl, .of (vw_sub _ _ h1), by omega, fun p c hp hc2 => ⟨p, _, c, rfl, upd_same, by omega, fun ms p3 hpw hmem _ hn => ?_⟩⟩
      have R1 := (L.stp x1).rep
      have g1 : Gr T δ.s H1 (upd H1 p (SetO X.w p (fun j => decide (j ∈ ns)) c)) := .new hp
      have n1 : H1 p3 = none := g1.none_of hn
      have st : Stp T δ.s G G1 H (upd (upd H1 p (SetO X.w p (fun j => decide (j ∈ ns)) c)) p3 (.lst (ms.map V.int))) := x1.trans (.of_gr R1.gv (g1.trans (.new hn)))
      exact k _ (hP ms hpw fun j => by rw [hmem j]; simp) p3 _ _ G1 st (x1.gr.none_of n1) (R1.gnone n1) upd_same (.of_ints ms)⟩
end
end Wn

set_option Elab.async false
set_option linter.all false
set_option maxRecDepth 100000
set_option maxHeartbeats 4000000
namespace Wn
open PySem PySem.Spec PyProof.Rows L2
/-- the masks that come -/
def Msk (m : Nat) : Prop := m = 7 ∨ m = 31 ∨ m = 127 ∨ m = 511
/-- n numbers of the round, from x on -/
def orb (m : Nat) : Nat → Nat → List Nat
  | 0, _ => []
  | n + 1, x => x :: orb m n ((x * 5 + 1) % (m + 1))
theorem mem_orb {m j : Nat} : ∀ (n a : Nat), j ∈ orb m n (lcgN m a) → ∃ b, b < a + n ∧ lcgN m b = j
  | 0, _, h => nomatch h
  | n + 1, a, h => by
    rcases List.mem_cons.mp h with e | h
    · exact ⟨a, by omega, e.symm⟩
    · obtain ⟨b, h1, h2⟩ := mem_orb n (a + 1) h
      exact ⟨b, by omega, h2⟩
def orbB (m : Nat) : Bool := ((List.range (m + 1)).all fun j => (orb m (m + 1) 0).elem j) && lcgN m (m + 1) == 0
theorem orb_7 : orbB 7 = true := by decide +kernel
theorem orb_31 : orbB 31 = true := by decide +kernel
theorem orb_127 : orbB 127 = true := by decide +kernel
theorem orb_511 : orbB 511 = true := by decide +kernel
theorem Msk.orb {m : Nat} (hm : Msk m) : orbB m = true := by
  rcases hm with e | e | e | e <;> subst e
  · exact orb_7
  · exact orb_31
  · exact orb_127
  · exact orb_511
theorem Msk.odd {m : Nat} (hm : Msk m) : m % 2 = 1 := by
  rcases hm with e | e | e | e <;> subst e <;> rfl
theorem Msk.small {m : Nat} (hm : Msk m) : m ≤ 511 := by
  rcases hm with e | e | e | e <;> omega
/-- from each slot the round comes to each -/
theorem Msk.reach {m i j : Nat} (hm : Msk m) (hi : i ≤ m) (hj : j ≤ m) : ∃ k, k ≤ m ∧ lcgI m i k = j := by
  have q := hm.orb
  unfold orbB at q
  rw [Bool.and_eq_true, beq_iff_eq] at q
  have at_ : ∀ x, x ≤ m → ∃ b, b < m + 1 ∧ lcgN m b = x := fun x hx => by
    have z := List.elem_iff.mp (List.all_eq_true.mp q.1 x (List.mem_range.mpr (Nat.lt_succ_of_le hx)))
    obtain ⟨b, h1, h2⟩ := mem_orb (m + 1) 0 z
    exact ⟨b, by omega, h2⟩
  have zero : ∀ c, lcgI m 0 c = lcgN m c := fun c => by
    have z := lcgN_add m 0 c
    rw [Nat.zero_add] at z
    exact z
  obtain ⟨a, ha, rfl⟩ := at_ i hi
  obtain ⟨b, hb, rfl⟩ := at_ j hj
  by_cases c : a ≤ b
  · exact ⟨b - a, by omega, by rw [lcgN_add, Nat.add_sub_cancel' c]⟩
  · refine ⟨(m + 1 - a) + b, by omega, ?_⟩
    rw [lcgN_add, show a + (m + 1 - a + b) = (m + 1) + b by omega, ← lcgN_add, q.2, zero]
theorem Msk.comes {m j : Nat} (hm : Msk m) (h : Int) (hj : j ≤ m) : ∃ n, n ≤ m + 12 ∧ runI m (SetTable.bits h) n = j := by
  obtain ⟨k, hk, e⟩ := hm.reach (runI_le m (SetTable.bits h) 12) hj
  exact ⟨12 + k, by omega, (runI_tail (bits_lt h) k).trans e⟩
theorem way_in {m : Nat} (h : Int) (k : Nat) : way m h k ≤ m := by
  have a : SetTable.bits h % (m + 1) ≤ m := Nat.le_of_lt_succ (Nat.mod_lt _ (Nat.succ_pos m))
  have b := runEnd_bd a
  have c := nth_in (m := m) k (runAt m (SetTable.bits h % (m + 1)) (SetTable.bits h)) (by show SetTable.bits h % (m + 1) + (SetTable.runEnd m (SetTable.bits h % (m + 1)) - SetTable.bits h % (m + 1)) ≤ m; omega)
  exact Nat.le_trans (Nat.le_add_right _ _) c
/-- a table in which each hash's slot is found from the hash -/
structure Spr (t : SetTable) (hs : List Int) : Prop where
  up : Ris t.place.toList
  dm : t.dummies = #[]
  eq : t.place.size = hs.length
  ms : Msk t.mask
  on : ∀ q ∈ hs.zip t.place.toList, ∃ k, way t.mask q.1 k = q.2 ∧ ∀ c, c < k → way t.mask q.1 c ∈ t.place.toList
section
variable {t : SetTable} {hs : List Int}
theorem Spr.len (T : Spr t hs) : t.place.toList.length = hs.length := by
  rw [Array.length_toList, T.eq]
theorem Spr.at (T : Spr t hs) {i j : Nat} {h : Int} (hi : hs[i]? = some h) (hj : t.place.toList[i]? = some j) : ∃ k, way t.mask h k = j ∧ ∀ c, c < k → way t.mask h c ∈ t.place.toList :=
  T.on (h, j) (List.mem_of_getElem? (i := i) (List.getElem?_zip_eq_some.mpr ⟨hi, hj⟩))
/-- the first slot on the way that is free -/
theorem Spr.gap (T : Spr t hs) (room : hs.length ≤ t.mask) (h : Int) : ∃ K, K < 10 * SetTable.turns t.mask ∧ way t.mask h K ∉ t.place.toList ∧ ∀ c, c < K → way t.mask h c ∈ t.place.toList := by
  obtain ⟨j, hj, no⟩ := st_missing t.place.toList (t.mask + 1) (by rw [T.len]; omega)
  obtain ⟨n, hn, e⟩ := T.ms.comes h (Nat.le_of_lt_succ hj)
  obtain ⟨k, hk, e2⟩ := run_nth t.mask (SetTable.bits h) n
  have ek : way t.mask h k = j := by
    show (nth t.mask _ k).j = j
    rw [e2]
    exact e
  obtain ⟨K, a1, a2, a3⟩ := st_least (p := fun c => way t.mask h c ∉ t.place.toList) k (show way t.mask h k ∉ _ by rw [ek]; exact no)
  exact ⟨K, by unfold SetTable.turns; omega, a2, fun c hc => Classical.byContradiction (a3 c hc)⟩
theorem zip_cut {α β : Type} (xs : List α) (ys : List β) (e : ys.length = xs.length) (p : Nat) : xs.zip ys = (xs.take p).zip (ys.take p) ++ (xs.drop p).zip (ys.drop p) := by
  rw [← List.zip_append (by rw [List.length_take, List.length_take, e]), List.take_append_drop, List.take_append_drop]
/-- one more -/
theorem Spr.put (T : Spr t hs) {h : Int} {K : Nat} (hK : way t.mask h K ∉ t.place.toList) (hb : ∀ c, c < K → way t.mask h c ∈ t.place.toList) :
    SetTable.below t.place (way t.mask h K) ≤ hs.length ∧ Spr (t.put (way t.mask h K)).1 (hs.take (SetTable.below t.place (way t.mask h K)) ++ h :: hs.drop (SetTable.below t.place (way t.mask h K))) := by
  obtain ⟨j, ej⟩ : ∃ j, way t.mask h K = j := ⟨_, rfl⟩
  rw [ej] at hK ⊢
  have hp := (below_cut T.up j).1
  have pl := put_place t j
  have no : t.place[SetTable.below t.place j]? ≠ some j := fun e => hK (List.mem_of_getElem? (by rw [Array.getElem?_toList]; exact e))
  have ri : Ris (t.put j).1.place.toList := ris_insert T.up no
  have dm := put_dm T.dm j
  rw [pl] at ri
  generalize SetTable.below t.place j = p at hp pl ri ⊢
  rw [T.eq] at hp
  have more : ∀ {x : Nat}, x ∈ t.place.toList → x ∈ (t.put j).1.place.toList := fun hx => by
    rw [pl]
    exact mem_ins.2 (.inr hx)
  refine ⟨hp, by rw [pl]; exact ri, dm, ?_, T.ms, fun q hq => ?_⟩
  · rw [← Array.length_toList, pl, len_ins _ (by rw [T.len]; exact hp), len_ins _ hp, T.len]
  · show ∃ k, way t.mask q.1 k = q.2 ∧ ∀ c, c < k → way t.mask q.1 c ∈ (t.put j).1.place.toList
    rw [pl, List.zip_append (by rw [List.length_take, List.length_take, T.len]), List.zip_cons_cons, List.mem_append, List.mem_cons] at hq
    have old : q ∈ hs.zip t.place.toList → ∃ k, way t.mask q.1 k = q.2 ∧ ∀ c, c < k → way t.mask q.1 c ∈ (t.put j).1.place.toList := fun z => by
      obtain ⟨k, e, f⟩ := T.on q z
      exact ⟨k, e, fun c hc => more (f c hc)⟩
    rw [zip_cut _ _ T.len p, List.mem_append] at old
    rcases hq with z | z | z
    · exact old (.inl z)
    · rw [z]
      exact ⟨K, ej, fun c hc => more (hb c hc)⟩
    · exact old (.inr z)
end
/-! ### all laid anew -/
theorem own_slot {m : Nat} (hm : Msk m) {done : List Int} {owner : Array (Option Nat)} (W : Own m done owner) (room : done.length ≤ m) (h : Int) :
    ∃ K, SetTable.layClean.free m owner (SetTable.turns m) (SetTable.bits h % (m + 1)) (SetTable.bits h) = some (way m h K) ∧ oAt owner (way m h K) = none ∧ ∀ c, c < K → oAt owner (way m h c) ≠ none := by
  obtain ⟨ps, e1, e2⟩ := W.ps
  obtain ⟨j, hj, no⟩ := st_missing ps (m + 1) (by omega)
  have free : oAt owner j = none := Classical.byContradiction fun z => no (e2 j (Nat.le_of_lt_succ hj) z)
  obtain ⟨n, hn, er⟩ := hm.comes h (Nat.le_of_lt_succ hj)
  have ew : way m h (off m (SetTable.bits h % (m + 1)) (SetTable.bits h) n) = j := by
    show (nth m _ _).j = j
    rw [nth_off, itL_run]
    exact er
  obtain ⟨K, k1, k2, k3⟩ := st_least (p := fun c => oAt owner (way m h c) = none) _ (show oAt owner (way m h _) = none by rw [ew]; exact free)
  refine ⟨K, free_spec m owner _ n _ _ K (by unfold SetTable.turns; omega) k1 (fun c hc => ?_) ?_, k2, k3⟩
  · exact Option.isNone_eq_false_iff.mpr (Option.isSome_iff_ne_none.mpr (k3 c hc))
  · exact Option.isNone_iff_eq_none.mpr k2
theorem own_next {m : Nat} (hm : Msk m) {done : List Int} {owner : Array (Option Nat)} (W : Own m done owner) (room : done.length ≤ m) (h : Int) :
    ∃ j, Own m (done ++ [h]) (owner.setIfInBounds j (some done.length)) ∧ SetTable.layClean.free m owner (SetTable.turns m) (SetTable.bits h % (m + 1)) (SetTable.bits h) = some j := by
  obtain ⟨K, e1, e2, e3⟩ := own_slot hm W room h
  have hw := way_in (m := m) h K
  have here := oAt_set_self (owner := owner) (some done.length) (show way m h K < owner.size by rw [W.sz]; omega)
  have there : ∀ {i}, i ≠ way m h K → oAt (owner.setIfInBounds (way m h K) (some done.length)) i = oAt owner i := fun z => oAt_set_ne _ z
  have stay : ∀ {i}, oAt owner i ≠ none → oAt (owner.setIfInBounds (way m h K) (some done.length)) i ≠ none := fun {i} z => by
    by_cases c : i = way m h K
    · rw [c, here]
      exact Option.some_ne_none _
    · rw [there c]
      exact z
  obtain ⟨ps, p1, p2⟩ := W.ps
  refine ⟨_, ⟨by rw [Array.size_setIfInBounds, W.sz], fun j k hj e => ?_, fun k hk => ?_, way m h K :: ps, by simp [p1], fun j hj z => ?_⟩, e1⟩
  · by_cases c : j = way m h K
    · rw [c, here] at e
      cases e
      exact ⟨h, K, by simp, c.symm, fun c hc => stay (e3 c hc)⟩
    · rw [there c] at e
      obtain ⟨h', K', q1, q2, q3⟩ := W.at_ j k hj e
      exact ⟨h', K', by rw [List.getElem?_append_left (List.getElem?_eq_some_iff.mp q1).1, q1], q2, fun c hc => stay (q3 c hc)⟩
  · rcases Nat.lt_or_ge k done.length with c | c
    · obtain ⟨i, hi, e⟩ := W.all k c
      exact ⟨i, hi, by rw [there (fun z => by rw [z, e2] at e; cases e), e]⟩
    · have ek : k = done.length := by
        rw [List.length_append, List.length_singleton] at hk
        omega
      exact ⟨_, hw, by rw [here, ek]⟩
  · by_cases c : j = way m h K
    · rw [c]
      exact List.mem_cons_self
    · rw [there c] at z
      exact List.mem_cons_of_mem _ (p2 j hj z)
theorem own_rest {m : Nat} (hm : Msk m) : ∀ (rest done : List Int) (owner : Array (Option Nat)), Own m done owner → done.length + rest.length ≤ m →
    ∃ o', rest.foldl (stepF m) (some (owner, done.length)) = some (o', (done ++ rest).length) ∧ Own m (done ++ rest) o'
  | [], done, owner, W, _ => ⟨owner, by simp, by simpa using W⟩
  | h :: rest, done, owner, W, room => by
    rw [List.length_cons] at room
    obtain ⟨j, W1, e⟩ := own_next hm W (by omega) h
    obtain ⟨o', f, W2⟩ := own_rest hm rest (done ++ [h]) _ W1 (by simp; omega)
    rw [List.append_assoc, List.singleton_append] at f W2
    refine ⟨o', ?_, W2⟩
    rw [List.foldl_cons, stepF_some e, ← f, List.length_append, List.length_singleton]
theorem spr_anew (t : SetTable) {hs : Array Int} {wanted M : Nat} (hw : SetTable.sizeAbove wanted - 1 = M) (hm : Msk M) (room : hs.size ≤ M) :
    ∃ t' order, t.relaid hs wanted = some (t', order) ∧ order.toList.Perm (List.range hs.size) ∧ Spr t' (order.toList.map fun i => hs.getD i 0) ∧ t'.mask = M ∧ t'.led = t.led ∧ t'.plain = t.plain := by
  obtain ⟨owner, e, W⟩ := own_rest hm hs.toList [] _ (Own.init M) (by simpa using room)
  rw [List.nil_append] at e W
  have sat := fun j k => mem_live (m := M) (owner := owner) W.sz (j := j) (k := k)
  have cut := ris_live (fun j => owner.getD j none) (List.range (M + 1)) List.pairwise_lt_range
  have nd : ((liveOf M owner).map (·.1)).Nodup := by
    have z : ((liveOf M owner).map (·.1)).Pairwise (· < ·) := cut.1
    exact z.imp fun y => Nat.ne_of_lt y
  obtain ⟨ps, p1, p2⟩ := W.ps
  have n1 : (liveOf M owner).length ≤ hs.size := by
    have z := nat_nodup_len ((liveOf M owner).map (·.1)) ps nd fun x hx => by
      obtain ⟨⟨y, k⟩, hq, rfl⟩ := List.mem_map.mp hx
      have z := (sat y k).1 hq
      exact p2 y z.1 (by rw [z.2]; exact Option.some_ne_none _)
    rw [List.length_map, p1, Array.length_toList] at z
    exact z
  have all : ∀ k, k < hs.size → k ∈ (liveOf M owner).map (·.2) := fun k hk => by
    obtain ⟨j, z⟩ := W.all k (by rw [Array.length_toList]; exact hk)
    exact List.mem_map.mpr ⟨(j, k), (sat j k).2 z, rfl⟩
  have n2 := nat_nodup_len (List.range hs.size) ((liveOf M owner).map (·.2)) List.nodup_range fun k hk => all k (List.mem_range.mp hk)
  rw [List.length_range, List.length_map] at n2
  refine ⟨tabOf t M owner, ((liveOf M owner).map (·.2)).toArray, ?_, ?_, ⟨cut.1, rfl, ?_, hm, fun q hq => ?_⟩, rfl, rfl, rfl⟩
  · rw [relaid_eq, hw, layClean_eq, show (some (Array.replicate (M + 1) none, 0) : Option (Array (Option Nat) × Nat)) = some (Array.replicate (M + 1) none, ([] : List Int).length) from rfl, e] <;> rfl
  · exact perm_range hs.size _ (by simp; omega) all
  · simp [tabOf]
  · have hq : q ∈ (((liveOf M owner).map (·.2)).map fun i => hs.getD i 0).zip ((liveOf M owner).map (·.1)) := hq
    rw [List.map_map, List.zip_map'] at hq
    obtain ⟨⟨y, k⟩, h1, rfl⟩ := List.mem_map.mp hq
    obtain ⟨b1, b2⟩ := (sat y k).1 h1
    obtain ⟨x, K, g1, a2, a3⟩ := W.at_ y k b1 b2
    have e0 : hs.getD k 0 = x := by simp [Array.getD_eq_getD_getElem?, ← Array.getElem?_toList, g1]
    refine ⟨K, ?_, fun c hc => ?_⟩
    · show way M (hs.getD k 0) K = y
      rw [e0, a2]
    · show way M (hs.getD k 0) c ∈ (liveOf M owner).map (·.1)
      rw [e0]
      obtain ⟨k2, z⟩ := Option.ne_none_iff_exists'.mp (a3 c hc)
      exact List.mem_map.mpr ⟨(_, k2), (sat _ k2).2 ⟨way_in _ _, z⟩, rfl⟩
end Wn

set_option Elab.async false
set_option linter.all false
set_option maxRecDepth 100000
set_option maxHeartbeats 4000000
namespace Wn
open PySem PySem.Spec PyProof.Rows L2
abbrev nAt (m : Nat) (h : Int) (c : Nat) : SetTable.Probe := nth m (runAt m (SetTable.bits h % (m + 1)) (SetTable.bits h)) c
theorem nAt_dummy (m : Nat) (h : Int) (c : Nat) : (nAt m h c).dummy = none := by
  have key : ∀ (c : Nat) (p : SetTable.Probe), p.dummy = none → (nth m p c).dummy = none := by
    intro c
    induction c with
    | zero => exact fun p z => z
    | succ c ih =>
      intro p z
      rw [nth_succ]
      have y := ih p z
      unfold adv
      by_cases q : (nth m p c).more > 0
      · rw [if_pos q]
        exact y
      · rw [if_neg q]
        exact y
  exact key c _ rfl
/-- at a stands a set with these entries and this table -/
def SetAt (h : Heap) (a : Addr) (es : Array (Int × Value)) (ep : Nat) (t : SetTable) : Prop := ∃ o, h.get? a = some o ∧ o.ExactSet ∧ o.data = .set es ep t
structure SetB (P : Program) (w : World) (h : Heap) (a : Addr) (L : List (Addr × List Int)) (es : Array (Int × Value)) (ep : Nat) (t : SetTable) : Prop where
  ob : SetAt h a es ep t
  ro : es.toList = rowsOf P w L
  ta : Spr t (L.map fun p => thash P w p.2)
  nd : (L.map (·.2)).Nodup
  tu : ∀ p ∈ L, IsT P w h p.2 p.1
  pl : t.plain = true
  le : w.params.followText "set-order" = true ∨ t.led = true
  rm : L.length * 5 < t.mask * 3
abbrev hashIn (es : Array (Int × Value)) : Nat → Int := fun i => (es[i]?.map (·.1)).getD 0
section
variable {P : Program} {w : World} {A : Around} {E : Value → Shared → Prop} {s : Shared} {h : Heap} {a : Addr} {L : List (Addr × List Int)} {es : Array (Int × Value)} {ep : Nat} {t : SetTable}
theorem rows_len (e : es.toList = rowsOf P w L) : es.size = L.length := by
  have q := congrArg List.length e
  unfold rowsOf at q
  simpa using q
theorem SetB.sz (R : SetB P w h a L es ep t) : es.size = L.length := rows_len R.ro
theorem SetB.ps (R : SetB P w h a L es ep t) : t.place.size = L.length := by simpa using R.ta.eq
theorem fits_of (dm : t.dummies = #[]) {n : Nat} (e : t.place.size = n) (r : n ≤ t.mask) : t.fits n = true := by
  simp [SetTable.fits, SetTable.fill, dm, e, r]
theorem SetB.fi (R : SetB P w h a L es ep t) : t.fits es.size = true := fits_of R.ta.dm (by rw [R.ps, R.sz]) (by have := R.rm; have := R.sz; omega)
theorem SetB.en (R : SetB P w h a L es ep t) {i : Nat} {p : Addr × List Int} (e : L[i]? = some p) : es[i]? = some (thash P w p.2, Value.ref p.1) := by
  rw [← Array.getElem?_toList, R.ro]
  simp [rowsOf, e]
theorem SetB.ha (R : SetB P w h a L es ep t) {i : Nat} {p : Addr × List Int} (e : L[i]? = some p) : hashIn es i = thash P w p.2 := by
  simp [hashIn, R.en e]
theorem SetB.li (R : SetB P w h a L es ep t) {i j : Nat} (e : t.place.toList[i]? = some j) : ∃ p, L[i]? = some p := by
  have z := (List.getElem?_eq_some_iff.mp e).1
  rw [Array.length_toList, R.ps] at z
  exact ⟨_, List.getElem?_eq_getElem z⟩
/-- what a probe from the c-th step meets, the K-th being free -/
theorem SetB.probe (R : SetB P w h a L es ep t) {k : List Int} {K : Nat} (hf : K < 10 * SetTable.turns t.mask) (hK : way t.mask (thash P w k) K ∉ t.place.toList) (hb : ∀ c, c < K → way t.mask (thash P w k) c ∈ t.place.toList) {c : Nat} (hc : c ≤ K) :
    (∃ (d i : Nat) (p : Addr × List Int), c ≤ d ∧ d < K ∧ L[i]? = some p ∧ t.place.toList[i]? = some (way t.mask (thash P w k) d) ∧ (∀ (d' i' : Nat) (p' : Addr × List Int), c ≤ d' → d' < d → t.place.toList[i']? = some (way t.mask (thash P w k) d') → L[i']? = some p' → p'.2 ≠ k) ∧
      t.probe (hashIn es) (thash P w k) (nAt t.mask (thash P w k) c) = some (.candidate (way t.mask (thash P w k) d) i (nAt t.mask (thash P w k) (d + 1)))) ∨
    ((∀ (d' i' : Nat) (p' : Addr × List Int), c ≤ d' → d' < K → t.place.toList[i']? = some (way t.mask (thash P w k) d') → L[i']? = some p' → p'.2 ≠ k) ∧ t.probe (hashIn es) (thash P w k) (nAt t.mask (thash P w k) c) = some (.empty (way t.mask (thash P w k) K) none)) := by
  have sh : ∀ q, nth t.mask (nAt t.mask (thash P w k) c) q = nAt t.mask (thash P w k) (c + q) := fun q => (nth_add t.mask c _ q).symm
  have back : ∀ d, c ≤ d → nAt t.mask (thash P w k) d = nth t.mask (nAt t.mask (thash P w k) c) (d - c) := fun d hd => by rw [sh, Nat.add_sub_cancel' hd]
  have not : ∀ {d' i' : Nat} {p' : Addr × List Int} {D : Nat}, (∀ k' i', k' < D - c → t.place.toList[i']? = some (nth t.mask (nAt t.mask (thash P w k) c) k').j → hashIn es i' ≠ thash P w k) → c ≤ d' → d' < D → t.place.toList[i']? = some (way t.mask (thash P w k) d') → L[i']? = some p' → p'.2 ≠ k :=
    fun {d' i' p' D} no h1 h2 h3 h4 z => no (d' - c) i' (by omega) (by rw [h3]; exact congrArg some (congrArg SetTable.Probe.j (back d' h1))) ((R.ha h4).trans (by rw [z]))
  rcases go_spec t R.ta.up R.ta.dm (hashIn es) (thash P w k) (10 * SetTable.turns t.mask) (K - c) (nAt t.mask (thash P w k) c) (nAt_dummy _ _ _) (by omega)
    (fun q hq => by rw [sh]; exact hb (c + q) (by omega)) (by rw [← back K hc]; exact hK) with ⟨q, i, q1, q2, q3, q4, q5⟩ | ⟨q4, q5⟩
  · rw [sh] at q2 q5
    obtain ⟨p, hp⟩ := R.li q2
    refine .inl ⟨c + q, i, p, by omega, by omega, hp, q2, fun d' i' p' h1 h2 h3 h4 => not (D := c + q) (fun k' i' hk hi => q4 k' i' (by omega) hi) h1 h2 h3 h4, ?_⟩
    rw [sh] at q5
    exact q5
  · rw [← back K hc] at q5
    exact .inr ⟨fun d' i' p' h1 h2 h3 h4 => not q4 h1 h2 h3 h4, q5⟩
theorem SetB.seek (R : SetB P w s.heap a L es ep t) {x : Addr} {k : List Int} (hx : IsT P w s.heap k x) (hu : A.units < cLine) {K : Nat} (hf : K < 10 * SetTable.turns t.mask) (hK : way t.mask (thash P w k) K ∉ t.place.toList) (hb : ∀ c, c < K → way t.mask (thash P w k) c ∈ t.place.toList)
    {Q : SetFound → Shared → Prop} (yes : k ∈ L.map (·.2) → Q (.there none) s) (no : k ∉ L.map (·.2) → Q (.free (way t.mask (thash P w k) K) false) s) : ∀ (f c : Nat) (st : Option SetTable.Probe), st.getD (t.probeStart (thash P w k)) = nAt t.mask (thash P w k) c → c ≤ K → K < c + f →
      (∀ (i : Nat) p, L[i]? = some p → p.2 = k → ∃ d, c ≤ d ∧ d < K ∧ t.place.toList[i]? = some (way t.mask (thash P w k) d)) → wpAny (model P w) A (setSearchFrom a (.ref x) (thash P w k) true f st) Q E s
  | 0, c, st, _, h1, h2, _ => absurd h2 (by omega)
  | f + 1, c, st, est, h1, h2, ahead => by
    obtain ⟨o, ho, _, hd⟩ := R.ob
    rw [setSearchFrom_succ]
    refine wpAny_bind (wpAny_setState_of ho hd R.fi ?_)
    dsimp only
    refine wp_if_neg (by simp [SetTable.gaveWay, R.ta.ms.odd]) ?_
    try refine wpAny_bind (wpAny_pure ?_)
    rw [est]
    rcases R.probe hf hK hb h1 with ⟨d, i, p, d1, d2, d3, d4, d5, d6⟩ | ⟨d5, d6⟩
    · unfold hashIn at d6
      rw [d6]
      dsimp only
      have pm := List.mem_of_getElem? d3
      have sl : t.slot (way t.mask (thash P w k) d) = .live i := slot_live R.ta.up d4
      have rest : wpAny (model P w) A (searchRest a (.ref x) (thash P w k) true f es t (way t.mask (thash P w k) d) i (nAt t.mask (thash P w k) (d + 1))) Q E s := by
        unfold searchRest
        rw [R.en d3]
        dsimp only
        refine wpAny_bind (wpAny_holding (wpAny_eqBool_tuple hu (R.tu p pm) hx (wpAny_bind (wpAny_setState_of ho hd R.fi ?_))))
        by_cases e : p.2 = k
        · simp only [e, decide_true, Bool.and_true, if_true]
          exact wpAny_pure (yes (List.mem_map.mpr ⟨p, pm, e⟩))
        · simp only [e, decide_false, Bool.and_false, Bool.false_eq_true, if_false]
          try refine wpAny_bind (wpAny_pure ?_)
          rw [sameMem]
          simp only [if_true, sl, R.en d3]
          refine wpAny_bind (wpAny_isSame_ref_self (wpAny_bind (wpAny_pure ?_)))
          simp only [if_true]
          refine R.seek hx hu hf hK hb yes no f (d + 1) _ rfl (by omega) (by omega) fun i' p' e1 e2 => ?_
          obtain ⟨d', b1, b2, b3⟩ := ahead i' p' e1 e2
          refine ⟨d', ?_, b2, b3⟩
          rcases Nat.lt_trichotomy d' d with z | z | z
          · exact absurd e2 (d5 d' i' p' b1 z b3 e1)
          · rw [z] at b3
            have y := (slot_live R.ta.up b3).symm.trans sl
            cases y
            rw [d3] at e1
            cases e1
            exact absurd e2 e
          · omega
      by_cases l : t.led = true
      · simp only [l, Bool.not_true, Bool.false_eq_true, if_false]
        try refine wpAny_bind (wpAny_pure ?_)
        exact rest
      · simp only [l, Bool.not_false, if_true]
        refine wpAny_bind (seen_tup hx (fun y hy => ?_) ?_)
        · obtain ⟨e, he, ee⟩ := List.mem_map.mp hy
          have z : e ∈ es.toList := by
            simp only [Array.toList_filter, List.mem_filter] at he
            exact he.1
          rw [R.ro] at z
          obtain ⟨p2, hp, e2⟩ := List.mem_map.mp z
          exact ⟨p2.2, p2.1, by rw [← ee, ← e2], R.tu p2 hp⟩
        · simp only [Bool.false_eq_true, if_false]
          try refine wpAny_bind (wpAny_pure ?_)
          exact rest
    · unfold hashIn at d6
      rw [d6]
      dsimp only
      refine wpAny_pure (no fun z => ?_)
      obtain ⟨p, hp, e⟩ := List.mem_map.mp z
      obtain ⟨i, hi, ei⟩ := List.getElem_of_mem hp
      have q : L[i]? = some p := by rw [List.getElem?_eq_getElem hi, ei]
      obtain ⟨d', b1, b2, b3⟩ := ahead i p q e
      exact d5 d' i p b1 b2 b3 q e
theorem SetB.ask (R : SetB P w s.heap a L es ep t) {x : Addr} {k : List Int} (hx : IsT P w s.heap k x) (hu : A.units < cLine) {Q : SetFound → Shared → Prop} (yes : k ∈ L.map (·.2) → Q (.there none) s)
    (no : ∀ K, k ∉ L.map (·.2) → way t.mask (thash P w k) K ∉ t.place.toList → (∀ c, c < K → way t.mask (thash P w k) c ∈ t.place.toList) → Q (.free (way t.mask (thash P w k) K) false) s) : wpAny (model P w) A (setSearch a (.ref x) (thash P w k) true) Q E s := by
  obtain ⟨K, h1, h2, h3⟩ := R.ta.gap (by have := R.rm; simp; omega) (thash P w k)
  have big : K < 100000 := by
    have := R.ta.ms.small
    unfold SetTable.turns at h1
    omega
  refine R.seek hx hu h1 h2 h3 yes (fun z => no K z h2 h3) 100000 0 none rfl (Nat.zero_le _) (by omega) fun i p e1 e2 => ?_
  have hl : i < t.place.toList.length := by
    have := (List.getElem?_eq_some_iff.mp e1).1
    rw [Array.length_toList, R.ps]
    exact this
  have hj := List.getElem?_eq_getElem hl
  obtain ⟨d, e, f⟩ := R.ta.at (h := thash P w k) (by rw [List.getElem?_map, e1, ← e2]; rfl) hj
  refine ⟨d, Nat.zero_le _, Nat.lt_of_not_le fun z => ?_, by rw [hj, e]⟩
  rcases Nat.lt_or_eq_of_le z with z | z
  · exact h2 (f K z)
  · rw [z, e] at h2
    exact h2 (List.getElem_mem hl)
end
end Wn

set_option Elab.async false
set_option linter.all false
set_option maxRecDepth 100000
set_option maxHeartbeats 4000000
namespace Wn
open PySem PySem.Spec PyProof.Rows L2
section
variable {P : Program} {w : World} {A : Around} {E : Value → Shared → Prop} {s : Shared} {h : Heap} {a : Addr} {L : List (Addr × List Int)} {es : Array (Int × Value)} {ep : Nat} {t : SetTable}
/-- what a set's object and its table are, but for the room -/
structure SetG (P : Program) (w : World) (h : Heap) (a : Addr) (L : List (Addr × List Int)) (es : Array (Int × Value)) (ep : Nat) (t : SetTable) : Prop where
  ob : SetAt h a es ep t
  ro : es.toList = rowsOf P w L
  ta : Spr t (L.map fun p => thash P w p.2)
  nd : (L.map (·.2)).Nodup
  tu : ∀ p ∈ L, IsT P w h p.2 p.1
  pl : t.plain = true
  le : w.params.followText "set-order" = true ∨ t.led = true
theorem SetG.b (R : SetG P w h a L es ep t) (r : L.length * 5 < t.mask * 3) : SetB P w h a L es ep t := ⟨R.ob, R.ro, R.ta, R.nd, R.tu, R.pl, R.le, r⟩
theorem SetG.grow (R : SetG P w s.heap a L es ep t) (fl : L.length ≤ t.mask) {wanted M : Nat} (hw : SetTable.sizeAbove wanted - 1 = M) (hm : Msk M) (big : SetTable.sizeAbove wanted ≤ 512) (room : L.length * 5 < M * 3) {Q : Unit → Shared → Prop}
    (q : ∀ h' L' es' ep' t', Heap.SameBut a s.heap h' → SetB P w h' a L' es' ep' t' → L'.Perm L → Q () { s with heap := h' }) : wpAny (model P w) A (setRelay a wanted) Q E s := by
  obtain ⟨o, ho, xs, hd⟩ := R.ob
  have sz := rows_len R.ro
  have ps : t.place.size = L.length := by simpa using R.ta.eq
  obtain ⟨t2, order, e1, e2, T2, e3, e4, e5⟩ := spr_anew t (hs := es.map (·.1)) hw hm (by rw [Array.size_map, sz]; omega)
  rw [Array.size_map, sz] at e2
  obtain ⟨L2, r1, r2, r3⟩ := order_rows L es order R.ro e2
  rw [← r3] at T2
  have sz2 := (rows_len r1).trans r2.length_eq
  rw [setRelay_eq]
  refine wpAny_bind (wpAny_setState_of ho hd (fits_of R.ta.dm (by rw [ps, sz]) (by rw [sz]; exact fl)) ?_)
  dsimp only
  refine wp_if_neg (by rw [sizeLine_eq]; omega) ?_
  try refine wpAny_bind (wpAny_pure ?_)
  rw [e1]
  dsimp only
  refine wpAny_bind (wp_if_neg (by rw [sz2, sz]; simp) ?_)
  try refine wpAny_bind (wpAny_pure ?_)
  refine wpAny_pure (wpAny_storeSet_of ho hd ?_ (by rw [sz2, sizeLine_eq]; have := hm.small; omega))
  have keep : Heap.SameBut a s.heap (s.heap.update a (Obj.putSet (order.filterMap (es[·]?)) t2)) := Heap.SameBut.update ..
  refine q _ L2 _ (ep + 1) t2 keep ⟨⟨_, store_at ho hd, ⟨xs.1, xs.2.1, xs.2.2⟩, rfl⟩, r1, T2, (r2.map (·.2)).nodup_iff.mpr R.nd, fun p hp => isT_same (R.tu p (r2.mem_iff.mp hp)) ho hd keep, e5.trans R.pl, by rw [e4]; exact R.le, ?_⟩ r2
  rw [r2.length_eq, e3]
  exact room
theorem grown_5 : SetTable.sizeAbove (SetTable.grown (4 + 1)) = 32 := by decide +kernel
theorem grown_19 : SetTable.sizeAbove (SetTable.grown (18 + 1)) = 128 := by decide +kernel
theorem grown_77 : SetTable.sizeAbove (SetTable.grown (76 + 1)) = 512 := by decide +kernel
theorem grows {m n : Nat} (hm : Msk m) (r : n * 5 < m * 3) (full : m * 3 ≤ (n + 1) * 5) (few : n < 300) : ∃ M, SetTable.sizeAbove (SetTable.grown (n + 1)) - 1 = M ∧ Msk M ∧ SetTable.sizeAbove (SetTable.grown (n + 1)) ≤ 512 ∧ (n + 1) * 5 < M * 3 := by
  rcases hm with e | e | e | e
  · have : n = 4 := by omega
    subst this
    rw [grown_5]
    exact ⟨_, rfl, .inr (.inl rfl), by omega, by omega⟩
  · have : n = 18 := by omega
    subst this
    rw [grown_19]
    exact ⟨_, rfl, .inr (.inr (.inl rfl)), by omega, by omega⟩
  · have : n = 76 := by omega
    subst this
    rw [grown_77]
    exact ⟨_, rfl, .inr (.inr (.inr rfl)), by omega, by omega⟩
  · omega
/-- what the set holds once k at x was put in -/
def Took (L L' : List (Addr × List Int)) (x : Addr) (k : List Int) : Prop := (k ∈ L.map (·.2) ∧ L' = L) ∨ (k ∉ L.map (·.2) ∧ L'.Perm ((x, k) :: L))
theorem SetB.take (R : SetB P w s.heap a L es ep t) {x : Addr} {k : List Int} (hx : IsT P w s.heap k x) (hu : A.units < cLine) (few : L.length < 300) {Q : Bool → Shared → Prop}
    (q : ∀ b h' L' es' ep' t', Heap.SameBut a s.heap h' → SetB P w h' a L' es' ep' t' → Took L L' x k → Q b { s with heap := h' }) : wpAny (model P w) A (setAddHashed a (.ref x) (thash P w k)) Q E s := by
  obtain ⟨o, ho, xs, hd⟩ := R.ob
  have rm := R.rm
  have sm := R.ta.ms.small
  unfold setAddHashed
  refine wpAny_holding ?_
  rw [show (100000 : Nat) = 99999 + 1 from rfl, setAddHashedIn_succ]
  refine wpAny_bind (wpAny_setState_of ho hd R.fi ?_)
  dsimp only
  refine wp_if_neg (by simp [byScan, Value.scannable]) ?_
  try refine wpAny_bind (wpAny_pure ?_)
  refine wpAny_bind (R.ask hx hu (fun m => ?_) fun K m hK hb => ?_)
  · exact wpAny_pure (q false _ L es ep t (Heap.SameBut.refl ..) R (.inl ⟨m, rfl⟩))
  dsimp only
  refine wpAny_bind (wpAny_setState_of ho hd R.fi ?_)
  dsimp only
  obtain ⟨hp, T1⟩ := R.ta.put hK hb
  have m1 : (t.put (way t.mask (thash P w k) K)).1.mask = t.mask := rfl
  have p1 : (t.put (way t.mask (thash P w k) K)).1.plain = true := R.pl
  have l1 : w.params.followText "set-order" = true ∨ (t.put (way t.mask (thash P w k) K)).1.led = true := R.le
  have at1 : (t.put (way t.mask (thash P w k) K)).2 = SetTable.below t.place (way t.mask (thash P w k) K) := rfl
  generalize t.put (way t.mask (thash P w k) K) = tp at T1 m1 p1 l1 at1 ⊢
  obtain ⟨t1, p⟩ := tp
  dsimp only at T1 m1 p1 l1 at1 ⊢
  rw [← at1] at hp T1
  first
    | refine wpAny_bind (wp_if_pos p1 (hashBy_tup hx ?_))
    | refine wp_if_pos p1 (wpAny_bind (hashBy_tup hx ?_))
  simp only [if_true]
  have ro1 : (SetTable.insertAt es p (thash P w k, Value.ref x)).toList = rowsOf P w (L.take p ++ (x, k) :: L.drop p) := by
    rw [SetTable.toList_insertAt, rows_put, R.ro]
  have pm : (L.take p ++ (x, k) :: L.drop p).Perm ((x, k) :: L) := put_perm ..
  have T1 : Spr t1 ((L.take p ++ (x, k) :: L.drop p).map fun p => thash P w p.2) := by
    rw [List.map_append, List.map_cons, List.map_take, List.map_drop]
    exact T1
  generalize SetTable.insertAt es p (thash P w k, Value.ref x) = es1 at ro1 ⊢
  generalize L.take p ++ (x, k) :: L.drop p = L1 at pm T1 ro1
  have n1 : L1.length = L.length + 1 := pm.length_eq
  have z1 := (rows_len ro1).trans n1
  refine wpAny_bind (wpAny_storeSet_of ho hd ?_ (by rw [z1, sizeLine_eq]; omega))
  have keep : Heap.SameBut a s.heap (s.heap.update a (Obj.putSet es1 t1)) := Heap.SameBut.update ..
  have G : SetG P w (s.heap.update a (Obj.putSet es1 t1)) a L1 es1 (ep + 1) t1 := ⟨⟨_, store_at ho hd, ⟨xs.1, xs.2.1, xs.2.2⟩, rfl⟩, ro1, T1, (pm.map (·.2)).nodup_iff.mpr (by rw [List.map_cons]; exact List.nodup_cons.mpr ⟨m, R.nd⟩), fun p hp => by
    rcases List.mem_cons.mp (pm.mem_iff.mp hp) with e | e
    · rw [e]
      exact isT_same hx ho hd keep
    · exact isT_same (R.tu p e) ho hd keep, p1, l1⟩
  generalize s.heap.update a (Obj.putSet es1 t1) = h1 at keep G ⊢
  have fill : t1.fill = L.length + 1 := by
    simp [SetTable.fill, T1.dm, T1.eq, n1]
  have done : Took L L1 x k := .inr ⟨m, pm⟩
  by_cases full : t1.tooFull = true
  · have fl : t.mask * 3 ≤ (L.length + 1) * 5 := by
      simpa [SetTable.tooFull, fill, m1] using full
    obtain ⟨M, g1, g2, g3, g4⟩ := grows R.ta.ms rm fl few
    have go : wpAny (model P w) A (setRelay a (SetTable.grown (L.length + 1))) (fun _ s' => wpAny (model P w) A (pure true) Q E s') E { s with heap := h1 } :=
      SetG.grow (s := { s with heap := h1 }) G (by rw [n1, m1]; omega) g1 g2 g3 (by rw [n1]; exact g4) fun h2 L2 es2 ep2 t2 keep2 R2 pm2 => wpAny_pure (q true h2 L2 es2 ep2 t2 (keep.trans keep2) R2 (.inr ⟨m, pm2.trans pm⟩))
    rw [R.sz]
    first
      | exact wpAny_bind (wp_if_pos (by simp [full]) go)
      | exact wp_if_pos (by simp [full]) (wpAny_bind go)
  · have room : L1.length * 5 < t1.mask * 3 := by
      have z : ¬ (t1.mask * 3 ≤ (L.length + 1) * 5) := by simpa [SetTable.tooFull, fill] using full
      omega
    have fin := wpAny_pure (M := model P w) (A := A) (E := E) (a := true) (Q := Q) (q true h1 L1 es1 (ep + 1) t1 keep (G.b room) done)
    first
      | exact wp_if_neg (by simp [full]) fin
      | exact wpAny_bind (wp_if_neg (by simp [full]) (wpAny_pure fin))
end
end Wn

set_option Elab.async false
set_option linter.all false
set_option maxRecDepth 100000
set_option maxHeartbeats 4000000
namespace Wn
open PySem PySem.Spec PyProof.Rows L2
/-- what stands in h0 stands in h -/
abbrev Ext (h0 h : Heap) : Prop := ∀ b o, h0.get? b = some o → h.get? b = some o
section
variable {P : Program} {w : World} {A : Around} {E : Value → Shared → Prop} {s : Shared} {h h' : Heap} {a : Addr} {L : List (Addr × List Int)} {es : Array (Int × Value)} {ep : Nat} {t : SetTable}
theorem SetB.ext (R : SetB P w h a L es ep t) (ha : ∀ o, h.get? a = some o → h'.get? a = some o) (ht : ∀ p ∈ L, IsT P w h' p.2 p.1) : SetB P w h' a L es ep t := by
  obtain ⟨o, ho, r⟩ := R.ob
  exact ⟨⟨o, ha o ho, r⟩, R.ro, R.ta, R.nd, ht, R.pl, R.le, R.rm⟩
theorem setB_new (ho : h.get? a = some (bare w)) : SetB P w h a [] #[] 0 (.fresh 0 0 (!w.params.followText "set-order")) where
  ob := ⟨_, ho, ⟨rfl, rfl, rfl⟩, rfl⟩
  ro := rfl
  ta := ⟨List.Pairwise.nil, rfl, rfl, .inl rfl, fun q z => nomatch z⟩
  nd := List.nodup_nil
  tu := fun p z => nomatch z
  pl := rfl
  le := by
    cases e : w.params.followText "set-order" with
    | true => exact .inl rfl
    | false => exact .inr rfl
  rm := by
    show 0 * 5 < 7 * 3
    decide
theorem Got.took {ks L L' : List (Addr × List Int)} {i : Nat} {x : Addr × List Int} (g : Got ks i L) (e : ks[i]? = some x) (h : Took L L' x.1 x.2) : Got ks (i + 1) L' := by
  rcases h with ⟨h, rfl⟩ | ⟨_, h⟩
  · exact g.same e h
  · exact g.more e h
theorem tups_in {I S : Addr} {fp wr : List Addr} {G : Array GenState → Array GenState → Prop} {n : Nat} {Pv : Nat → Value → Prop} {St : Nat → Shared → Prop} {R : Result → Shared → Prop} (W : WalksS P w A.in1 I fp wr G n Pv St) {h0 : Heap} {ks : List (Addr × List Int)}
    (sf : S ∉ fp) (val : ∀ i v, Pv i v → ∃ p, ks[i]? = some p ∧ v = .ref p.1) (hk : ∀ p ∈ ks, IsT P w h0 p.2 p.1) (nS : h0.get? S = none) (nw : ∀ b ∈ wr, h0.get? b = none) (few : n ≤ 300) (hu : A.in1.units < cLine) :
    ∀ (k i : Nat) (s : Shared), i + k = n → St i s → Ext h0 s.heap → (∃ L es ep t, SetB P w s.heap S L es ep t ∧ Got ks i L) →
      (∀ s' L es ep t, Moved (S :: wr) G s s' → SetB P w s'.heap S L es ep t → Got ks n L → R (.ok (.ret .none)) s') → codeAny (model P w) A (.builtin "set.update.loop" ⟨[.ref S, .ref I], []⟩) R s := by
  have sw : S ∉ wr := fun z => sf (W.sub _ z)
  have up : ∀ {b}, b ∈ wr → b ∈ S :: wr := fun z => List.mem_cons_of_mem _ z
  have keep : ∀ {s s' : Shared}, Moved wr G s s' → Ext h0 s.heap → Ext h0 s'.heap := fun m x b o e => m.heap b o (fun z => by rw [nw b z] at e; cases e) (x b o e)
  have hold : ∀ {s s' : Shared} {i L es ep t}, Moved wr G s s' → Ext h0 s.heap → Got ks i L → SetB P w s.heap S L es ep t → SetB P w s'.heap S L es ep t := fun m x g B => B.ext (fun o => m.heap S o sw) fun p hp => isT_keep (hk p (List.mem_of_mem_take (g.sub p hp))) (keep m x)
  intro k
  induction k with
  | zero =>
    intro i s e st x ⟨L, es, ep, t, B, g⟩ fin
    obtain rfl : i = n := e
    refine codeAny_builtin F.entry_set_update_loop ?_
    rw [Around.under_plainId F.plain_set_update_loop _]
    refine wpAny_bind (m := pyNext (.ref I)) (W.done s _ _ st fun s' m => ?_)
    show wpAny _ _ (ret Value.none) _ _ _
    exact wpAny_pure (fin s' L es ep t (m.mono fun b => up) (hold m x g B) g)
  | succ k ih =>
    intro i s e st x ⟨L, es, ep, t, B, g⟩ fin
    refine codeAny_builtin F.entry_set_update_loop ?_
    rw [Around.under_plainId F.plain_set_update_loop _]
    refine wpAny_bind (m := pyNext (.ref I)) (W.item i s _ _ (by omega) st fun v s1 pv st1 m => ?_)
    obtain ⟨p, hp, rfl⟩ := val i v pv
    have x1 := keep m x
    have tp : IsT P w s1.heap p.2 p.1 := isT_keep (hk p (List.mem_of_getElem? hp)) x1
    refine wpAny_bind (m := holding [Value.ref p.1] (setAdd S (.ref p.1))) (wpAny_holding ?_)
    unfold setAdd
    refine wpAny_holding (wpAny_bind (wpAny_pyHash_tuple hu tp ?_))
    refine SetB.take (s := { s1 with toks := s1.toks + (p.2.length + 1) }) (show SetB P w s1.heap S L es ep t from hold m x g B) tp hu (by have := g.len; omega) fun b h2 L2 es2 ep2 t2 sb B2 tk => ?_
    have x2 : Ext h0 h2 := fun b o e => (sb.2 b (fun z => by rw [z, nS] at e; cases e)).trans (x1 b o e)
    have ne : ∀ {b}, b ∈ fp → b ≠ S := fun z y => sf (y ▸ z)
    refine wpAny_pure ⟨plainId_quiet F.plain_set_update_loop _, ih (i + 1) _ (by omega) (W.frame _ s1 _ _ st1 (Nat.le_add_right _ _) fun b hb o e => (sb.2 b (ne hb)).trans e) x2 ⟨L2, es2, ep2, t2, B2, Got.took g hp tk⟩ fun s3 L3 es3 ep3 t3 m3 B3 g3 => ?_⟩
    refine fin s3 L3 es3 ep3 t3 (Moved.trans W.gtrans ((m.mono fun b => up).then_heap (Nat.le_add_right _ _) fun b o hb e => ?_) m3) B3 g3
    exact (sb.2 b fun z => hb (by rw [z]; exact List.mem_cons_self)).trans e
/-- what set.__init__ leaves -/
def FullT (P : Program) (w : World) (s s' : Shared) (S : Addr) (ks : List (Addr × List Int)) : Prop := ∃ h' tk L es ep t, s' = { s with heap := h', toks := tk } ∧ SetB P w h' S L es ep t ∧ Got ks ks.length L ∧ ∀ b o, b ≠ S → s.heap.get? b = some o → h'.get? b = some o
variable {l S : Addr} {items : Array Value} {ks : List (Addr × List Int)}
theorem setT_fill {s0 : Shared} (calm : A.handled = none) (isl : s0.heap.IsList l items) (ist : items.toList = ks.map fun p => Value.ref p.1) (hk : ∀ p ∈ ks, IsT P w s0.heap p.2 p.1) (few : ks.length ≤ 300) (hu : A.units + 3 < cLine)
    (eS : S = s0.heap.objs.size) (es0 : s = { s0 with heap := s0.heap.push (bare w) }) : codeAny (model P w) A (.call (.builtin "set.__init__") ⟨[.ref S, .ref l], []⟩) (wants (fun r s' => r = .none ∧ FullT P w s s' S ks) E) s := by
  subst eS es0
  have new : (s0.heap.push (bare w)).get? s0.heap.objs.size = some (bare w) := Heap.get?_push_size _ rfl
  have ty : Shared.TypeIs { s0 with heap := s0.heap.push (bare w) } (.ref s0.heap.objs.size) "set" := ⟨_, new, rfl⟩
  refine codeAny_call_builtin F.called_set.init.plain F.entry_set_init (check_set_init_1 ty ?_)
  have ll : l < s0.heap.objs.size := by
    obtain ⟨o, ho, _⟩ := isl
    exact Heap.lt_size ho
  have size : items.size = ks.length := by
    have q := congrArg List.length ist
    simpa using q
  have isl1 : (s0.heap.push (bare w)).IsList l items := isl.push _
  have isl0 := isl1
  obtain ⟨⟨ocls, odict, odata, oslots⟩, hol, hcl, nl, hdl⟩ := isl1
  simp only at hcl hdl
  subst hcl hdl
  have f1 := F.sub_list_set
  have f2 := F.sub_list_frozenset
  have f3 : (Value.type "list" == Value.type "dict") = false := by decide
  unfold Builtin.«set.__init__» noKeywords Builtin.Frozenset.updateFrom
  generalize hPI : pyIter = PI
  wp_walk
  subst hPI
  have z1 : (s0.heap.push (bare w)).objs.size = s0.heap.objs.size + 1 := Heap.size_push ..
  have apart : l ≠ (s0.heap.push (bare w)).objs.size := by
    rw [z1]
    exact Nat.ne_of_lt (Nat.lt_succ_of_lt ll)
  have free : ∀ b, s0.heap.objs.size ≤ b → s0.heap.get? b = none := fun b hb => by
    cases q : s0.heap.get? b with
    | none => rfl
    | some o => exact absurd (Heap.lt_size q) (Nat.not_lt_of_le hb)
  refine wpAny_pyIter_list isl0 (wpAny_bind (wpAny_runValue ?_))
  refine tups_in (h0 := s0.heap) (ks := ks) ((Walks.list (by simp [calm]) _ l apart items).toS) ?_ (fun i v hv => ?_) hk (free _ (Nat.le_refl _)) (fun b hb => free b ?_) (by rw [size]; exact few) (Nat.lt_of_succ_lt hu) items.size 0 _ (Nat.zero_add _) ⟨⟨_, Heap.get?_push_size _ rfl, rfl, rfl⟩, isl0.push _⟩ (fun b o e => Heap.get?_push_of_some _ (Heap.get?_push_of_some _ e)) ⟨[], #[], 0, _, setB_new (Heap.get?_push_of_some _ new), Got.zero ks⟩ fun s' L es ep t mv B g => ?_
  · simp only [List.mem_cons, List.not_mem_nil, or_false, not_or]
    exact ⟨by rw [z1]; exact Nat.ne_of_lt (Nat.lt_succ_self _), Ne.symm (Nat.ne_of_lt ll)⟩
  · have q : items.toList[i]? = some v := by rw [Array.getElem?_toList]; exact hv
    rw [ist, List.getElem?_map] at q
    obtain ⟨p, e1, e2⟩ := Option.map_eq_some_iff.mp q
    exact ⟨p, e1, e2.symm⟩
  · rw [List.mem_singleton.mp hb, z1]
    exact Nat.le_succ _
  · obtain ⟨h', g', d', tk', os'⟩ := s'
    have e1 : g' = s0.gens := mv.gens
    have e2 : d' = s0.drawn := mv.drawn
    have e3 : os' = s0.os := mv.os
    subst e1 e2 e3
    show wpAny _ _ _ _ _ _
    refine wpAny_pure ?_
    show wpAny _ _ (ret Value.none) _ _ _
    refine wpAny_pure ⟨rfl, h', tk', L, es, ep, t, rfl, B, by rw [← size]; exact g, fun b o nb hb => mv.heap b o ?_ (Heap.get?_push_of_some _ hb)⟩
    simp only [List.mem_cons, List.not_mem_nil, or_false, not_or]
    exact ⟨nb, Nat.ne_of_lt (Heap.lt_size hb)⟩
theorem setT_make {Q : Value → Shared → Prop} (calm : A.handled = none) (isl : s.heap.IsList l items) (ist : items.toList = ks.map fun p => Value.ref p.1) (hk : ∀ p ∈ ks, IsT P w s.heap p.2 p.1) (few : ks.length ≤ 300) (hu : A.units + 8 < cLine)
    (fin : ∀ h' tk L es ep t, SetB P w h' s.heap.objs.size L es ep t → Got ks ks.length L → Ext s.heap h' → Q (.ref s.heap.objs.size) { s with heap := h', toks := tk }) : wpAny (model P w) A (call (.type "set") [.ref l]) Q E s := by
  obtain ⟨_, _, mro⟩ := F.called_set.mro
  have made := F.called_set.made
  have sub := F.called_set.sub
  have no := F.called_set.notType
  have can := F.called_set.canCreate
  have how := F.typeCall_set_1 (.ref l)
  have hu2 : A.units + 1 + 3 < cLine := Nat.lt_of_le_of_lt (by omega) hu
  refine wpAny_call (codeAny_of_tree ?_)
  show wpAny _ _ (callAny (.type "set") _) _ _ _
  refine wpAny_pure ⟨Code.quiet_builtin _ (by decide +kernel), codeAny_builtin F.entry_type_call ?_⟩
  rw [Around.under_plain (weight_type_call_type "set" [.ref l] []) rfl]
  repeat (any_goals (first | assumption | wp_step))
  refine codeAny_mono (code_set_led1 (.ref l) (E := E) (Q₁ := fun v z => v = .ref s.heap.objs.size ∧ z = { s with heap := s.heap.push (bare w) }) ⟨rfl, rfl⟩) fun r z hr => ?_
  match r, hr with
  | .error _, hr => exact hr
  | .ok (.ret _), hr =>
    obtain ⟨rfl, rfl⟩ := hr
    have ty : Shared.TypeIs { s with heap := s.heap.push (bare w) } (.ref s.heap.objs.size) "set" := ⟨_, Heap.get?_push_size _ rfl, rfl⟩
    have look := F.called_set.init.lookup
    have bind := F.called_set.init.bind (.ref s.heap.objs.size)
    repeat (any_goals (first | assumption | wp_step))
    refine codeAny_mono (setT_fill (E := E) (s0 := s) (ks := ks) (by simpa using calm) isl ist hk few hu2 rfl rfl) fun r z hr => ?_
    match r, hr with
    | .error _, hr => exact hr
    | .ok (.ret _), hr =>
      obtain ⟨rfl, h', tk, L, es, ep, t, rfl, B, g, keep⟩ := hr
      repeat (any_goals (first | assumption | wp_step))
      exact fin h' tk L es ep t B g fun b o hb => keep b o (Nat.ne_of_lt (Heap.lt_size hb)) (Heap.get?_push_of_some _ hb)
    | .ok .next, hr => exact hr.elim
    | .ok .brk, hr => exact hr.elim
    | .ok .cont, hr => exact hr.elim
  | .ok .next, hr => exact hr.elim
  | .ok .brk, hr => exact hr.elim
  | .ok .cont, hr => exact hr.elim
end
/-! ### a set, by its size alone -/
def SizedO (p : Addr) (n : Nat) : HO := .ext fun h => ∃ o es ep t, h.get? p = some o ∧ o.ExactSet ∧ o.data = .set es ep t ∧ t.fits es.size = true ∧ es.size = n ∧ n < 100000
/-- n: how many different ones there are -/
def Differ {α : Type} (xs : List α) (n : Nat) : Prop := ∃ ms : List α, ms.Nodup ∧ (∀ k, k ∈ ms ↔ k ∈ xs) ∧ ms.length = n
theorem sizedO_new {P : Program} {w : World} {H : Hp} {h : Heap} {a : Addr} {n : Nat} (R : ∃ o es ep t, h.get? a = some o ∧ o.ExactSet ∧ o.data = .set es ep t ∧ t.fits es.size = true ∧ es.size = n ∧ n < 100000) : ObjOk P w H h a (SizedO a n) := by
  have ⟨o, _, _, _, ho, _⟩ := R
  refine ⟨R, ⟨o, ho⟩, fun h1 h2 ⟨o, es, ep, t, e, r⟩ k => ⟨o, es, ep, t, k o e, r⟩⟩
def rSetTups (K : PySem.W.Frag) : List V → Hp → VK → Prop := fun vs H Q => ∃ (l : Addr) (ks : List (Addr × List Int)), vs = [V.ref l] ∧ SqL K H l (ks.map fun p => V.ref p.1) ∧ (∀ p ∈ ks, SqT K H p.1 (p.2.map V.int)) ∧ ks.length ≤ 300 ∧ ∀ p n, H p = none → Differ (ks.map (·.2)) n → Q (.ref p) (upd H p (SizedO p n))
def rSetInts (K : PySem.W.Frag) : List V → Hp → VK → Prop := fun vs H Q => ∃ (l : Addr) (ns : List Int), vs = [V.ref l] ∧ SqL K H l (ns.map V.int) ∧ ns.length ≤ 4000 ∧ ∀ p n, H p = none → Differ ns n → Q (.ref p) (upd H p (SizedO p n))
def rLenSized : List V → Hp → VK → Prop := fun vs H Q => ∃ p n, vs = [V.ref p] ∧ H p = some (SizedO p n) ∧ Q (.int (n : Nat)) H
section
variable {X : Cx}
theorem cr_setTups (hc : X.calm = true) (hu : X.A.units + 8 < cLine) : CallR X (.type "set") (rSetTups X.K) := by
  intro pins s σ H vs us Q I r h
  obtain ⟨l, ks, rfl, hl, hk, few, q⟩ := h
  rw [Vals.ref1 r]
  obtain ⟨its, rv, pl, hz⟩ := I.list hl
  refine setT_make (I.ok.hd hc) pl.isList (ks := ks) (by simpa using refs_of_vals rv) (fun p hp => I.isT (hk p hp)) few hu fun h' tk L es ep t B g keep => ?_
  have sub : ∀ p ∈ L, p ∈ ks := fun p hp => List.mem_of_mem_take (g.sub p hp)
  have n1 : L.length ≤ ks.length := g.len
  have df : Differ (ks.map (·.2)) L.length := ⟨L.map (·.2), B.nd, fun k => ⟨fun z => by
    obtain ⟨p, hp, e⟩ := List.mem_map.mp z
    exact List.mem_map.mpr ⟨p, sub p hp, e⟩, fun z => by
    obtain ⟨p, hp, e⟩ := List.mem_map.mp z
    rw [← e]
    exact g.all p (by rw [List.take_length]; exact hp)⟩, by rw [List.length_map]⟩
  have so : ∃ o es ep t, h'.get? s.heap.objs.size = some o ∧ o.ExactSet ∧ o.data = .set es ep t ∧ t.fits es.size = true ∧ es.size = L.length ∧ L.length < 100000 := by
    obtain ⟨o, ho, hex, hd⟩ := B.ob
    exact ⟨o, es, ep, t, ho, hex, hd, B.fi, B.sz, by omega⟩
  exact ⟨.ref s.heap.objs.size, upd H s.heap.objs.size (SizedO s.heap.objs.size L.length), I.laid (t' := tk) keep (Nat.le_refl _) (sizedO_new so), rfl, q _ _ (I.hok.fresh (Nat.le_refl _)) df⟩
theorem cr_setInts (hc : X.calm = true) : CallR X (.type "set") (rSetInts X.K) := by
  intro pins s σ H vs us Q I r h
  obtain ⟨l, ns, rfl, hl, few, q⟩ := h
  rw [Vals.ref1 r]
  obtain ⟨its, rv, pl, hz⟩ := I.list hl
  refine set_make (I.ok.hd hc) pl.isList (ns := ns) (by simpa using intsOf_vals rv) (by unfold scanBound; omega) fun h' tk c R hc2 keep => ?_
  obtain ⟨o, es, ep, t, ho, hex, hd, _, hnd, hm, _, hf, hn, _⟩ := R
  have df : Differ ns c := ⟨es.toList.map keyOf, hnd, fun k => by rw [← hm k]; simp, by rw [List.length_map, Array.length_toList, hn]⟩
  exact ⟨.ref s.heap.objs.size, upd H s.heap.objs.size (SizedO s.heap.objs.size c), I.laid (t' := tk) keep (Nat.le_refl _) (sizedO_new ⟨o, es, ep, t, ho, hex, hd, hf, hn, by omega⟩), rfl, q _ _ (I.hok.fresh (Nat.le_refl _)) df⟩
theorem cr_lenSized : CallR X (.builtin "len") rLenSized := by
  intro pins s σ H vs us Q I r h
  obtain ⟨p, n, rfl, hp, q⟩ := h
  rw [Vals.ref1 r]
  obtain ⟨o, es, ep, t, ho, hex, hd, hf, hn, lt⟩ : ∃ o es ep t, s.heap.get? p = some o ∧ o.ExactSet ∧ o.data = .set es ep t ∧ t.fits es.size = true ∧ es.size = n ∧ n < 100000 := (I.hok p _ hp).1
  exact call_len_set ho hex hd hf (by rw [hn]; omega) ⟨.int n, H, I.tok _, ⟨_, by rw [hn]⟩, q⟩
end
end Wn

set_option Elab.async false
set_option linter.all false
set_option maxRecDepth 100000
set_option maxHeartbeats 4000000
namespace Wn
open PySem PySem.Spec PyProof.Rows L2
/-! ### len(set(xs)) -/
def tupsOf : List D → Option (List (List Int))
  | [] => some []
  | .tup xs :: ds => (match intsOf xs, tupsOf ds with
    | some ns, some r => some (ns :: r)
    | _, _ => none)
  | _ :: _ => none
abbrev tupD (k : List Int) : D := .tup (k.map D.int)
theorem tupsOf_map : ∀ ks : List (List Int), tupsOf (ks.map tupD) = some ks
  | [] => rfl
  | k :: ks => by
    show tupsOf (.tup (k.map D.int) :: ks.map tupD) = _
    unfold tupsOf
    rw [intsOf_map, tupsOf_map ks]
theorem of_tupsOf : ∀ {ds : List D} {ks : List (List Int)}, tupsOf ds = some ks → ds = ks.map tupD
  | [], ks, e => by
    cases e
    rfl
  | d :: ds, ks, e => by
    cases d with
    | tup xs =>
      unfold tupsOf at e
      cases q1 : intsOf xs with
      | none =>
        rw [q1] at e
        cases e
      | some ns =>
        cases q2 : tupsOf ds with
        | none =>
          rw [q1, q2] at e
          cases e
        | some r =>
          rw [q1, q2] at e
          cases e
          rw [of_intsOf q1, of_tupsOf q2] <;> rfl
    | _ => cases e
theorem RpA.tups {K : PySem.W.Frag} {G : Hp} : ∀ {ks : List (List Int)} {us : List V}, RpA K G (ks.map tupD) us → ∃ ps : List (Addr × List Int), us = ps.map (fun p => V.ref p.1) ∧ ps.map (·.2) = ks ∧ ∀ p ∈ ps, G p.1 = some (.tup (p.2.map V.int))
  | [], us, h => ⟨[], h, rfl, fun p z => nomatch z⟩
  | k :: ks, us, ⟨x, r, e, ⟨a, xs, e2, h1, h2⟩, h3⟩ => by
    obtain ⟨ps, p1, p2, p3⟩ := RpA.tups h3
    refine ⟨(a, k) :: ps, by rw [e, e2, p1] <;> rfl, by rw [List.map_cons, p2], fun p hp => ?_⟩
    rcases List.mem_cons.mp hp with z | z
    · rw [z, ← h2.ints]
      exact h1
    · exact p3 p z
def dLenSetI (xs : List D) (P : D → Prop) : Prop := match intsOf xs with
  | some ns => ns.length ≤ 4000 ∧ ∀ n : Nat, Differ ns n → P (.int n)
  | none => False
def dLenSetT (xs : List D) (P : D → Prop) : Prop := match tupsOf xs with
  | some ks => ks.length ≤ 300 ∧ ∀ n : Nat, Differ ks n → P (.int n)
  | none => False
def tLenSetI (tl : TDL) : TD := fun δ P EP => tl δ (fun xs => dLenSetI xs P) EP
def tLenSetT (tl : TDL) : TD := fun δ P EP => tl δ (fun xs => dLenSetT xs P) EP
@[simp] theorem e_tLenSetI (tl : TDL) (δ : DE) (P : D → Prop) (EP : Addr → Prop) : tLenSetI tl δ P EP = (tl δ (fun xs => dLenSetI xs P) EP) := Eq.trans rfl rfl
@[simp] theorem e_tLenSetT (tl : TDL) (δ : DE) (P : D → Prop) (EP : Addr → Prop) : tLenSetT tl δ P EP = (tl δ (fun xs => dLenSetT xs P) EP) := Eq.trans rfl rfl
@[simp] theorem u_dLenSetI (ns : List Int) (P : D → Prop) : dLenSetI (ns.map D.int) P = (ns.length ≤ 4000 ∧ ∀ n : Nat, Differ ns n → P (.int n)) := by
  unfold dLenSetI
  rw [intsOf_map]
theorem u_dLenSetT (ks : List (List Int)) (P : D → Prop) : dLenSetT (ks.map tupD) P = (ks.length ≤ 300 ∧ ∀ n : Nat, Differ ks n → P (.int n)) := by
  unfold dLenSetT
  rw [tupsOf_map]
section
variable {X : Cx} {T : Tbl} {E : XK} {e : Expr} {p p2 pos pos2 : Pos} {tl : TDL}
theorem pd_lenSetI (hc : X.calm = true) (hm1 : X.mg "len" = none) (hm2 : X.mg "set" = none) (he : PE X e (lL X.K T E tl)) (hg1 : Gl X "len" := by rfl) (hg2 : Gl X "set" := by rfl) (hs1 : starEach [e] X.env = (false, eval e X.env) :: starEach [] X.env := by rfl)
    (hs2 : starEach [.Call (.Name "set" p2) [e] [] pos2] X.env = (false, eval (.Call (.Name "set" p2) [e] [] pos2) X.env) :: starEach [] X.env := by rfl) (hp1 : (backTo pos (starEach [] X.env)).any (·.1) = false := by rfl) (hp2 : (backTo pos2 (starEach [] X.env)).any (·.1) = false := by rfl) :
    PE X (.Call (.Name "len" p) [.Call (.Name "set" p2) [e] [] pos2] [] pos) (lF X.K T E (tLenSetI tl)) :=
  pe_imp (pe_callB cr_lenSized hg1 hm1 PySem.boot_len (pa_cons (pe_callTy (cr_setInts hc) hg2 hm2 PyProof.Rows.boot_set (pa_cons he pa_nil hs1) (by decide) (by decide) hs1 hp2) pa_nil hs2) (by decide) (by decide) hs2 hp1) fun σ H Q ⟨δ, G0, H0, G, P, EP, L, ht, k⟩ => ⟨δ, G0, H0, G, _, EP, L, ht, fun xs hxs a us H1 G1 x1 h1 r1 => by
    unfold dLenSetI at hxs
    cases q : intsOf xs with
    | none =>
      rw [q] at hxs
      exact hxs.elim
    | some ns =>
      rw [q] at hxs
      rw [of_intsOf q] at r1
      rw [r1.ints] at h1
      exact ⟨a, ns, rfl, .of (vw_sub _ _ h1), hxs.1, fun p n hp df => ⟨p, n, rfl, upd_same, k _ (hxs.2 n df) _ _ G1 (x1.trans (.of_gr (L.stp x1).rep.gv (.new hp))) rfl⟩⟩⟩
theorem pd_lenSetT (hc : X.calm = true) (hu : X.A.units + 64 < cLine) (hm1 : X.mg "len" = none) (hm2 : X.mg "set" = none) (he : PE X e (lL X.K T E tl)) (hg1 : Gl X "len" := by rfl) (hg2 : Gl X "set" := by rfl) (hs1 : starEach [e] X.env = (false, eval e X.env) :: starEach [] X.env := by rfl)
    (hs2 : starEach [.Call (.Name "set" p2) [e] [] pos2] X.env = (false, eval (.Call (.Name "set" p2) [e] [] pos2) X.env) :: starEach [] X.env := by rfl) (hp1 : (backTo pos (starEach [] X.env)).any (·.1) = false := by rfl) (hp2 : (backTo pos2 (starEach [] X.env)).any (·.1) = false := by rfl) :
    PE X (.Call (.Name "len" p) [.Call (.Name "set" p2) [e] [] pos2] [] pos) (lF X.K T E (tLenSetT tl)) :=
  pe_imp (pe_callB cr_lenSized hg1 hm1 PySem.boot_len (pa_cons (pe_callTy (cr_setTups hc (Nat.lt_of_le_of_lt (by omega) hu)) hg2 hm2 PyProof.Rows.boot_set (pa_cons he pa_nil hs1) (by decide) (by decide) hs1 hp2) pa_nil hs2) (by decide) (by decide) hs2 hp1) fun σ H Q ⟨δ, G0, H0, G, P, EP, L, ht, k⟩ => ⟨δ, G0, H0, G, _, EP, L, ht, fun xs hxs a us H1 G1 x1 h1 r1 => by
    unfold dLenSetT at hxs
    cases q : tupsOf xs with
    | none =>
      rw [q] at hxs
      exact hxs.elim
    | some ks =>
      rw [q] at hxs
      rw [of_tupsOf q] at r1
      obtain ⟨ps, e1, e2, e3⟩ := r1.tups
      rw [e1] at h1
      exact ⟨a, ps, rfl, .of (vw_sub _ _ h1), fun p hp => .of (vw_sub _ _ (x1.gv _ _ (e3 p hp))), by rw [← List.length_map (f := (·.2)), e2]; exact hxs.1, fun p n hp df => ⟨p, n, rfl, upd_same, k _ (hxs.2 n (by rw [← e2]; exact df)) _ _ G1 (x1.trans (.of_gr (L.stp x1).rep.gv (.new hp))) rfl⟩⟩⟩
end
/-! ### a list of the frame's own by its address -/
section
variable {K : PySem.W.Frag} {T : Tbl} {G0 H0 G H : Hp} {σ : L2.St} {δ : DE}
theorem Rep.re (R : Rep K T G0 H0 G H σ δ) {i : Nat} {o o' : Slot} (hi : δ.sl[i]? = some o) (ho : isOwn (some o) = true) (r : ∀ v, σ[i]? = some v → SlOk K δ.s H0 G H o' v) : Rep K T G0 H0 G H σ (δ.set i o') := by
  have il : i < δ.sl.length := (List.getElem?_eq_some_iff.mp hi).1
  have own : ∀ l, isOwn (δ.sl.set i o')[l]? = true → isOwn δ.sl[l]? = true := fun l hl => by
    by_cases c : i = l
    · rw [← c, hi]
      exact ho
    · rw [List.getElem?_set_ne c] at hl
      exact hl
  refine ⟨R.st, R.src, R.tab, by rw [R.len]; exact (List.length_set ..).symm, fun j u h => ?_, fun j k a hjk h1 h2 => R.un j k a hjk (own j h1) (own k h2)⟩
  have h : (δ.sl.set i o')[j]? = some u := h
  by_cases c : i = j
  · subst c
    rw [List.getElem?_set_self il] at h
    cases h
    obtain ⟨v, e, _⟩ := R.sl i o hi
    exact ⟨v, e, r v e⟩
  · rw [List.getElem?_set_ne c] at h
    exact R.sl j u h
theorem rep_pin {i : Nat} {xs : List D} (R : Rep K T G0 H0 G H σ δ) (hi : δ.sl[i]? = some (.ow xs)) : ∃ a, Rep K T G0 H0 G H σ (δ.set i (.oA a xs)) := by
  obtain ⟨v, e, a, us, e1, h1⟩ := R.sl i _ hi
  refine ⟨a, R.re hi rfl fun v' e' => ⟨us, ?_, h1⟩⟩
  rw [e] at e'
  cases e'
  exact e1
theorem rep_unpin {i : Nat} {a : Addr} {xs : List D} (R : Rep K T G0 H0 G H σ δ) (hi : δ.sl[i]? = some (.oA a xs)) : Rep K T G0 H0 G H σ (δ.set i (.ow xs)) := by
  obtain ⟨v, e, us, e1, h1⟩ := R.sl i _ hi
  refine R.re hi rfl fun v' e' => ⟨a, us, ?_, h1⟩
  rw [e] at e'
  cases e'
  exact e1
end
def tPin (i : Nat) (t : TDS) : TDS := fun δ Z => match δ.sl[i]? with
  | some (.ow xs) => ∀ a, t (δ.set i (.oA a xs)) Z
  | _ => False
def tUnp (i : Nat) (t : TDS) : TDS := fun δ Z => match δ.sl[i]? with
  | some (.oA _ xs) => t (δ.set i (.ow xs)) Z
  | _ => False
def loopA (i : Nat) (a : Addr) (xs : List D) (g : TGD) (b : TDS) (Z : DEnds) : List D → DE → Prop
  | [], δ => δ.sl[i]? = some (.oA a xs) ∧ Z.nx δ
  | x :: r, δ => δ.sl[i]? = some (.oA a xs) ∧ g x δ fun δ' => b δ' { Z with nx := loopA i a xs g b Z r, ct := loopA i a xs g b Z r, bk := Z.nx }
def tForA (i : Nat) (g : TGD) (b : TDS) : TDS := fun δ Z => match δ.sl[i]? with
  | some (.oA a xs) => loopA i a xs g b Z xs δ
  | _ => False
@[simp] theorem e_tPin (i : Nat) (t : TDS) (δ : DE) (Z : DEnds) : tPin i t δ Z = (match δ.sl[i]? with
  | some (.ow xs) => ∀ a, t (δ.set i (.oA a xs)) Z
  | _ => False) := Eq.trans rfl rfl
@[simp] theorem e_tUnp (i : Nat) (t : TDS) (δ : DE) (Z : DEnds) : tUnp i t δ Z = (match δ.sl[i]? with
  | some (.oA _ xs) => t (δ.set i (.ow xs)) Z
  | _ => False) := Eq.trans rfl rfl
@[simp] theorem e_tForA (i : Nat) (g : TGD) (b : TDS) (δ : DE) (Z : DEnds) : tForA i g b δ Z = (match δ.sl[i]? with
  | some (.oA a xs) => loopA i a xs g b Z xs δ
  | _ => False) := Eq.trans rfl rfl
@[simp] theorem u_rdS6 (a : Addr) (xs : List D) : rdS (.oA a xs) = some (.lst xs) := Eq.trans rfl rfl
theorem loopA_mem (i : Nat) (a : Addr) (xs : List D) (g : TGD) (b : TDS) (Z : DEnds) (δ : DE) (h0 : δ.sl[i]? = some (.oA a xs)) : ∀ (r : List D), (∀ x ∈ r, ∀ K : DE → Prop, K δ → g x δ fun δ' => b δ' { Z with nx := K, ct := K, bk := Z.nx }) → Z.nx δ → loopA i a xs g b Z r δ
  | [], _, z => ⟨h0, z⟩
  | x :: r, h, z => ⟨h0, h x List.mem_cons_self _ (loopA_mem i a xs g b Z δ h0 r (fun y hy => h y (List.mem_cons_of_mem _ hy)) z)⟩
section
variable {X : Cx} {K : PySem.W.Frag} {T : Tbl} {E : XK} {st : Stmt} {t : TDS} {tg : Expr} {body : List Stmt} {pos p : Pos} {js : List Nat} {g : TGD} {b : TDS} {x : Str}
theorem pd_pin (i : Nat) (h : PS X st (lS K T E t)) : PS X st (lS K T E (tPin i t)) := ps_imp h fun D σ H ⟨δ, G0, H0, G, Z, R, h, F⟩ => by
  unfold tPin at h
  cases e : δ.sl[i]? with
  | none =>
    rw [e] at h
    exact h.elim
  | some o =>
    rw [e] at h
    cases o with
    | ow xs =>
      obtain ⟨a, R'⟩ := rep_pin R e
      exact ⟨_, G0, H0, G, Z, R', h a, F⟩
    | _ => exact h.elim
theorem pd_unp (i : Nat) (h : PS X st (lS K T E t)) : PS X st (lS K T E (tUnp i t)) := ps_imp h fun D σ H ⟨δ, G0, H0, G, Z, R, h, F⟩ => by
  unfold tUnp at h
  cases e : δ.sl[i]? with
  | none =>
    rw [e] at h
    exact h.elim
  | some o =>
    rw [e] at h
    cases o with
    | oA a xs => exact ⟨_, G0, H0, G, Z, rep_unpin R e, h, F⟩
    | _ => exact h.elim
/-- a walk over a list whose items stay the same as data -/
theorem list_walk {a : Addr} {n : Nat} {g : TG} {tb : TS} {D : Ends} {σ : L2.St} {H : Hp} (Pv : Nat → L2.St → Hp → Prop) (h0 : Pv 0 σ H)
    (hs : ∀ i σ H, i < n → Pv i σ H → ∃ us, SqL K H a us ∧ us.length = n ∧ ∀ x, us[i]? = some x → g x σ H fun σ2 H2 => tb { D with nx := Pv (i + 1), ct := Pv (i + 1), bk := D.nx } σ2 H2) (hd : ∀ σ H, Pv n σ H → (∃ us, SqL K H a us ∧ us.length = n) ∧ D.nx σ H) :
    ∃ W : Nat → Nat → L2.St → Hp → Prop, (∃ m, W 0 m σ H) ∧ ∀ i m σ H, W i m σ H →
      ((Itl K a).stop i H ∧ D.nx σ H) ∨ ((Itl K a).go i H ∧ ∃ N : L2.St → Hp → Prop, (∀ σ' H', N σ' H' → ∃ m', m' < m ∧ W (i + 1) m' σ' H') ∧ ∀ x H', (Itl K a).yld i H x H' → g x σ H' fun σ2 H2 => tb { D with nx := N, ct := N, bk := D.nx } σ2 H2) := by
  refine ⟨fun i m σ H => i + m = n ∧ Pv i σ H, ⟨n, Nat.zero_add n, h0⟩, fun i m σ H ⟨e, h⟩ => ?_⟩
  cases m with
  | zero =>
    obtain rfl : i = n := e
    obtain ⟨⟨us, h1, h2⟩, h3⟩ := hd σ H h
    exact .inl ⟨⟨us, h1, Nat.le_of_eq h2⟩, h3⟩
  | succ m =>
    obtain ⟨us, h1, h2, h3⟩ := hs i σ H (by omega) h
    have lt : i < us.length := by omega
    refine .inr ⟨⟨us, us[i], h1, List.getElem?_eq_getElem lt⟩, Pv (i + 1), fun σ' H' h' => ⟨m, Nat.lt_succ_self m, by omega, h'⟩, fun x H' y => ?_⟩
    obtain ⟨rfl, y⟩ := y
    exact h3 x (y us h1)
theorem loopA_at {i : Nat} {a : Addr} {xs : List D} {Z : DEnds} {δ : DE} : ∀ {r : List D}, loopA i a xs g b Z r δ → δ.sl[i]? = some (.oA a xs)
  | [], h => h.1
  | _ :: _, h => h.1
theorem pd_forA (i : Nat) (hp : PassesOwn (model X.prog X.w) X.A X.env X.xe) (hc : X.calm = true) (hg : PG X tg (lG X.K T js g)) (hb : PSs X body (lS X.K T E b)) (hN : X.N[i]? = some x := by rfl) (hv : Vis X.env.scope x := by first | exact Or.inl rfl | exact Or.inr (Or.inl rfl) | exact Or.inr (Or.inr rfl))
    (hd : (x == ("__debug__" : Str)) = false := by decide) (hcd : (x == ("__classdict__" : Str)) = false := by decide) (hs : ∀ y, foldedSetIterable (.Name x p) X.env y = pure y := by intro _; rfl) : PS X (.For tg (.Name x p) body [] pos) (lS X.K T E (tForA i g b)) :=
  ps_imp (ps_for hp hc (pi_list (pe_var hN hv hd hcd)) hg hb hs) fun D σ H ⟨δ, G0, H0, G, Z, R, h, F⟩ => by
    unfold tForA at h
    cases e : δ.sl[i]? with
    | none =>
      rw [e] at h
      exact h.elim
    | some o =>
      rw [e] at h
      cases o with
      | oA a xs =>
        obtain ⟨v, e1, us, e2, h1, h2, h3, h4, h5⟩ := R.sl i _ e
        have h : loopA i a xs g b Z xs δ := h
        refine ⟨.ref a, by rw [e1, e2], a, rfl, ⟨us, .of h4⟩, list_walk (n := xs.length) (fun k σ' H' => ∃ δ' G', Same G G' ∧ Rep X.K T G0 H0 G' H' σ' δ' ∧ loopA i a xs g b Z (xs.drop k) δ') ⟨δ, G, .refl _, R, h⟩
          (fun k σ' H' lt ⟨δ', G', gg, R', hl⟩ => ?_) fun σ' H' ⟨δ', G', gg, R', hl⟩ => ?_⟩
        · obtain ⟨_, _, us', _, _, _, _, q4, q5⟩ := R'.sl i _ (loopA_at hl)
          refine ⟨us', .of q4, q5.len, fun x hx => ?_⟩
          rw [List.drop_eq_getElem_cons lt] at hl
          obtain ⟨y, hy, ry⟩ := q5.get (List.getElem?_eq_getElem lt)
          rw [hy] at hx
          cases hx
          exact ⟨δ', G0, H0, G', xs[k], _, R', ry, hl.2, fun δ2 σ2 R2 _ _ h2 => ⟨δ2, G0, H0, G', _, R2, h2, F.turn gg fun δ3 G3 σ3 H3 s3 R3 h3 => ⟨δ3, G3, gg.trans s3, R3, h3⟩⟩⟩
        · rw [List.drop_length] at hl
          obtain ⟨_, _, us', _, _, _, _, q4, q5⟩ := R'.sl i _ (loopA_at (r := []) hl)
          exact ⟨⟨us', .of q4, q5.len⟩, F.nx δ' G' σ' H' gg R' hl.2⟩
      | _ => exact h.elim
end
/-! ### tuples of texts of the module -/
/-- the tuple at a, of the part that is known, has these texts -/
def KTx (K : PySem.W.Frag) (a : Addr) (ws : List Str) : Prop := ∃ (o : Obj) (its : Array Value) (n : Nat), K.lookup a = some o ∧ o.cls = .type "tuple" ∧ o.data = .seq its n ∧ its.size ≤ sizeLine ∧ L2.Vals (ws.map V.str) its.toList
def txB : List Value → List Str → Bool
  | [], [] => true
  | .str x _ :: vs, w :: ws => decide (x = w) && txB vs ws
  | _, _ => false
def ktxB (K : PySem.W.Frag) (a : Addr) (ws : List Str) : Bool := match K.lookup a with
  | some ⟨.type t, _, .seq its _, _⟩ => decide (t = "tuple") && txB its.toList ws && Nat.ble its.size 1000
  | _ => false
theorem vals_txB : ∀ {vs : List Value} {ws : List Str}, txB vs ws = true → L2.Vals (ws.map V.str) vs
  | [], [], _ => .nil
  | v :: vs, w :: ws, h => by
    cases v with
    | str x t =>
      have h : (decide (x = w) && txB vs ws) = true := h
      rw [Bool.and_eq_true, decide_eq_true_eq] at h
      rw [h.1]
      exact .cons ⟨t, rfl⟩ (vals_txB h.2)
    | _ => cases h
  | [], _ :: _, h => nomatch h
  | v :: vs, [], h => by
    cases v <;> cases h
theorem ktx_of {K : PySem.W.Frag} {a : Addr} {ws : List Str} (h : ktxB K a ws = true) : KTx K a ws := by
  unfold ktxB at h
  cases e : K.lookup a with
  | none =>
    rw [e] at h
    cases h
  | some o =>
    rw [e] at h
    obtain ⟨c, d, da, sl⟩ := o
    cases c with
    | type t =>
      cases da with
      | seq its n =>
        have h : (decide (t = "tuple") && txB its.toList ws && Nat.ble its.size 1000) = true := h
        rw [Bool.and_eq_true, Bool.and_eq_true, decide_eq_true_eq] at h
        obtain ⟨⟨h1, h2⟩, h3⟩ := h
        subst h1
        exact ⟨_, its, n, e, rfl, rfl, Nat.le_trans (Nat.le_of_ble_eq_true h3) (by rw [sizeLine_eq]; omega), vals_txB h2⟩
      | _ => cases h
    | _ => cases h
theorem RpA.of_strs {K : PySem.W.Frag} {G : Hp} : ∀ ws : List Str, RpA K G (ws.map D.str) (ws.map V.str)
  | [] => rfl
  | w :: ws => ⟨_, _, rfl, rfl, RpA.of_strs ws⟩
section
variable {X : Cx} {T : Tbl} {E : XK} {a b : Expr} {pos : Pos} {vs ws : List Str}
theorem pd_gkt {x : Str} {c : Addr} (hm : X.mg x = some (.ref c)) (hk : KTx X.K c ws) (hg : Gl X x) (hd : (x == ("__debug__" : Str)) = false := by decide) : PE X (.Name x pos) (lF X.K T E (tK (.kt (ws.map D.str)))) :=
  pd_k (pe_glob (v := .ref c) hg hm rfl hd) fun G => ⟨c, ws.map V.str, rfl, .inr hk, RpA.of_strs ws⟩
/-- of two of them one -/
theorem pd_catK (ha : PE X a (lF X.K T E (tK (.kt (vs.map D.str))))) (hb : PE X b (lF X.K T E (tK (.kt (ws.map D.str))))) (h1 : vs ≠ []) (h2 : ws ≠ []) (h3 : vs.length + ws.length ≤ 1000) : PE X (.BinOp a .Add b pos) (lF X.K T E (tK (.tup ((vs ++ ws).map D.str)))) :=
  pe_imp (pe_op op_catA ha hb) fun σ H Q ⟨δ, G0, H0, G, P, EP, L, ht, k⟩ => ⟨δ, G0, H0, G, _, EP, L, rfl, fun dx hx x H1 G1 x1 r1 => ⟨δ, G0, H0, G1, _, EP, L.stp x1, rfl, fun dy hy y H2 G2 x2 r2 => by
    subst hx hy
    obtain ⟨p, us, e1, q1, r1⟩ := r1.mono x2.gg
    obtain ⟨m, zs, e2, q2, r2⟩ := r2
    have R2 := ((L.stp x1).stp x2).rep
    have c1 := r1.strs
    have c2 := r2.strs
    subst c1 c2
    have gv : Same G2 H2 := R2.gv.trans vw_sub
    refine ⟨p, m, _, _, e1, e2, same_seqT gv q1, same_seqT gv q2, by rw [List.length_map, List.length_map, sizeLine_eq]; omega, fun z => ?_, fun _ z => ?_, fun _ _ q hq => ?_⟩
    · exact absurd z (by simpa using h1)
    · exact absurd z (by simpa using h2)
    · have x3 := R2.fresh (G := G2) (o := .tup (vs.map V.str ++ ws.map V.str)) hq fun ps z => by cases z
      exact k _ ht _ _ _ ((x1.trans x2).trans x3) ⟨q, _, rfl, upd_same, by rw [List.map_append]; exact (RpA.of_strs vs).app (RpA.of_strs ws)⟩⟩⟩
end
end Wn

set_option Elab.async false
set_option linter.all false
set_option maxRecDepth 100000
set_option maxHeartbeats 4000000
namespace Wn
open PySem PySem.Spec PyProof.Rows L2
/-! ### d[k] -/
def lkK : List Key → List D → Key → Option D
  | k :: ks, v :: vs, j => if k = j then some v else lkK ks vs j
  | _, _, _ => none
theorem RpA.lk {K : PySem.W.Frag} {G : Hp} {j : Key} {d : D} : ∀ {ws : List (Key × V)} {vs : List D}, RpA K G vs (ws.map (·.2)) → lkK (ws.map (·.1)) vs j = some d → ∃ v, valV ws j = some v ∧ Rp K G d v
  | [], vs, _, e => by
    cases vs <;> cases e
  | w :: ws, [], _, e => by cases e
  | w :: ws, v :: vs, ⟨x, r, e1, h1, h2⟩, e => by
    have e1 : w.2 :: ws.map (·.2) = x :: r := e1
    obtain ⟨e2, e3⟩ := List.cons.inj e1
    subst e2 e3
    have e : (if w.1 = j then some v else lkK (ws.map (·.1)) vs j) = some d := e
    unfold valV
    by_cases c : w.1 = j
    · rw [if_pos c] at e
      cases e
      exact ⟨w.2, by rw [List.find?_cons, decide_eq_true c] <;> rfl, h1⟩
    · rw [if_neg c] at e
      obtain ⟨y, hy, ry⟩ := RpA.lk h2 e
      exact ⟨y, by rw [List.find?_cons, decide_eq_false c]; exact hy, ry⟩
def dDgK (x y : D) (P : D → Prop) : Prop := match x, y with
  | .dK ks vs, .int k => (match lkK ks vs (.inl k) with
    | some d => P d
    | none => False)
  | _, _ => False
def tDgK (t u : TD) : TD := fun δ P EP => t δ (fun x => u δ (fun y => dDgK x y P) EP) EP
@[simp] theorem e_tDgK (t u : TD) (δ : DE) (P : D → Prop) (EP : Addr → Prop) : tDgK t u δ P EP = (t δ (fun x => u δ (fun y => dDgK x y P) EP) EP) := Eq.trans rfl rfl
theorem i_dDgK {ks : List Key} {vs : List D} {k : Int} {d : D} {P : D → Prop} (e : lkK ks vs (.inl k) = some d) (h : P d) : dDgK (.dK ks vs) (.int k) P := by
  show (match lkK ks vs (.inl k) with | some d => P d | none => False)
  rw [e]
  exact h
section
variable {X : Cx} {T : Tbl} {E : XK} {o i : Expr} {pos : Pos} {t u : TD}
theorem pd_dgK (hu : X.A.units + 64 < cLine) (ho : PE X o (lF X.K T E t)) (hi : PE X i (lR X.K T E u)) (hs : NoSl i := by intro _ _; rfl) : PE X (.Subscript o i pos) (lF X.K T E (tDgK t u)) :=
  pe_imp (pe_dget (Nat.lt_of_le_of_lt (by omega) hu) ho hi hs) fun σ H Q ⟨δ, G0, H0, G, P, EP, L, ht, k⟩ => ⟨δ, G0, H0, G, _, EP, L, ht, fun dx hx x H1 G1 x1 r1 => ⟨δ, G0, H0, G1, _, EP, L.stp x1, hx, fun dy hy y H2 g2 r2 => by
    unfold dDgK at hy
    cases dx with
    | dK ks vs =>
      cases dy with
      | int j =>
        obtain ⟨a, ws, e1, h1, h2, h3⟩ := r1
        cases e : lkK ks vs (.inl j) with
        | none =>
          have hy : (match lkK ks vs (.inl j) with | some d => P d | none => False) := hy
          rw [e] at hy
          exact hy.elim
        | some d =>
          have hy : (match lkK ks vs (.inl j) with | some d => P d | none => False) := hy
          rw [e] at hy
          rw [← h2] at e
          obtain ⟨v, q1, q2⟩ := h3.lk e
          have st : Stp T δ.s G1 G1 H1 H2 := .of_gr x1.gv g2
          refine ⟨a, v, e1, ?_, k d hy v H2 G1 (x1.trans st) q2⟩
          have ha : H2 a = some (.dK ws) := vw_sub _ _ (st.gv _ _ h1)
          rw [show y = V.int j from r2, ← q1]
          exact DGet.k (k := .inl j) ha
      | _ => exact hy.elim
    | _ => exact hy.elim⟩⟩
end
/-! ### x = xs.pop() -/
def tPop (i j : Nat) : TDS := fun δ Z => match δ.sl[j]? with
  | some (.ow xs) => (match xs.getLast? with
    | some x => Z.nx ((δ.set j (.ow xs.dropLast)).set i (.d x))
    | none => False)
  | _ => False
@[simp] theorem e_tPop (i j : Nat) (δ : DE) (Z : DEnds) : tPop i j δ Z = (match δ.sl[j]? with
  | some (.ow xs) => (match xs.getLast? with
    | some x => Z.nx ((δ.set j (.ow xs.dropLast)).set i (.d x))
    | none => False)
  | _ => False) := Eq.trans rfl rfl
theorem RpA.init {K : PySem.W.Frag} {G : Hp} {ds : List D} {us : List V} (r : RpA K G ds us) : RpA K G ds.dropLast us.dropLast := by
  rw [List.dropLast_eq_take, List.dropLast_eq_take, r.len]
  exact r.take _
section
variable {X : Cx} {T : Tbl} {E : XK} {x y : Str} {p p2 apos cpos pos : Pos}
theorem pd_pop (i j : Nat) (hn : X.N.Nodup) (hij : i ≠ j) (hi : X.N[i]? = some y := by rfl) (hy : Loc X.env.scope y := by first | exact Or.inl rfl | exact Or.inr rfl) (hN : X.N[j]? = some x := by rfl) (hv : Vis X.env.scope x := by first | exact Or.inl rfl | exact Or.inr (Or.inl rfl) | exact Or.inr (Or.inr rfl))
    (hd : (x == ("__debug__" : Str)) = false := by decide) (hcd : (x == ("__classdict__" : Str)) = false := by decide) (hs : swapsWith (.Call (.Attribute (.Name x p) "pop" apos) [] [] cpos) (some (.Name y p2)) pos.line X.env = pure false := by rfl)
    (hbase : attributeBase (.Name x p) "pop" X.env (eval (.Name x p) X.env) = eval (.Name x p) X.env := by rfl) (hline : (apos.endLine == cpos.line) = true := by rfl) (hf : X.fn y = true ∨ X.env.scope.names.lookup y = some .local := by first | exact .inl rfl | exact .inr rfl) :
    PS X (.Assign [.Name y p2] (.Call (.Attribute (.Name x p) "pop" apos) [] [] cpos) pos) (lS X.K T E (tPop i j)) :=
  ps_imp (ps_set hn hi hy (pe_bm0 PySem.F.plainAttrs_list PySem.F.slot_list_pop PySem.F.type_list_pop mt_pop (pe_var hN hv hd hcd) hbase hline) hs hf) fun D σ H ⟨δ, G0, H0, G, Z, R, h, F⟩ => by
    unfold tPop at h
    cases e0 : δ.sl[j]? with
    | none =>
      rw [e0] at h
      exact h.elim
    | some o =>
      rw [e0] at h
      cases o with
      | ow xs =>
        obtain ⟨a, us, h1, h2, h3, h4⟩ := rep_ow R e0
        have h : (match xs.getLast? with | some x => Z.nx ((δ.set j (.ow xs.dropLast)).set i (.d x)) | none => False) := h
        cases e : xs.getLast? with
        | none =>
          rw [e] at h
          exact h.elim
        | some d =>
          rw [e] at h
          rw [List.getLast?_eq_getElem?] at e
          obtain ⟨v, q1, q2⟩ := h3.get e
          have hl : H a = some (.lst us) := vw_sub _ _ h4
          have R2 := rep_owW R e0 h1 h3.init
          exact ⟨.ref a, h1, .inl ⟨rfl, us, .of hl⟩, a, us, v, rfl, rfl, hl, by rw [h3.len]; exact q1, F.nx _ G _ _ (.refl _) (R2.setD q2) h⟩
      | _ => exact h.elim
end
end Wn

set_option Elab.async false
set_option linter.all false
set_option maxRecDepth 100000
set_option maxHeartbeats 4000000
namespace Wn
open PySem PySem.Spec PyProof.Rows L2
abbrev Edge := Nat × Nat × Int
def edgeD (e : Edge) : D := .tup [.int (e.1 : Nat), .int (e.2.1 : Nat), .int e.2.2]
/-- whom k is put beside, in order -/
def adjL (es : List Edge) (k : Nat) : List Int := es.flatMap fun e => (if e.1 = k then [((e.2.1 : Nat) : Int)] else []) ++ (if e.2.1 = k then [((e.1 : Nat) : Int)] else [])
def keysN (n : Nat) : List Key := (List.range n).map fun k => Sum.inl ((k : Nat) : Int)
theorem adjL_nil (k : Nat) : adjL [] k = [] := rfl
theorem adjL_snoc (es : List Edge) (e : Edge) (k : Nat) : adjL (es ++ [e]) k = (adjL es k ++ (if e.1 = k then [((e.2.1 : Nat) : Int)] else [])) ++ (if e.2.1 = k then [((e.1 : Nat) : Int)] else []) := by
  unfold adjL
  rw [List.flatMap_append]
  simp
theorem adjL_len (es : List Edge) (k : Nat) : (adjL es k).length ≤ 2 * es.length := by
  unfold adjL
  induction es with
  | nil => simp
  | cons e es ih =>
    rw [List.flatMap_cons, List.length_append, List.length_cons, List.length_append]
    have h1 : (if e.1 = k then [((e.2.1 : Nat) : Int)] else []).length ≤ 1 := by split <;> simp
    have h2 : (if e.2.1 = k then [((e.1 : Nat) : Int)] else []).length ≤ 1 := by split <;> simp
    omega
def kvN (as : List Addr) : List (Key × V) := as.zipIdx.map fun p => (Sum.inl ((p.2 : Nat) : Int), V.ref p.1)
theorem kvN_keys (as : List Addr) : (kvN as).map (·.1) = keysN as.length := by
  unfold kvN keysN
  rw [List.map_map]
  refine List.ext_getElem? fun i => ?_
  rw [List.getElem?_map, List.getElem?_map, List.getElem?_zipIdx]
  by_cases h : i < as.length
  · rw [List.getElem?_eq_getElem h, List.getElem?_range h]
    simp
  · rw [List.getElem?_eq_none (by omega), List.getElem?_eq_none (by rw [List.length_range]; omega)]
    rfl
theorem kvN_vals (as : List Addr) : (kvN as).map (·.2) = as.map V.ref := by
  unfold kvN
  rw [List.map_map, show ((fun x : Key × V => x.2) ∘ fun p : Addr × Nat => ((Sum.inl ((p.2 : Nat) : Int) : Key), V.ref p.1)) = V.ref ∘ Prod.fst from rfl, ← List.map_map, List.zipIdx_map_fst]
theorem keysN_nodup (n : Nat) : (keysN n).Nodup := by
  unfold keysN
  refine List.Pairwise.map _ (fun a b h z => h ?_) List.nodup_range
  have z := Sum.inl.inj z
  omega
theorem merge_new : ∀ (more acc : List (Key × V)), ((acc ++ more).map (·.1)).Nodup → mergeK acc more = acc ++ more
  | [], acc, _ => by simp [mergeK]
  | m :: more, acc, h => by
    have h1 : acc.any (fun kv => decide (kv.1 = m.1)) = false := by
      rw [List.any_eq_false]
      intro x hx z
      rw [List.map_append, List.map_cons, List.nodup_append] at h
      exact h.2.2 x.1 (List.mem_map.mpr ⟨x, hx, rfl⟩) m.1 List.mem_cons_self (of_decide_eq_true z)
    unfold mergeK
    rw [List.foldl_cons, show putK acc m.1 m.2 = acc ++ [m] from by unfold putK; rw [h1]; rfl]
    have q := merge_new more (acc ++ [m]) (by rw [List.append_assoc, List.singleton_append]; exact h)
    unfold mergeK at q
    rw [q, List.append_assoc, List.singleton_append]
theorem kvN_at {as : List Addr} {k : Nat} (h : k < as.length) : valV (kvN as) (.inl (k : Int)) = some (V.ref as[k]) := by
  have key : ∀ (l : List (Key × V)) (i : Nat) (p : Key × V), (l.map (·.1)).Nodup → l[i]? = some p → valV l p.1 = some p.2 := by
    intro l
    induction l with
    | nil =>
      intro i p _ e
      simp at e
    | cons x l ih =>
      intro i p nd e
      rw [List.map_cons, List.nodup_cons] at nd
      unfold valV
      cases i with
      | zero =>
        cases (show some x = some p from by simpa using e)
        rw [List.find?_cons, decide_eq_true rfl]
        rfl
      | succ i =>
        have e : l[i]? = some p := by simpa using e
        have ne : x.1 ≠ p.1 := fun z => nd.1 (List.mem_map.mpr ⟨p, List.mem_of_getElem? e, z.symm⟩)
        rw [List.find?_cons, decide_eq_false ne]
        exact ih i p nd.2 e
  refine key (kvN as) k (.inl (k : Int), V.ref as[k]) (by rw [kvN_keys]; exact keysN_nodup _) ?_
  unfold kvN
  rw [List.getElem?_map, List.getElem?_zipIdx, List.getElem?_eq_getElem h]
  simp
/-- the lists at as hold ls, the dict at q tells where they stand; what stood at H stands there -/
structure Near (K : PySem.W.Frag) (H : Hp) (q : Addr) (as : List Addr) (ls : Nat → List Int) (H' : Hp) : Prop where
  sm : Same H H'
  fq : H q = none
  fa : ∀ a ∈ as, H a = none
  nd : as.Nodup
  nq : q ∉ as
  dq : H' q = some (.dK (kvN as))
  da : ∀ (k : Nat) (a : Addr), as[k]? = some a → H' a = some (.lst ((ls k).map V.int))
section
variable {K : PySem.W.Frag} {H H' : Hp} {q : Addr} {as : List Addr} {ls : Nat → List Int}
/-- one more in the k-th list -/
theorem Near.put (N : Near K H q as ls H') {k : Nat} {a : Addr} (ha : as[k]? = some a) (v : Int) : Near K H q as (fun j => if j = k then ls j ++ [v] else ls j) (upd H' a (.lst ((ls k).map V.int ++ [.int v]))) := by
  have ma := List.mem_of_getElem? ha
  refine ⟨fun b o e => ?_, N.fq, N.fa, N.nd, N.nq, ?_, fun j b hb => ?_⟩
  · rw [upd_ne (fun z => by rw [z, N.fa a ma] at e; cases e)]
    exact N.sm b o e
  · rw [upd_ne (fun z => N.nq (by rw [z]; exact ma))]
    exact N.dq
  · by_cases c : j = k
    · subst c
      rw [ha] at hb
      cases hb
      rw [upd_same, if_pos rfl, List.map_append]
      rfl
    · have ne : b ≠ a := fun z => c (by
        have h1 := (List.getElem?_eq_some_iff.mp hb)
        have h2 := (List.getElem?_eq_some_iff.mp ha)
        exact (List.getElem_inj N.nd).mp (h1.2.trans (z.trans h2.2.symm)))
      rw [upd_ne ne, if_neg c]
      exact N.da j b hb
theorem Near.ext (N : Near K H q as ls H') {ls' : Nat → List Int} (e : ∀ k, ls' k = ls k) : Near K H q as ls' H' := ⟨N.sm, N.fq, N.fa, N.nd, N.nq, N.dq, fun k a h => by rw [e]; exact N.da k a h⟩
end
end Wn

set_option Elab.async false
set_option linter.all false
set_option maxRecDepth 100000
set_option maxHeartbeats 4000000
namespace Wn
open PySem PySem.Spec PyProof.Rows L2
theorem paired_ix {α β : Type} {F : α → β → Prop} : ∀ (l : List α) (m : List β), l.length = m.length → (∀ (i : Nat) (a : α) (b : β), l[i]? = some a → m[i]? = some b → F a b) → Paired F l m
  | [], [], _, _ => .nil
  | a :: l, b :: m, e, h => .cons (h 0 a b rfl rfl) (paired_ix l m (by simpa using e) fun i x y h1 h2 => h (i + 1) x y (by simpa using h1) (by simpa using h2))
  | [], _ :: _, e, _ => nomatch e
  | _ :: _, [], e, _ => nomatch e
theorem RpA.ix {K : PySem.W.Frag} {G : Hp} : ∀ (ds : List D) (us : List V), ds.length = us.length → (∀ (i : Nat) (d : D) (v : V), ds[i]? = some d → us[i]? = some v → Rp K G d v) → RpA K G ds us
  | [], [], _, _ => rfl
  | d :: ds, u :: us, e, h => ⟨u, us, rfl, h 0 d u rfl rfl, RpA.ix ds us (by simpa using e) fun i x y h1 h2 => h (i + 1) x y (by simpa using h1) (by simpa using h2)⟩
  | [], _ :: _, e, _ => nomatch e
  | _ :: _, [], e, _ => nomatch e
def rDictP (K : PySem.W.Frag) : List V → Hp → VK → Prop := fun xs H Q => ∃ (a : Addr) (ps : List Addr) (kvs : List (Key × V)), xs = [.ref a] ∧ SqL K H a (ps.map V.ref) ∧ Paired (fun p kv => SqT K H p [kV kv.1, kv.2]) ps kvs ∧ ∀ p, H p = none → Q (.ref p) (upd H p (.dK (mergeK [] kvs)))
def tNearS (K : PySem.W.Frag) (nS pegS nearS : Nat) : TS := tAsg (tCB (rDictP K) (tCons (L2.tLc (iRng1 (tCons (tVar nS) tNil)) (gName pegS) tYes (tTup (tCons (tVar pegS) (tCons (tLst tNil) tNil))) [pegS]) tNil)) (gName nearS)
def tNearP (K : PySem.W.Frag) (nearS a b : Nat) : TS := tDrop (tBM K "list" rAppend (tDGet (tVar nearS) (tVar a)) (tCons (tVar b) tNil))
def tNearF (K : PySem.W.Frag) (lS nearS oneS othS loopS : Nat) : TS := tFor (iList K (tVar lS)) (L2.gTup K 3 (gCons (gName oneS) (gCons (gName othS) (gCons (gName loopS) gNil)))) (tSeq (tNearP K nearS oneS othS) (tNearP K nearS othS oneS))
section
variable {K : PySem.W.Frag} {D : Ends} {σ : L2.St} {H : Hp} {n : Nat} {nS pegS nearS : Nat}
theorem near_made (hn : σ[nS]? = some (some (.int n))) (hb : n ≤ 100000) (hp : pegS < σ.length) (k : ∀ q as H', as.length = n → Near K H q as (fun _ => []) H' → D.nx (σ.set nearS (some (.ref q))) H') : tNearS K nS pegS nearS D σ H := by
  refine ⟨.int n, hn, (n : Int), rfl, by omega, by omega, fun L hL => lc_range (lo := 0) (n := (n : Int).toNat) (fun i H' => ∃ qs : List (Addr × Addr), qs.length = i ∧ (qs.map (·.2)).Nodup ∧ H' L = some (.lst (qs.map fun p => V.ref p.1)) ∧
    (∀ (j : Nat) p, qs[j]? = some p → H' p.1 = some (.tup [.int (j : Int), .ref p.2]) ∧ H' p.2 = some (.lst []) ∧ H p.2 = none ∧ p.1 ≠ L ∧ p.2 ≠ L) ∧ Same H H') ?_ (fun i H' hi ⟨qs, q1, q2, q3, q4, q5⟩ => ?_) fun H' ⟨qs, q1, q2, q3, q4, q5⟩ => ?_⟩
  · exact ⟨[], rfl, List.nodup_nil, upd_same, fun j p e => by simp at e, Wn.Same.new hL⟩
  · have hp' : pegS < (wipe σ [pegS]).length := by rw [wipe_length]; exact hp
    refine ⟨wipe_agree (Agree.refl.set (List.mem_singleton.mpr rfl)) (fun i h => h), ?_⟩
    unfold tYes
    dsimp only
    rw [if_pos rfl]
    refine ⟨.int (0 + i), List.getElem?_set_self hp', Nat.zero_le _, fun a ha => ⟨by show 2 ≤ sizeLine; rw [sizeLine_eq]; omega, fun t ht => ?_⟩⟩
    have aL : a ≠ L := fun z => by rw [z, q3] at ha; cases ha
    have ta : t ≠ a := fun z => by rw [z, upd_same] at ht; cases ht
    rw [upd_ne ta] at ht
    have tL : t ≠ L := fun z => by rw [z, q3] at ht; cases ht
    have hlen : (qs.map fun p => V.ref p.1).length < sizeLine := by rw [List.length_map, q1, sizeLine_eq]; omega
    refine ⟨qs.map fun p => V.ref p.1, by rw [upd_ne (Ne.symm tL), upd_ne (Ne.symm aL)]; exact q3, hlen, qs ++ [(t, a)], by simp [q1], ?_, by rw [upd_same]; simp, fun j p e => ?_, fun b o e => ?_⟩
    · rw [List.map_append]
      refine List.nodup_append.mpr ⟨q2, by simp, fun x hx y hy z => ?_⟩
      obtain ⟨p, hp1, hp2⟩ := List.mem_map.mp hx
      obtain ⟨j, hj⟩ := List.mem_iff_getElem?.mp hp1
      have := (q4 j p hj).2.1
      rw [show y = a from by simpa using hy] at z
      rw [hp2, z, ha] at this
      cases this
    · rcases Nat.lt_or_ge j qs.length with c | c
      · rw [List.getElem?_append_left c] at e
        obtain ⟨w1, w2, w3, w4, w5⟩ := q4 j p e
        have n1 : p.1 ≠ a := fun z => by rw [z, ha] at w1; cases w1
        have n2 : p.1 ≠ t := fun z => by rw [z, ht] at w1; cases w1
        have n3 : p.2 ≠ a := fun z => by rw [z, ha] at w2; cases w2
        have n4 : p.2 ≠ t := fun z => by rw [z, ht] at w2; cases w2
        exact ⟨by rw [upd_ne w4, upd_ne n2, upd_ne n1]; exact w1, by rw [upd_ne w5, upd_ne n4, upd_ne n3]; exact w2, w3, w4, w5⟩
      · rw [List.getElem?_append_right c] at e
        have ej : j = qs.length := by
          rcases Nat.lt_or_eq_of_le c with z | z
          · rw [List.getElem?_eq_none (by simp; omega)] at e
            cases e
          · exact z.symm
        rw [ej, Nat.sub_self] at e
        cases (show some (t, a) = some p from e)
        have fa : H a = none := by
          cases z : H a with
          | none => rfl
          | some o =>
            have := q5 a o z
            rw [ha] at this
            cases this
        refine ⟨?_, ?_, fa, tL, aL⟩
        · rw [upd_ne tL, upd_same, ej, q1, Int.zero_add]
        · rw [upd_ne aL, upd_ne (Ne.symm ta), upd_same]
    · have e' := q5 b o e
      rw [upd_ne (fun z => by rw [z, hL] at e; cases e), upd_ne (fun z => by rw [z, ht] at e'; cases e'), upd_ne (fun z => by rw [z, ha] at e'; cases e')]
      exact e'
  · have en : (n : Int).toNat = n := Int.toNat_natCast n
    rw [en] at q1
    have mg : mergeK [] (kvN (qs.map (·.2))) = kvN (qs.map (·.2)) := merge_new _ [] (by rw [List.nil_append, kvN_keys]; exact keysN_nodup _)
    refine ⟨L, qs.map (·.1), kvN (qs.map (·.2)), rfl, .of (by rw [q3, List.map_map]; rfl), paired_ix _ _ (by simp [kvN]) fun i a kv h1 h2 => ?_, fun p hp' => ?_⟩
    · rw [List.getElem?_map] at h1
      obtain ⟨x, hx, ex⟩ := Option.map_eq_some_iff.mp h1
      unfold kvN at h2
      rw [List.getElem?_map, List.getElem?_zipIdx, List.getElem?_map, hx] at h2
      have h2 : some ((Sum.inl ((0 + i : Nat) : Int) : Key), V.ref x.2) = some kv := h2
      cases h2
      rw [← ex, Nat.zero_add]
      exact .of (q4 i x hx).1
    · rw [mg]
      refine k p (qs.map (·.2)) _ (by rw [List.length_map, q1]) ⟨fun b o e => ?_, ?_, fun a ha => ?_, q2, fun z => ?_, upd_same, fun j a ha => ?_⟩
      · have e' := q5 b o e
        rw [upd_ne (fun z => by rw [z, hp'] at e'; cases e')]
        exact e'
      · cases z : H p with
        | none => rfl
        | some o =>
          have := q5 p o z
          rw [hp'] at this
          cases this
      · obtain ⟨x, hx, ex⟩ := List.mem_map.mp ha
        obtain ⟨j, hj⟩ := List.mem_iff_getElem?.mp hx
        rw [← ex]
        exact (q4 j x hj).2.2.1
      · obtain ⟨x, hx, ex⟩ := List.mem_map.mp z
        obtain ⟨j, hj⟩ := List.mem_iff_getElem?.mp hx
        have := (q4 j x hj).2.1
        rw [ex, hp'] at this
        cases this
      · rw [List.getElem?_map] at ha
        obtain ⟨x, hx, ex⟩ := Option.map_eq_some_iff.mp ha
        have := (q4 j x hx).2.1
        rw [← ex, upd_ne (fun z => by rw [z, hp'] at this; cases this)]
        exact this
variable {lS oneS othS loopS : Nat} {q la : Addr} {as : List Addr} {us : List V} {es : List Edge} {G : Hp}
theorem near_fill {H1 : Hp} (N : Near K H q as (fun _ => []) H1) (hq : σ[nearS]? = some (some (.ref q))) (hl : σ[lS]? = some (some (.ref la))) (hG : Same G H) (ha : G la = some (.lst us)) (r : RpA K G (es.map edgeD) us) (few : es.length ≤ 10000)
    (bd : ∀ e ∈ es, e.1 < as.length ∧ e.2.1 < as.length) (l1 : oneS < σ.length) (l2 : othS < σ.length) (l3 : loopS < σ.length) (d1 : nearS ≠ oneS) (d2 : nearS ≠ othS) (d3 : nearS ≠ loopS) (d4 : oneS ≠ othS) (d5 : oneS ≠ loopS) (d6 : othS ≠ loopS)
    (k : ∀ σ' H', Agree [oneS, othS, loopS] σ σ' → Near K H q as (adjL es) H' → D.nx σ' H') : tNearF K lS nearS oneS othS loopS D σ H1 := by
  have len : us.length = es.length := by rw [r.len, List.length_map]
  refine ⟨.ref la, hl, la, rfl, ⟨us, .of (N.sm _ _ (hG _ _ ha))⟩, for_list (K := K) (a := la) (xs := us) (fun i σ' H' => Agree [oneS, othS, loopS] σ σ' ∧ Near K H q as (adjL (es.take i)) H') ⟨.refl, N.ext fun j => rfl⟩ (fun i σ' H' _ ⟨_, N'⟩ => .of (N'.sm _ _ (hG _ _ ha))) (fun i x σ' H' hx ⟨ag, N'⟩ => ?_) fun σ' H' ⟨ag, N'⟩ => ?_⟩
  · have il : i < es.length := by
      rw [← len]
      exact (List.getElem?_eq_some_iff.mp hx).1
    obtain ⟨y, hy, t, xs, e1, h1, h2⟩ := r.get (i := i) (d := edgeD es[i]) (by rw [List.getElem?_map, List.getElem?_eq_getElem il]; rfl)
    rw [hx] at hy
    cases hy
    obtain ⟨v1, r1, ee1, w1, v2, r2, ee2, w2, v3, r3, ee3, w3, ee4⟩ := h2
    have w1 : v1 = V.int (es[i].1 : Nat) := w1
    have w2 : v2 = V.int (es[i].2.1 : Nat) := w2
    have w3 : v3 = V.int es[i].2.2 := w3
    subst w1 w2 w3 ee4 ee3 ee2 ee1
    have lens : σ'.length = σ.length := ag.1
    refine ⟨t, _, e1, .of (N'.sm _ _ (hG _ _ h1)), rfl, _, _, rfl, _, _, rfl, _, _, rfl, rfl, ?_⟩
    have ag2 : Agree [oneS, othS, loopS] σ (((σ'.set oneS (some (.int (es[i].1 : Nat)))).set othS (some (.int (es[i].2.1 : Nat)))).set loopS (some (.int es[i].2.2))) := ag.trans (((Agree.refl.set (by simp)).set (by simp)).set (by simp))
    have n0 : nearS ∉ [oneS, othS, loopS] := by simp [d1, d2, d3]
    generalize hσ : ((σ'.set oneS (some (V.int (es[i].1 : Nat)))).set othS (some (V.int (es[i].2.1 : Nat)))).set loopS (some (V.int es[i].2.2)) = σ2 at ag2
    have s0 : σ2[nearS]? = some (some (.ref q)) := by rw [ag2.2 _ n0, hq]
    have s1 : σ2[oneS]? = some (some (.int (es[i].1 : Nat))) := by
      rw [← hσ, List.getElem?_set_ne (Ne.symm d5), List.getElem?_set_ne (Ne.symm d4), List.getElem?_set_self (by omega)]
    have s2 : σ2[othS]? = some (some (.int (es[i].2.1 : Nat))) := by
      rw [← hσ, List.getElem?_set_ne (Ne.symm d6), List.getElem?_set_self (by rw [List.length_set]; omega)]
    obtain ⟨b1, b2⟩ := bd _ (List.getElem_mem il)
    have few2 : ∀ j, (adjL (es.take i) j).length ≤ 20000 := fun j => by
      have := adjL_len (es.take i) j
      rw [List.length_take] at this
      omega
    obtain ⟨⟨u, v, w⟩, hes⟩ : ∃ z, es[i] = z := ⟨_, rfl⟩
    rw [hes] at s1 s2 b1 b2
    dsimp only at s1 s2 b1 b2
    have h1' := N'.da u as[u] (List.getElem?_eq_getElem b1)
    have N2 := N'.put (List.getElem?_eq_getElem b1) (v : Int)
    have h2' := N2.da v as[v] (List.getElem?_eq_getElem b2)
    have N3 := N2.put (List.getElem?_eq_getElem b2) (u : Int)
    refine ⟨.ref q, s0, .int (u : Nat), s1, q, .ref as[u], rfl, ?_, Or.inl ⟨rfl, _, .of h1'⟩, .int (v : Nat), s2, _, _, _, rfl, rfl, h1', by rw [List.length_map, sizeLine_eq]; have := few2 u; omega, ?_⟩
    · rw [← kvN_at b1]
      exact DGet.k (k := .inl (u : Int)) N'.dq
    refine ⟨.ref q, s0, .int (v : Nat), s2, q, .ref as[v], rfl, ?_, Or.inl ⟨rfl, _, .of h2'⟩, .int (u : Nat), s1, _, _, _, rfl, rfl, h2', ?_, ag2, ?_⟩
    · rw [← kvN_at b2]
      exact DGet.k (k := .inl (v : Int)) N2.dq
    · rw [List.length_map, sizeLine_eq]
      have := few2 v
      split <;> simp <;> omega
    · refine N3.ext fun j => ?_
      rw [List.take_succ, List.getElem?_eq_getElem il, hes, Option.toList_some, adjL_snoc]
      dsimp only
      by_cases c1 : u = j
      · by_cases c2 : v = j
        · simp [c1, c2]
        · simp [c1, c2, Ne.symm c2]
      · by_cases c2 : v = j
        · simp [c1, c2, Ne.symm c1]
        · simp [c1, c2, Ne.symm c1, Ne.symm c2]
  · rw [len, List.take_length] at N'
    exact k σ' H' ag N'
end
end Wn

set_option Elab.async false
set_option linter.all false
set_option maxRecDepth 100000
set_option maxHeartbeats 4000000
namespace Wn
open PySem PySem.Spec PyProof.Rows L2
def lstsN (es : List Edge) (n : Nat) : List D := (List.range n).map fun k => .lst ((adjL es k).map D.int)
def tAdj (nS lS nearS oneS othS loopS pegS : Nat) (u : TDS) : TDS := fun δ Z => ((nearS < δ.sl.length ∧ pegS < δ.sl.length ∧ oneS < δ.sl.length) ∧ othS < δ.sl.length ∧ loopS < δ.sl.length) ∧ ∃ (n : Nat) (es : List Edge), δ.sl[nS]? = some (.d (.int n)) ∧ δ.sl[lS]? = some (.d (.lst (es.map edgeD))) ∧ n ≤ 100000 ∧ es.length ≤ 10000 ∧ (∀ e ∈ es, e.1 < n ∧ e.2.1 < n) ∧
  u ⟨δ.s, fgL [oneS, othS, loopS] (δ.sl.set nearS (.d (.dK (keysN n) (lstsN es n))))⟩ Z
theorem fgL_get : ∀ (js : List Nat) (l : List Slot) (i : Nat), i ∈ js → (fgL js l)[i]? = some .no ∨ (fgL js l)[i]? = none := by
  have stay : ∀ (js : List Nat) (l : List Slot) (i : Nat), (l[i]? = some .no ∨ l[i]? = none) → ((fgL js l)[i]? = some .no ∨ (fgL js l)[i]? = none) := by
    intro js
    induction js with
    | nil => exact fun l i h => h
    | cons j js ih =>
      intro l i h
      refine ih _ i ?_
      by_cases c : j = i
      · subst c
        by_cases q : j < l.length
        · exact .inl (List.getElem?_set_self q)
        · exact .inr (List.getElem?_eq_none (by rw [List.length_set]; omega))
      · rw [List.getElem?_set_ne c]
        exact h
  intro js
  induction js with
  | nil => exact fun l i h => nomatch h
  | cons j js ih =>
    intro l i h
    rcases List.mem_cons.mp h with e | e
    · subst e
      refine stay js _ i ?_
      by_cases q : i < l.length
      · exact .inl (List.getElem?_set_self q)
      · exact .inr (List.getElem?_eq_none (by rw [List.length_set]; omega))
    · exact ih _ i e
theorem fgL_len : ∀ (js : List Nat) (l : List Slot), (fgL js l).length = l.length
  | [], _ => rfl
  | j :: js, l => by
    unfold fgL
    rw [fgL_len js, List.length_set]
section
variable {K : PySem.W.Frag} {T : Tbl} {G0 H0 G H H' : Hp} {σ σ' : L2.St} {δ : DE} {q : Addr} {as : List Addr} {es : List Edge}
/-- the names at js have been given other values -/
theorem Rep.agree (R : Rep K T G0 H0 G H σ δ) {js : List Nat} (a : Agree js σ σ') : Rep K T G0 H0 G H σ' ⟨δ.s, fgL js δ.sl⟩ := by
  have F := R.fg js
  have out : ∀ {i : Nat}, isOwn (fgL js δ.sl)[i]? = true → i ∉ js := fun {i} h z => by
    rcases fgL_get js δ.sl i z with e | e <;> rw [e] at h <;> cases h
  refine ⟨F.st, F.src, F.tab, by rw [a.1]; exact F.len, fun i o h => ?_, fun i j b hij h1 h2 e1 e2 => ?_⟩
  · by_cases c : i ∈ js
    · have eo : o = .no := by
        rcases fgL_get js δ.sl i c with e | e
        · exact Option.some.inj (h.symm.trans e)
        · cases h.symm.trans e
      have il : i < σ'.length := by
        rw [a.1, R.len, ← fgL_len js δ.sl]
        exact (List.getElem?_eq_some_iff.mp h).1
      rw [eo]
      exact ⟨_, List.getElem?_eq_getElem il, trivial⟩
    · obtain ⟨v, e, r⟩ := F.sl i o h
      exact ⟨v, by rw [a.2 i c]; exact e, r⟩
  · rw [a.2 i (out h1)] at e1
    rw [a.2 j (out h2)] at e2
    exact F.un i j b hij h1 h2 e1 e2
/-- what has been made stands still -/
theorem Near.fz (N : Near K H q as (adjL es) H') (R : Rep K T G0 H0 G H σ δ) : ∃ G', Stp T δ.s G G' H H' ∧ Rp K G' (.dK (keysN as.length) (lstsN es as.length)) (.ref q) := by
  have mine : ∀ b, b = q ∨ b ∈ as → H b = none := fun b h => by
    rcases h with e | e
    · rw [e]
      exact N.fq
    · exact N.fa b e
  have src : ∀ b, H b = none → δ.s ≠ some b := fun b h z => by
    obtain ⟨x, y, e, _⟩ := R.src b z
    rw [h] at e
    cases e
  have gH : Same G H := R.gv.trans vw_sub
  refine ⟨fun b => if b = q ∨ b ∈ as then H' b else G b, ⟨.of_same N.sm, fun b o e => ?_, fun b o e => ?_, fun b hb => ?_⟩, q, kvN as, rfl, (by show (if q = q ∨ q ∈ as then H' q else G q) = _; rw [if_pos (.inl rfl)]; exact N.dq), kvN_keys as, ?_⟩
  · have nb : ¬ (b = q ∨ b ∈ as) := fun z => by
      have := gH b o e
      rw [mine b z] at this
      cases this
    rw [if_neg nb]
    exact e
  · by_cases c : b = q ∨ b ∈ as
    · rw [if_pos c] at e
      refine vw_at e (src b (mine b c)) ?_
      rcases c with c | c
      · rw [c, N.dq] at e
        cases e
        exact fun ps z => by cases z
      · obtain ⟨k, hk⟩ := List.mem_iff_getElem?.mp c
        rw [N.da k b hk] at e
        cases e
        exact fun ps z => by cases z
    · rw [if_neg c] at e
      obtain ⟨e1, e2, e3⟩ := vw_of (R.gv b o e)
      exact vw_at (N.sm b o e1) e2 e3
  · by_cases c : b = q ∨ b ∈ as
    · exact .inr (mine b c)
    · rw [if_neg c] at hb
      exact .inl hb
  · rw [kvN_vals]
    refine RpA.ix _ _ (by unfold lstsN; simp) fun i d v h1 h2 => ?_
    rw [List.getElem?_map] at h2
    obtain ⟨a, ha, ea⟩ := Option.map_eq_some_iff.mp h2
    have il := (List.getElem?_eq_some_iff.mp ha).1
    unfold lstsN at h1
    rw [List.getElem?_map, List.getElem?_range il] at h1
    have h1 : some (D.lst ((adjL es i).map D.int)) = some d := h1
    cases h1
    exact ⟨a, _, ea.symm, (by show (if a = q ∨ a ∈ as then H' a else G a) = _; rw [if_pos (.inr (List.mem_of_getElem? ha))]; exact N.da i a ha), .of_ints _⟩
end
section
variable {X : Cx} {T : Tbl} {E : XK} {st2 st3 : Stmt} {rest : List Stmt} {u : TDS}
theorem pd_adj (nS lS nearS oneS othS loopS pegS : Nat) (h2 : PS X st2 (tNearS X.K nS pegS nearS)) (h3 : PS X st3 (tNearF X.K lS nearS oneS othS loopS)) (hr : PSs X rest (Wn.lS X.K T E u))
    (hd : (decide (nearS ≠ oneS ∧ nearS ≠ othS ∧ nearS ≠ loopS) && (decide (oneS ≠ othS ∧ oneS ≠ loopS ∧ othS ≠ loopS) && decide (lS ≠ nearS))) = true) : PSs X (st2 :: st3 :: rest) (Wn.lS X.K T E (tAdj nS lS nearS oneS othS loopS pegS u)) := by
  rw [Bool.and_eq_true, Bool.and_eq_true, decide_eq_true_eq, decide_eq_true_eq, decide_eq_true_eq] at hd
  obtain ⟨⟨d1, d2, d3⟩, ⟨d4, d5, d6⟩, d7⟩ := hd
  refine pss_imp (pss_cons h2 (pss_cons h3 hr)) fun D σ H ⟨δ, G0, H0, G, Z, R, ⟨⟨⟨nl, b1, b2⟩, b3, b4⟩, n, es, e1, e2, n1, n2, n3, hu⟩, F⟩ => ?_
  rw [← R.len] at nl b1 b2 b3 b4
  obtain ⟨v1, s1, r1⟩ := rep_d R e1
  rw [show v1 = V.int (n : Nat) from r1] at s1
  obtain ⟨v2, s2, la, us, ev2, g2, r2⟩ := rep_d R e2
  refine near_made s1 n1 b1 fun q as H1 len N => ?_
  rw [ev2] at s2
  have hσ : (σ.set nearS (some (V.ref q))).length = σ.length := List.length_set ..
  refine near_fill (σ := σ.set nearS (some (V.ref q))) (G := G) N (List.getElem?_set_self nl) (by rw [List.getElem?_set_ne (Ne.symm d7)]; exact s2) (R.gv.trans vw_sub) g2 r2 n2 (by rw [len]; exact n3) (by omega) (by omega) (by omega) d1 d2 d3 d4 d5 d6 fun σ' H' ag N' => ?_
  obtain ⟨G', x, rp⟩ := N'.fz R
  rw [len] at rp
  have R2 := ((R.stp x).setD (i := nearS) rp).agree ag
  exact ⟨_, G0, H0, G', Z, R2, hu, F.up x.gg⟩
end
end Wn

set_option Elab.async false
set_option linter.all false
set_option maxRecDepth 100000
set_option maxHeartbeats 4000000
namespace Wn
open PySem PySem.Spec PyProof.Rows L2

def errN : List Str := ["InvalidScript", "InvalidRing", "InvalidPeg", "InvalidIndex", "InvalidWord", "InvalidLength", "InvalidSeen", "InvalidNumber", "InvalidText", "AllLaid", "NothingToUndo"]
def Cs (A : Str → Addr) (C : Addr) : Prop := ∃ y ∈ errN, C = A y

@[simp] def N_is_within : List Str := ["value", "low", "high"]
def t_is_within (A : Str → Addr) : TDS :=
  (tRt (tAndD (tIs .int (tR 0)) (tAndD (tNotD (tIs .bl (tR 0))) (tCh dLe dLe (tR 1) (tR 0) (tR 2)))))
def f_is_within (A : Str → Addr) : Fn := bodyF N_is_within (t_is_within A)

@[simp] def N_is_step : List Str := ["value"]
def t_is_step (A : Str → Addr) : TDS :=
  (tRt (tAndD (tCl 3 (f_is_within A) (tA1 (tN 0) (tA1 (tNeg (tK (.int (11)))) (tA1 (tK (.int (11))) tA0)))) (t2 (dEq true) (tR 0) (tK (.int 0)))))
def f_is_step (A : Str → Addr) : Fn := bodyF N_is_step (t_is_step A)

@[simp] def N_is_right_script : List Str := ["value", "step"]
def t_is_right_script (A : Str → Addr) : TDS :=
  (sqD (tIf (tOrB (tNotB (tBl (tIs .tup (tR 0)))) (tNotB (tBl (tCh dLe dLe (tK (.int 1)) (tCD fLen (tA1 (tR 0) tA0)) (tK (.int (5))))))) (tRt (tK (.bl false))) nxD)
  (tRt (tAndD (tCD fAll (tA1 (tNF (tLc (tTupI (tN 0)) [1] (gN 1) yesD (tCl 1 (f_is_step A) (tA1 (tN 1) tA0)))) tA0)) (t2 (dEq true) (tCD fSum (tA1 (tNF (tLc (tTupI (tN 0)) [1] (gN 1) (tBl (tCl 1 (f_is_step A) (tA1 (tN 1) tA0))) (tN 1))) tA0)) (tK (.int 0))))))
def f_is_right_script (A : Str → Addr) : Fn := bodyF N_is_right_script (t_is_right_script A)

@[simp] def N_need_script : List Str := ["value"]
def t_need_script (A : Str → Addr) : TDS :=
  (tFgE [0] (tIf (tNotB (tBl (tCl 1 (f_is_right_script A) (tA1 (tN 0) tA0)))) (tRs (A "InvalidScript")) nxD))
def f_need_script (A : Str → Addr) : Fn := bodyF N_need_script (t_need_script A)

@[simp] def N_need_ring : List Str := ["value"]
def t_need_ring (A : Str → Addr) : TDS :=
  (tFgE [0] (tIf (tNotB (tBl (tCl 3 (f_is_within A) (tA1 (tN 0) (tA1 (tK (.int (24))) (tA1 (tK (.int (1000000000000000000000000000000))) tA0)))))) (tRs (A "InvalidRing")) nxD))
def f_need_ring (A : Str → Addr) : Fn := bodyF N_need_ring (t_need_ring A)

@[simp] def N_shared : List Str := ["one", "other"]
def t_shared (A : Str → Addr) : TDS :=
  (sqD (tPar2 0 1 (tMF (tCD fAbs (tA1 (tR 0) tA0)) (tMF (tCD fAbs (tA1 (tR 1) tA0)) tM0)))
  (sqD (tFgE [1] (tWh (tBl (t2 (dEq true) (tR 1) (tK (.int 0))))
  (tPar2 0 1 (tMF (tN 1) (tMF (t2 dMod (tR 0) (tR 1)) tM0)))))
  (tRt (tN 0))))
def f_shared (A : Str → Addr) : Fn := bodyF N_shared (t_shared A)

@[simp] def N_offsets_of : List Str := ["script", "found", "here", "step"]
def t_offsets_of (A : Str → Addr) : TDS :=
  (sqD (tPar2 1 2 (tMN (tSize tA0) (tMF (tK (.int 0)) tM0)))
  (sqD (tFgE [0, 2, 3] (tForL (tTupI (tN 0)) (gN 3)
  (sqD (tApp 1 (tN 2))
  (tFgE [3] (tSet 2 (t2 dAdd (tR 2) (tR 3)))))))
  (tRo 1)))
def f_offsets_of (A : Str → Addr) : FnL := bodyN N_offsets_of (t_offsets_of A)

@[simp] def N_starts_by : List Str := ["script", "part", "found", "come_to", "peg", "offset"]
def t_starts_by (A : Str → Addr) : TDS :=
  (sqD (tPar2 2 3 (tMN (tSize tA0) (tMK tM0)))
  (sqD (tFgE [0, 1, 3, 4, 5] (tForL (tRg1 (tA1 (tR 1) tA0)) (gN 4)
  (tFgE [4, 5] (tIf (tBl (tInK true 3 (tR 4))) (sqD (tApp 2 (tN 4))
  (tFgE [4, 5] (tForL (tItl (tNF (tClN 1 (f_offsets_of A) (tA1 (tN 0) tA0)))) (gN 5)
  (tFgE [5] (tPutK 3 (t2 dMod (t2 dAdd (tR 4) (tR 5)) (tR 1)) (tK (.bl true))))))) nxD))))
  (tRo 2)))
def f_starts_by (A : Str → Addr) : FnL := bodyN N_starts_by (t_starts_by A)

@[simp] def N_part_of : List Str := ["script", "n"]
def t_part_of (A : Str → Addr) : TDS :=
  (tRt (tCl 2 (f_shared A) (tA1 (tN 1) (tA1 (tCD fSum (tA1 (tR 0) tA0)) tA0))))
def f_part_of (A : Str → Addr) : Fn := bodyF N_part_of (t_part_of A)

@[simp] def N_rounds_of : List Str := ["script", "n"]
def t_rounds_of (A : Str → Addr) : TDS :=
  (tRt (t2 dFdiv (tR 1) (tCl 2 (f_part_of A) (tA1 (tN 0) (tA1 (tN 1) tA0)))))
def f_rounds_of (A : Str → Addr) : Fn := bodyF N_rounds_of (t_rounds_of A)

@[simp] def N_count_of : List Str := ["script", "n"]
def t_count_of (A : Str → Addr) : TDS :=
  (tRt (t2 dMul (t2 dMul (tCD fLen (tA1 (tNF (tClN 2 (f_starts_by A) (tA1 (tN 0) (tA1 (tCl 2 (f_part_of A) (tA1 (tN 0) (tA1 (tN 1) tA0))) tA0)))) tA0)) (tCD fLen (tA1 (tR 0) tA0))) (tCl 2 (f_rounds_of A) (tA1 (tN 0) (tA1 (tN 1) tA0)))))
def f_count_of (A : Str → Addr) : Fn := bodyF N_count_of (t_count_of A)

@[simp] def N_families_by : List Str := ["script", "part", "found", "loop", "start", "number", "offset", "step"]
def t_families_by (A : Str → Addr) : TDS :=
  (sqD (tSetN 2 (tSize tA0))
  (sqD (tFgE [0, 1, 3, 4, 5, 6, 7] (tForL (tEnum (tItl (tNF (tClN 2 (f_starts_by A) (tA1 (tN 0) (tA1 (tN 1) tA0)))))) (gT [3, 4])
  (tFgE [3, 4, 5, 6, 7] (tForL (tEnum (tItl (tNF (tClN 1 (f_offsets_of A) (tA1 (tN 0) tA0))))) (gT [5, 6])
  (sqD (tSet 7 (tIx (tN 0) (tR 5)))
  (tFgE [5, 6, 7] (tApp 2 (tTupD (tA1 (tN 3) (tA1 (tN 5) (tA1 (t2 dAdd (t2 dAdd (tR 4) (tR 6)) (tIfE (tBl (t2 dLt (tR 7) (tK (.int 0)))) (tN 7) (tK (.int 0)))) (tA1 (tCD fAbs (tA1 (tR 7) tA0)) tA0))))))))))))
  (tRo 2)))
def f_families_by (A : Str → Addr) : FnL := bodyN N_families_by (t_families_by A)

@[simp] def N_labels_by : List Str := ["script", "part", "found", "start", "some", "offset", "least", "label"]
def t_labels_by (A : Str → Addr) : TDS :=
  (sqD (tSet 2 (tNF (tLR1 (tR 1))))
  (sqD (tFgE [0, 1, 3, 4, 6] (tForL (tItl (tNF (tClN 2 (f_starts_by A) (tA1 (tN 0) (tA1 (tN 1) tA0))))) (gN 3)
  (sqD (tFgE [3] (tSet 4 (tNF (tLc (tClN 1 (f_offsets_of A) (tA1 (tN 0) tA0)) [5] (gN 5) yesD (tIx (tN 2) (t2 dMod (t2 dAdd (tR 3) (tR 5)) (tR 1)))))))
  (sqD (tSet 6 (tCD fMin (tA1 (tNF (tLc (tItl (tN 4)) [7] (gN 7) yesD (tCD fInt (tA1 (tR 7) tA0)))) tA0)))
  (tFgE [3, 4, 6] (tSet 2 (tNF (tLc (tItl (tN 2)) [7] (gN 7) yesD (tIfE (tBl (t2 (dIn false) (tR 7) (tR 4))) (tN 6) (tN 7))))))))))
  (tRt (tN 2))))
def f_labels_by (A : Str → Addr) : Fn := bodyF N_labels_by (t_labels_by A)

@[simp] def N_crosses_behind : List Str := ["long", "other_long", "gap"]
def t_crosses_behind (A : Str → Addr) : TDS :=
  (tRt (tCh dLt dLt (tR 2) (tR 0) (t2 dAdd (tR 2) (tR 1))))
def f_crosses_behind (A : Str → Addr) : Fn := bodyF N_crosses_behind (t_crosses_behind A)

@[simp] def N_crossings_by : List Str := ["script", "part", "found", "families", "loop", "step", "low", "long", "other_loop", "other_step", "other_low", "other_long", "gap"]
def t_crossings_by (A : Str → Addr) : TDS :=
  (sqD (tSet 2 (tK (.int 0)))
  (sqD (tFgE [0] (tSet 3 (tNF (tClN 2 (f_families_by A) (tA1 (tN 0) (tA1 (tN 1) tA0))))))
  (sqD (tFgE [1, 3, 4, 5, 6, 7, 8, 9, 10, 11, 12] (tForL (tItl (tN 3)) (gT [4, 5, 6, 7])
  (tFgE [4, 5, 6, 7, 8, 9, 10, 11, 12] (tForL (tItl (tN 3)) (gT [8, 9, 10, 11])
  (tFgE [8, 9, 10, 11, 12] (tForL (tRg2 (tA1 (tK (.int 1)) (tA1 (tR 7) tA0))) (gN 12)
  (tFgE [12] (tIf (tAndB (tBl (t2 (dEq false) (t2 dMod (t2 dSub (t2 dAdd (tR 6) (tR 12)) (tR 10)) (tR 1)) (tK (.int 0)))) (tBl (tCl 3 (f_crosses_behind A) (tA1 (tN 7) (tA1 (tN 11) (tA1 (tN 12) tA0)))))) (tSet 2 (t2 dAdd (tR 2) (tK (.int 1)))) nxD))))))))
  (tRt (tN 2)))))
def f_crossings_by (A : Str → Addr) : Fn := bodyF N_crossings_by (t_crossings_by A)

@[simp] def N_chords_by : List Str := ["script", "part", "loop", "step", "low", "long"]
def t_chords_by (A : Str → Addr) : TDS :=
  (tRt (tLenSetT (tLc (tClN 2 (f_families_by A) (tA1 (tN 0) (tA1 (tN 1) tA0))) [2, 3, 4, 5] (gT [2, 3, 4, 5]) yesD (tTupD (tA1 (t2 dMod (tR 4) (tR 1)) (tA1 (tN 5) tA0))))))
def f_chords_by (A : Str → Addr) : Fn := bodyF N_chords_by (t_chords_by A)

@[simp] def N_top_by : List Str := ["script", "part", "word"]
def t_top_by (A : Str → Addr) : TDS :=
  (sqD (tIf (tBl (t2 (dEq false) (tR 2) (tK (.str "rounds")))) (tRt (tK (.int 1))) nxD)
  (sqD (tIf (tBl (t2 (dEq false) (tR 2) (tK (.str "spans")))) (tRt (t2 dMul (tCD fLen (tA1 (tR 0) tA0)) (tCD fLen (tA1 (tNF (tClN 2 (f_starts_by A) (tA1 (tN 0) (tA1 (tN 1) tA0)))) tA0)))) nxD)
  (tRt (tIfE (tBl (t2 (dEq false) (tR 2) (tK (.str "chords")))) (tCl 2 (f_chords_by A) (tA1 (tN 0) (tA1 (tN 1) tA0))) (tCl 2 (f_crossings_by A) (tA1 (tN 0) (tA1 (tN 1) tA0)))))))
def f_top_by (A : Str → Addr) : Fn := bodyF N_top_by (t_top_by A)

@[simp] def N_plain_by : List Str := ["script", "part", "word"]
def t_plain_by (A : Str → Addr) : TDS :=
  (sqD (tFgE [2] (tIf (tBl (t2 (dEq false) (tR 2) (tK (.str "loops")))) (tRt (tCD fLen (tA1 (tNF (tClN 2 (f_starts_by A) (tA1 (tN 0) (tA1 (tN 1) tA0)))) tA0))) nxD))
  (tRt (tLenSetI (tItl (tCl 2 (f_labels_by A) (tA1 (tN 0) (tA1 (tN 1) tA0)))))))
def f_plain_by (A : Str → Addr) : Fn := bodyF N_plain_by (t_plain_by A)

@[simp] def N_need_word : List Str := ["value", "words"]
def t_need_word (A : Str → Addr) : TDS :=
  (tFgE [0, 1] (tIf (tOrB (tNotB (tBl (tIs .str (tR 0)))) (tBl (t2 (dIn true) (tR 0) (tR 1)))) (tRs (A "InvalidWord")) nxD))
def f_need_word (A : Str → Addr) : Fn := bodyF N_need_word (t_need_word A)

@[simp] def N_count : List Str := ["script", "n", "word", "part"]
def t_count (A : Str → Addr) : TDS :=
  (sqD (tEx (tCl 1 (f_need_script A) (tA1 (tN 0) tA0)))
  (sqD (tEx (tCl 1 (f_need_ring A) (tA1 (tN 1) tA0)))
  (sqD (tEx (tCl 2 (f_need_word A) (tA1 (tN 2) (tA1 (tK (.tup (((["loops", "parts"] : List Str) ++ (["chords", "crossings", "rounds", "spans"] : List Str)).map D.str))) tA0))))
  (sqD (tSet 3 (tCl 2 (f_part_of A) (tA1 (tN 0) (tA1 (tN 1) tA0))))
  (sqD (tIf (tBl (t2 (dIn false) (tR 2) (tK (.kt ((["loops", "parts"] : List Str).map D.str))))) (tRt (tCl 3 (f_plain_by A) (tA1 (tN 0) (tA1 (tN 3) (tA1 (tN 2) tA0))))) nxD)
  (tRt (t2 dMul (tCl 3 (f_top_by A) (tA1 (tN 0) (tA1 (tN 3) (tA1 (tN 2) tA0)))) (t2 dFdivW (tR 1) (tR 3)))))))))
def f_count (A : Str → Addr) : Fn := bodyF N_count (t_count A)

@[simp] def N_count_long : List Str := ["script", "n", "long", "each", "step"]
def t_count_long (A : Str → Addr) : TDS :=
  (sqD (tEx (tCl 1 (f_need_script A) (tA1 (tN 0) tA0)))
  (sqD (tEx (tCl 1 (f_need_ring A) (tA1 (tN 1) tA0)))
  (sqD (tIf (tNotB (tBl (tCl 3 (f_is_within A) (tA1 (tN 2) (tA1 (tK (.int 1)) (tA1 (tK (.int (11))) tA0)))))) (tRs (A "InvalidLength")) nxD)
  (sqD (tFgE [1] (tSet 3 (t2 dFdivW (tCl 2 (f_count_of A) (tA1 (tN 0) (tA1 (tN 1) tA0))) (tCD fLen (tA1 (tR 0) tA0)))))
  (tRt (t2 dMul (tR 3) (tCD fLen (tA1 (tNF (tLc (tTupI (tN 0)) [4] (gN 4) (tBl (t2 (dEq false) (tCD fAbs (tA1 (tR 4) tA0)) (tR 2))) (tN 4))) tA0))))))))
def f_count_long (A : Str → Addr) : Fn := bodyF N_count_long (t_count_long A)

@[simp] def N__law_source : List Str := ["script", "k", "number", "start"]
def t__law_source (A : Str → Addr) : TDS :=
  (sqD (tSet 2 (tK (.int 0)))
  (sqD (tFgE [0] (tIf (tBl (t2 dGt (tCD fLen (tA1 (tR 0) tA0)) (tR 1))) (tFgE [0] (tSet 2 (tCD fInt (tA1 (tIx (tN 0) (tR 1)) tA0)))) nxD))
  (sqD (tSet 3 (t2 dMod (t2 dAdd (t2 dAdd (t2 dMul (tR 2) (tK (.int 16807))) (t2 dMul (tK (.int 60919)) (tR 1))) (tK (.int 31))) (tK (.int 2147481173))))
  (sqD (tFgE [1] (tSet 3 (t2 dAdd (t2 dAdd (t2 dMod (t2 dMul (tR 3) (tR 3)) (tK (.int 2147481151))) (t2 dMul (tK (.int 2)) (tR 1))) (tK (.int 5)))))
  (tRn (tSize (tA1 (tIfE (tBl (t2 dGe (tR 2) (t2 dPow (tK (.int 10)) (tK (.int 18))))) (tN 2) (tK (.int 0))) (tA1 (tN 3) tA0))))))))
def f__law_source (A : Str → Addr) : FnL := bodyN N__law_source (t__law_source A)

@[simp] def N__law_pick : List Str := ["source", "many", "found"]
def t__law_pick (A : Str → Addr) : TDS :=
  (sqD (tFgE [2] (tIf (tBl (t2 dGt (tSrcI 0 0) (tK (.int 0)))) (sqD (tSet 2 (t2 dMod (tCD fInt (tA1 (tSrcI 0 0) tA0)) (tR 1)))
  (sqD (tFgE [1] (tSrcW 0 0 (t2 dFdivW (tCD fInt (tA1 (tSrcI 0 0) tA0)) (tR 1))))
  (tRt (tN 2)))) nxD))
  (sqD (tSrcW 0 1 (t2 dMod (tCD fInt (tA1 (t2 dAdd (t2 dMul (tSrcI 0 1) (tK (.int 44497))) (tK (.int 9973))) tA0)) (tK (.int 2147483647))))
  (tRt (t2 dMod (t2 dFdivW (t2 dMod (tCD fInt (tA1 (t2 dMul (tSrcI 0 1) (tSrcI 0 1)) tA0)) (tK (.int 2147483399))) (tK (.int 11))) (tR 1)))))
def f__law_pick (A : Str → Addr) : Fn := bodyF N__law_pick (t__law_pick A)

@[simp] def N__law_chosen : List Str := ["source", "things"]
def t__law_chosen (A : Str → Addr) : TDS :=
  (tRt (tIx (tN 1) (tCl 2 (f__law_pick A) (tA1 (tN 0) (tA1 (tCD fLen (tA1 (tR 1) tA0)) tA0)))))
def f__law_chosen (A : Str → Addr) : Fn := bodyF N__law_chosen (t__law_chosen A)

@[simp] def N__law_error : List Str := ["e", "some", "word_so", "good"]
def t__law_error (A : Str → Addr) (a C : Addr) : TDS :=
  (sqD (tSetN 1 (tSize (tA1 (tTupD (tA1 (tK (.str "script")) (tA1 (tIsE a (decide (C = A "InvalidScript")) (tR 0)) tA0))) (tA1 (tTupD (tA1 (tK (.str "ring")) (tA1 (tIsE a (decide (C = A "InvalidRing")) (tR 0)) tA0))) tA0))))
  (sqD (tSetN 1 (tCatL (tOwn 1) (tSize (tA1 (tTupD (tA1 (tK (.str "peg")) (tA1 (tIsE a (decide (C = A "InvalidPeg")) (tR 0)) tA0))) (tA1 (tTupD (tA1 (tK (.str "index")) (tA1 (tIsE a (decide (C = A "InvalidIndex")) (tR 0)) tA0))) tA0)))))
  (sqD (tSetN 1 (tCatL (tOwn 1) (tSize (tA1 (tTupD (tA1 (tK (.str "word")) (tA1 (tIsE a (decide (C = A "InvalidWord")) (tR 0)) tA0))) (tA1 (tTupD (tA1 (tK (.str "length")) (tA1 (tIsE a (decide (C = A "InvalidLength")) (tR 0)) tA0))) tA0)))))
  (sqD (tSetN 1 (tCatL (tOwn 1) (tSize (tA1 (tTupD (tA1 (tK (.str "seen")) (tA1 (tIsE a (decide (C = A "InvalidSeen")) (tR 0)) tA0))) (tA1 (tTupD (tA1 (tK (.str "number")) (tA1 (tIsE a (decide (C = A "InvalidNumber")) (tR 0)) tA0))) tA0)))))
  (sqD (tSetN 1 (tCatL (tOwn 1) (tSize (tA1 (tTupD (tA1 (tK (.str "text")) (tA1 (tIsE a (decide (C = A "InvalidText")) (tR 0)) tA0))) (tA1 (tTupD (tA1 (tK (.str "laid")) (tA1 (tIsE a (decide (C = A "AllLaid")) (tR 0)) tA0))) tA0)))))
  (sqD (tFgE [0] (tApp 1 (tTupD (tA1 (tK (.str "undo")) (tA1 (tIsE a (decide (C = A "NothingToUndo")) (tR 0)) tA0)))))
  (tRt (tJoin (tK (.str " ")) (tLc (tOwn 1) [2, 3] (gT [2, 3]) (tBl (tR 3)) (tN 2))))))))))
def f__law_error (A : Str → Addr) : Addr → Addr → (D → Prop) → Prop := fun a C R => Cs A C ∧ bodyE N__law_error (t__law_error A) a C R

@[simp] def N__law_by_three : List Str := ["call", "one", "other", "third"]
def t__law_by_three (K : PySem.W.Frag) (A : Str → Addr) (Φ : Addr → Nat → Option Fn) : TDS :=
  (tRt (tRef K (A "WindError") "" (f__law_error A) (tClV 0 Φ 3 (tA1 (tN 1) (tA1 (tN 2) (tA1 (tN 3) tA0))))))
def f__law_by_three (K : PySem.W.Frag) (A : Str → Addr) (Φ : Addr → Nat → Option Fn) : Fn := bodyF N__law_by_three (t__law_by_three K A Φ)

@[simp] def N__law_drawn_steps : List Str := ["source", "most", "found", "turn", "size"]
def t__law_drawn_steps (A : Str → Addr) : TDS :=
  (sqD (tSet 2 (tTupD tA0))
  (sqD (tFgE [0, 1, 3, 4] (tForL (tRg1 (tA1 (t2 dAdd (tK (.int 1)) (tCl 2 (f__law_pick A) (tA1 (tN 0) (tA1 (tN 1) tA0)))) tA0)) (gN 3)
  (sqD (tSet 4 (t2 dAdd (tK (.int 1)) (tCl 2 (f__law_pick A) (tA1 (tN 0) (tA1 (tCl 2 (f__law_chosen A) (tA1 (tN 0) (tA1 (tNF (tSize (tA1 (tK (.int 3)) (tA1 (tK (.int 6)) (tA1 (tK (.int 11)) tA0))))) tA0))) tA0)))))
  (tFgE [3, 4] (tSet 2 (tCatT (tN 2) (tTupD (tA1 (t2 dMul (tR 4) (tCl 2 (f__law_chosen A) (tA1 (tN 0) (tA1 (tNF (tSize (tA1 (tK (.int 1)) (tA1 (tK (.int 1)) (tA1 (tNeg (tK (.int 1))) tA0))))) tA0)))) tA0))))))))
  (tRt (tIfE (tBl (t2 (dEq true) (tCD fSum (tA1 (tR 2) tA0)) (tK (.int 0)))) (tN 2) (tSlT (tN 2) tO0 (tO1 (tK (.int 1))))))))
def f__law_drawn_steps (A : Str → Addr) : Fn := bodyF N__law_drawn_steps (t__law_drawn_steps A)

@[simp] def N__law_drawn_ring : List Str := ["source", "script_so", "most", "whole"]
def t__law_drawn_ring (A : Str → Addr) : TDS :=
  (sqD (tFgE [1] (tSet 3 (tCD fAbs (tA1 (tCD fSum (tA1 (tR 1) tA0)) tA0))))
  (sqD (tFgE [3] (tIf (tAndB (tBl (t2 (dEq false) (tCl 2 (f__law_pick A) (tA1 (tN 0) (tA1 (tK (.int 2)) tA0))) (tK (.int 0)))) (tBl (t2 dLt (tR 3) (t2 dFdivW (tR 2) (tK (.int 2)))))) (tRt (t2 dMul (tR 3) (t2 dAdd (t2 dAdd (tK (.int 1)) (t2 dFdivW (tK (.int 24)) (tR 3))) (tCl 2 (f__law_pick A) (tA1 (tN 0) (tA1 (t2 dSub (t2 dFdivW (tR 2) (tR 3)) (t2 dFdivW (tK (.int 24)) (tR 3))) tA0)))))) nxD))
  (tRt (t2 dAdd (tK (.int 24)) (tCl 2 (f__law_pick A) (tA1 (tN 0) (tA1 (t2 dSub (tR 2) (tK (.int 23))) tA0)))))))
def f__law_drawn_ring (A : Str → Addr) : Fn := bodyF N__law_drawn_ring (t__law_drawn_ring A)

@[simp] def N__law_wound : List Str := ["script_so", "n", "found", "come_to", "loop", "start", "here", "again", "step", "there"]
def t__law_wound (A : Str → Addr) : TDS :=
  (sqD (tPar3 2 3 4 (tMN (tSize tA0) (tMK (tMF (tK (.int 0)) tM0))))
  (sqD (tFgE [0, 1, 3, 4, 5, 6, 7, 8, 9] (tForL (tRg1 (tA1 (tR 1) tA0)) (gN 5)
  (tFgE [5, 6, 7, 8, 9] (tIf (tBl (tInK true 3 (tR 5))) (sqD (tPar2 6 7 (tMF (tN 5) (tMF (tK (.bl true)) tM0)))
  (sqD (tFgE [5, 6, 7, 8, 9] (tWh (tBl (tR 7))
  (sqD (tFgE [8, 9] (tForL (tTupI (tN 0)) (gN 8)
  (sqD (tFgE [8] (tSet 9 (t2 dMod (t2 dAdd (tR 6) (tR 8)) (tR 1))))
  (sqD (tFgE [6] (tApp 2 (tTupD (tA1 (tN 6) (tA1 (tN 9) (tA1 (tN 4) tA0))))))
  (sqD (tPutK 3 (tR 9) (tK (.bl true)))
  (tFgE [8, 9] (tSet 6 (tN 9))))))))
  (tSet 7 (t2 (dEq true) (tR 6) (tR 5))))))
  (tSet 4 (t2 dAdd (tR 4) (tK (.int 1)))))) nxD))))
  (tRo 2)))
def f__law_wound (A : Str → Addr) : FnL := bodyN N__law_wound (t__law_wound A)

@[simp] def N__law_meet : List Str := ["n", "one", "other", "first", "last", "wide"]
def t__law_meet (A : Str → Addr) : TDS :=
  (sqD (tFgE [1] (tPar2 3 4 (tMF (tIx (tN 1) (tK (.int 0))) (tMF (tIx (tN 1) (tK (.int 1))) tM0))))
  (sqD (tIf (tOrB (tBl (t2 (dIn false) (tIx (tN 2) (tK (.int 0))) (tTupD (tA1 (tN 3) (tA1 (tN 4) tA0))))) (tBl (t2 (dIn false) (tIx (tN 2) (tK (.int 1))) (tTupD (tA1 (tN 3) (tA1 (tN 4) tA0)))))) (tRt (tK (.bl false))) nxD)
  (sqD (tFgE [4] (tSet 5 (t2 dMod (t2 dSub (tR 4) (tR 3)) (tR 0))))
  (tRt (t2 (dEq true) (t2 dLt (t2 dMod (t2 dSub (tIx (tN 2) (tK (.int 0))) (tR 3)) (tR 0)) (tR 5)) (t2 dLt (t2 dMod (t2 dSub (tIx (tN 2) (tK (.int 1))) (tR 3)) (tR 0)) (tR 5)))))))
def f__law_meet (A : Str → Addr) : Fn := bodyF N__law_meet (t__law_meet A)

@[simp] def N__law_number_of_parts : List Str := ["n", "laid", "met", "found", "near", "peg", "one", "other", "loop", "line", "here"]
def t__law_number_of_parts (A : Str → Addr) : TDS :=
  (sqD (tPar2 2 3 (tMK (tMF (tK (.int 0)) tM0)))
  (tAdj 0 1 4 6 7 8 5 (sqD (tFgE [0, 2, 4, 5, 9, 10] (tForL (tRg1 (tA1 (tR 0) tA0)) (gN 5)
  (sqD (tFgE [5] (tSetN 9 (tIfL (tBl (tInK true 2 (tR 5))) (tSize (tA1 (tN 5) tA0)) (tSize tA0))))
  (sqD (tSet 3 (t2 dAdd (tR 3) (tCD fLen (tA1 (tR 9) tA0))))
  (tFgE [5, 9, 10] (tWh (tBl (t2 (dEq true) (tR 9) (tNF (tSize tA0))))
  (sqD (tPop 10 9)
  (tFgE [10] (tIf (tBl (tInK true 2 (tR 10))) (sqD (tPutK 2 (tR 10) (tK (.bl true)))
  (tFgE [10] (tSetN 9 (tCatL (tOwn 9) (tItl (tDgK (tN 4) (tR 10))))))) nxD)))))))))
  (tRt (tN 3)))))
def f__law_number_of_parts (A : Str → Addr) : Fn := bodyF N__law_number_of_parts (t__law_number_of_parts A)

@[simp] def N__law_crossings_of : List Str := ["n", "laid", "found", "at", "other"]
def t__law_crossings_of (A : Str → Addr) : TDS :=
  (sqD (tSet 2 (tK (.int 0)))
  (sqD (tFgE [0, 1, 3] (tForL (tRg1 (tA1 (tCD fLen (tA1 (tR 1) tA0)) tA0)) (gN 3)
  (tFgE [3] (tSet 2 (t2 dAdd (tR 2) (tCD fLen (tA1 (tNF (tLc (tSlL (tItl (tN 1)) (tO1 (t2 dAdd (tR 3) (tK (.int 1)))) tO0) [4] (gN 4) (tBl (tCl 3 (f__law_meet A) (tA1 (tN 0) (tA1 (tIx (tN 1) (tR 3)) (tA1 (tN 4) tA0))))) (tK (.int 1)))) tA0)))))))
  (tRt (tN 2))))
def f__law_crossings_of (A : Str → Addr) : Fn := bodyF N__law_crossings_of (t__law_crossings_of A)

def p3_1_law (A : Str → Addr) (K : PySem.W.Frag) (Φ : Addr → Nat → Option Fn) : TDS :=
  (tFgE [14, 15] (tIf (tBl (t2 (dEq true) (tCl 3 (f_count_long A) (tA1 (tN 3) (tA1 (tN 4) (tA1 (tN 14) tA0)))) (tCD fLen (tA1 (tR 15) tA0)))) (tRt (tK (.bl false))) nxD))
def p3_0_law (A : Str → Addr) (K : PySem.W.Frag) (Φ : Addr → Nat → Option Fn) : TDS :=
  (sqD (tSet 15 (tNF (tLc (tItl (tN 5)) [7] (gN 7) (tBl (t2 (dEq false) (tCD fMin (tA1 (t2 dMod (t2 dSub (tIx (tN 7) (tK (.int 1))) (tIx (tN 7) (tK (.int 0)))) (tR 4)) (tA1 (t2 dMod (t2 dSub (tIx (tN 7) (tK (.int 0))) (tIx (tN 7) (tK (.int 1)))) (tR 4)) tA0))) (tR 14))) (tK (.int 1)))))
  (p3_1_law A K Φ))
def p4_0_law (A : Str → Addr) (K : PySem.W.Frag) (Φ : Addr → Nat → Option Fn) : TDS :=
  (tFgE [16] (tIf (tBl (t2 (dEq true) (tCl 4 (f__law_by_three K A Φ) (tA1 (tK (.ref (A "count"))) (tA1 (tN 3) (tA1 (tN 4) (tA1 (tN 16) tA0))))) (tK (.str "word")))) (tRt (tK (.bl false))) nxD))
def p5_0_law (A : Str → Addr) (K : PySem.W.Frag) (Φ : Addr → Nat → Option Fn) : TDS :=
  (tFgE [16] (tIf (tBl (t2 (dEq true) (tCl 4 (f__law_by_three K A Φ) (tA1 (tK (.ref (A "count_long"))) (tA1 (tN 3) (tA1 (tN 4) (tA1 (tN 16) tA0))))) (tK (.str "length")))) (tRt (tK (.bl false))) nxD))
def p6_0_law (A : Str → Addr) (K : PySem.W.Frag) (Φ : Addr → Nat → Option Fn) : TDS :=
  (tFgE [17] (tIf (tOrB (tBl (t2 (dEq true) (tCl 4 (f__law_by_three K A Φ) (tA1 (tN 17) (tA1 (tTupD (tA1 (tK (.int 0)) tA0)) (tA1 (tK .non) (tA1 (tK .non) tA0))))) (tK (.str "script")))) (tBl (t2 (dEq true) (tCl 4 (f__law_by_three K A Φ) (tA1 (tN 17) (tA1 (tN 3) (tA1 (tK (.int 23)) (tA1 (tK .non) tA0))))) (tK (.str "ring"))))) (tRt (tK (.bl false))) nxD))
def p2_13_law (A : Str → Addr) (K : PySem.W.Frag) (Φ : Addr → Nat → Option Fn) : TDS :=
  (tFgE [1, 3, 17] (tForL (tItl (tNF (tSize (tA1 (tK (.ref (A "count"))) (tA1 (tK (.ref (A "count_long"))) tA0))))) (gN 17)
  (p6_0_law A K Φ)))
def p2_12_law (A : Str → Addr) (K : PySem.W.Frag) (Φ : Addr → Nat → Option Fn) : TDS :=
  (sqD (tFgE [4, 16] (tForL (tItl (tNF (tSize (tA1 (tK .non) (tA1 (tK (.int 0)) (tA1 (tK (.int 12)) (tA1 (tK (.bl true)) (tA1 (tK (.str "5")) tA0)))))))) (gN 16)
  (p5_0_law A K Φ)))
  (p2_13_law A K Φ))
def p2_11_law (A : Str → Addr) (K : PySem.W.Frag) (Φ : Addr → Nat → Option Fn) : TDS :=
  (sqD (tFgE [16] (tForL (tItl (tNF (tSize (tA1 (tK .non) (tA1 (tK (.str "chord")) (tA1 (tK (.str "")) (tA1 (tK (.int 1)) (tA1 (tNF (tSize (tA1 (tK (.str "spans")) tA0))) tA0)))))))) (gN 16)
  (p4_0_law A K Φ)))
  (p2_12_law A K Φ))
def p2_10_law (A : Str → Addr) (K : PySem.W.Frag) (Φ : Addr → Nat → Option Fn) : TDS :=
  (sqD (tFgE [5, 14, 15] (tForL (tRg2 (tA1 (tK (.int 1)) (tA1 (tK (.int 12)) tA0))) (gN 14)
  (p3_0_law A K Φ)))
  (p2_11_law A K Φ))
def p2_9_law (A : Str → Addr) (K : PySem.W.Frag) (Φ : Addr → Nat → Option Fn) : TDS :=
  (sqD (tFgE [11, 12] (tIf (tBl (t2 (dEq true) (tNF (tLc (tItl (tN 12)) [13] (gN 13) yesD (tCl 3 (f_count A) (tA1 (tN 3) (tA1 (tN 4) (tA1 (tN 13) tA0)))))) (tR 11))) (tRt (tK (.bl false))) nxD))
  (p2_10_law A K Φ))
def p2_8_law (A : Str → Addr) (K : PySem.W.Frag) (Φ : Addr → Nat → Option Fn) : TDS :=
  (sqD (tSet 12 (tNF (tSize (tA1 (tK (.str "chords")) (tA1 (tK (.str "crossings")) (tA1 (tK (.str "loops")) (tA1 (tK (.str "parts")) (tA1 (tK (.str "rounds")) (tA1 (tK (.str "spans")) tA0)))))))))
  (p2_9_law A K Φ))
def p2_7_law (A : Str → Addr) (K : PySem.W.Frag) (Φ : Addr → Nat → Option Fn) : TDS :=
  (sqD (tFgE [6] (tSet 11 (tNF (tCatL (tItl (tN 11)) (tSize (tA1 (tN 6) (tA1 (tCD fLen (tA1 (tR 5) tA0)) tA0)))))))
  (p2_8_law A K Φ))
def p2_6_law (A : Str → Addr) (K : PySem.W.Frag) (Φ : Addr → Nat → Option Fn) : TDS :=
  (sqD (tFgE [8] (tSet 11 (tNF (tSize (tA1 (tLenSetT (tItl (tN 8))) (tA1 (tCl 2 (f__law_crossings_of A) (tA1 (tN 4) (tA1 (tN 5) tA0))) (tA1 (t2 dAdd (tIx (tIx (tN 5) (tNeg (tK (.int 1)))) (tK (.int 2))) (tK (.int 1))) (tA1 (tCl 2 (f__law_number_of_parts A) (tA1 (tN 4) (tA1 (tN 5) tA0))) tA0))))))))
  (p2_7_law A K Φ))
def p2_5_law (A : Str → Addr) (K : PySem.W.Frag) (Φ : Addr → Nat → Option Fn) : TDS :=
  (sqD (tSet 8 (tNF (tLc (tItl (tN 5)) [7, 9, 10] (gT [7, 9, 10]) yesD (tIfE (tBl (t2 dLt (tR 7) (tR 9))) (tTupD (tA1 (tN 7) (tA1 (tN 9) tA0))) (tTupD (tA1 (tN 9) (tA1 (tN 7) tA0)))))))
  (p2_6_law A K Φ))
def p2_4_law (A : Str → Addr) (K : PySem.W.Frag) (Φ : Addr → Nat → Option Fn) : TDS :=
  (sqD (tSet 6 (t2 dFdivW (tCD fLen (tA1 (tNF (tLc (tItl (tN 5)) [7] (gN 7) (tBl (t2 (dEq false) (tIx (tN 7) (tK (.int 2))) (tK (.int 0)))) (tK (.int 1)))) tA0)) (tCD fLen (tA1 (tR 3) tA0))))
  (p2_5_law A K Φ))
def p2_3_law (A : Str → Addr) (K : PySem.W.Frag) (Φ : Addr → Nat → Option Fn) : TDS :=
  (sqD (tSet 5 (tNF (tClN 2 (f__law_wound A) (tA1 (tN 3) (tA1 (tN 4) tA0)))))
  (p2_4_law A K Φ))
def p2_2_law (A : Str → Addr) (K : PySem.W.Frag) (Φ : Addr → Nat → Option Fn) : TDS :=
  (sqD (tSet 4 (tCl 3 (f__law_drawn_ring A) (tA1 (tN 2) (tA1 (tN 3) (tA1 (tK (.int 50)) tA0)))))
  (p2_3_law A K Φ))
def p2_1_law (A : Str → Addr) (K : PySem.W.Frag) (Φ : Addr → Nat → Option Fn) : TDS :=
  (sqD (tSet 3 (tCl 2 (f__law_drawn_steps A) (tA1 (tN 2) (tA1 (tK (.int 4)) tA0))))
  (p2_2_law A K Φ))
def p2_0_law (A : Str → Addr) (K : PySem.W.Frag) (Φ : Addr → Nat → Option Fn) : TDS :=
  (sqD (tFgE [1] (tSrcS 2 (tClN 2 (f__law_source A) (tA1 (tN 0) (tA1 (tN 1) tA0)))))
  (p2_1_law A K Φ))
def p1_3_law (A : Str → Addr) (K : PySem.W.Frag) (Φ : Addr → Nat → Option Fn) : TDS :=
  (tRt (t2 (dEq false) (tNF (tSize (tA1 (tCl 3 (f_count A) (tA1 (tTupD (tA1 (tK (.int 5)) (tA1 (tNeg (tK (.int 2))) tA0))) (tA1 (tK (.int 24)) (tA1 (tK (.str "crossings")) tA0)))) (tA1 (tCl 3 (f_count_long A) (tA1 (tN 18) (tA1 (tK (.int 30)) (tA1 (tK (.int 4)) tA0)))) (tA1 (tCl 3 (f_count_long A) (tA1 (tN 18) (tA1 (tK (.int 30)) (tA1 (tK (.int 5)) tA0)))) tA0))))) (tNF (tSize (tA1 (tK (.int 64)) (tA1 (tK (.int 40)) (tA1 (tK (.int 0)) tA0)))))))
def p1_2_law (A : Str → Addr) (K : PySem.W.Frag) (Φ : Addr → Nat → Option Fn) : TDS :=
  (sqD (tIf (tBl (t2 (dEq true) (tNF (tSize (tA1 (tCl 3 (f_count A) (tA1 (tN 18) (tA1 (tK (.int 30)) (tA1 (tK (.str "chords")) tA0)))) (tA1 (tCl 3 (f_count A) (tA1 (tN 18) (tA1 (tK (.int 30)) (tA1 (tK (.str "crossings")) tA0)))) (tA1 (tCl 3 (f_count A) (tA1 (tN 18) (tA1 (tK (.int 30)) (tA1 (tK (.str "parts")) tA0)))) tA0))))) (tNF (tSize (tA1 (tK (.int 40)) (tA1 (tK (.int 340)) (tA1 (tK (.int 2)) tA0))))))) (tRt (tK (.bl false))) nxD)
  (p1_3_law A K Φ))
def p1_1_law (A : Str → Addr) (K : PySem.W.Frag) (Φ : Addr → Nat → Option Fn) : TDS :=
  (sqD (tSet 18 (tTupD (tA1 (tK (.int 6)) (tA1 (tK (.int 4)) (tA1 (tNeg (tK (.int 4))) tA0)))))
  (p1_2_law A K Φ))
def p1_0_law (A : Str → Addr) (K : PySem.W.Frag) (Φ : Addr → Nat → Option Fn) : TDS :=
  (sqD (tFgE [0, 1, 3, 4, 5, 6, 8, 11, 12, 14, 15, 16, 17] (tForL (tRg1 (tA1 (tCD fMax (tA1 (tK (.int 4)) (tA1 (tCD fMin (tA1 (tK (.int 10)) (tA1 (tCD fLen (tA1 (tR 0) tA0)) tA0))) tA0))) tA0)) (gN 1)
  (p2_0_law A K Φ)))
  (p1_1_law A K Φ))
def full_law (A : Str → Addr) (K : PySem.W.Frag) (Φ : Addr → Nat → Option Fn) : TDS :=
  (sqD (tFgE [0, 1, 3, 4, 5, 6, 8, 11, 12, 14, 15, 16, 17] (tForL (tRg1 (tA1 (tCD fMax (tA1 (tK (.int 4)) (tA1 (tCD fMin (tA1 (tK (.int 10)) (tA1 (tCD fLen (tA1 (tR 0) tA0)) tA0))) tA0))) tA0)) (gN 1)
  (sqD (tFgE [1] (tSrcS 2 (tClN 2 (f__law_source A) (tA1 (tN 0) (tA1 (tN 1) tA0)))))
  (sqD (tSet 3 (tCl 2 (f__law_drawn_steps A) (tA1 (tN 2) (tA1 (tK (.int 4)) tA0))))
  (sqD (tSet 4 (tCl 3 (f__law_drawn_ring A) (tA1 (tN 2) (tA1 (tN 3) (tA1 (tK (.int 50)) tA0)))))
  (sqD (tSet 5 (tNF (tClN 2 (f__law_wound A) (tA1 (tN 3) (tA1 (tN 4) tA0)))))
  (sqD (tSet 6 (t2 dFdivW (tCD fLen (tA1 (tNF (tLc (tItl (tN 5)) [7] (gN 7) (tBl (t2 (dEq false) (tIx (tN 7) (tK (.int 2))) (tK (.int 0)))) (tK (.int 1)))) tA0)) (tCD fLen (tA1 (tR 3) tA0))))
  (sqD (tSet 8 (tNF (tLc (tItl (tN 5)) [7, 9, 10] (gT [7, 9, 10]) yesD (tIfE (tBl (t2 dLt (tR 7) (tR 9))) (tTupD (tA1 (tN 7) (tA1 (tN 9) tA0))) (tTupD (tA1 (tN 9) (tA1 (tN 7) tA0)))))))
  (sqD (tFgE [8] (tSet 11 (tNF (tSize (tA1 (tLenSetT (tItl (tN 8))) (tA1 (tCl 2 (f__law_crossings_of A) (tA1 (tN 4) (tA1 (tN 5) tA0))) (tA1 (t2 dAdd (tIx (tIx (tN 5) (tNeg (tK (.int 1)))) (tK (.int 2))) (tK (.int 1))) (tA1 (tCl 2 (f__law_number_of_parts A) (tA1 (tN 4) (tA1 (tN 5) tA0))) tA0))))))))
  (sqD (tFgE [6] (tSet 11 (tNF (tCatL (tItl (tN 11)) (tSize (tA1 (tN 6) (tA1 (tCD fLen (tA1 (tR 5) tA0)) tA0)))))))
  (sqD (tSet 12 (tNF (tSize (tA1 (tK (.str "chords")) (tA1 (tK (.str "crossings")) (tA1 (tK (.str "loops")) (tA1 (tK (.str "parts")) (tA1 (tK (.str "rounds")) (tA1 (tK (.str "spans")) tA0)))))))))
  (sqD (tFgE [11, 12] (tIf (tBl (t2 (dEq true) (tNF (tLc (tItl (tN 12)) [13] (gN 13) yesD (tCl 3 (f_count A) (tA1 (tN 3) (tA1 (tN 4) (tA1 (tN 13) tA0)))))) (tR 11))) (tRt (tK (.bl false))) nxD))
  (sqD (tFgE [5, 14, 15] (tForL (tRg2 (tA1 (tK (.int 1)) (tA1 (tK (.int 12)) tA0))) (gN 14)
  (sqD (tSet 15 (tNF (tLc (tItl (tN 5)) [7] (gN 7) (tBl (t2 (dEq false) (tCD fMin (tA1 (t2 dMod (t2 dSub (tIx (tN 7) (tK (.int 1))) (tIx (tN 7) (tK (.int 0)))) (tR 4)) (tA1 (t2 dMod (t2 dSub (tIx (tN 7) (tK (.int 0))) (tIx (tN 7) (tK (.int 1)))) (tR 4)) tA0))) (tR 14))) (tK (.int 1)))))
  (tFgE [14, 15] (tIf (tBl (t2 (dEq true) (tCl 3 (f_count_long A) (tA1 (tN 3) (tA1 (tN 4) (tA1 (tN 14) tA0)))) (tCD fLen (tA1 (tR 15) tA0)))) (tRt (tK (.bl false))) nxD)))))
  (sqD (tFgE [16] (tForL (tItl (tNF (tSize (tA1 (tK .non) (tA1 (tK (.str "chord")) (tA1 (tK (.str "")) (tA1 (tK (.int 1)) (tA1 (tNF (tSize (tA1 (tK (.str "spans")) tA0))) tA0)))))))) (gN 16)
  (tFgE [16] (tIf (tBl (t2 (dEq true) (tCl 4 (f__law_by_three K A Φ) (tA1 (tK (.ref (A "count"))) (tA1 (tN 3) (tA1 (tN 4) (tA1 (tN 16) tA0))))) (tK (.str "word")))) (tRt (tK (.bl false))) nxD))))
  (sqD (tFgE [4, 16] (tForL (tItl (tNF (tSize (tA1 (tK .non) (tA1 (tK (.int 0)) (tA1 (tK (.int 12)) (tA1 (tK (.bl true)) (tA1 (tK (.str "5")) tA0)))))))) (gN 16)
  (tFgE [16] (tIf (tBl (t2 (dEq true) (tCl 4 (f__law_by_three K A Φ) (tA1 (tK (.ref (A "count_long"))) (tA1 (tN 3) (tA1 (tN 4) (tA1 (tN 16) tA0))))) (tK (.str "length")))) (tRt (tK (.bl false))) nxD))))
  (tFgE [1, 3, 17] (tForL (tItl (tNF (tSize (tA1 (tK (.ref (A "count"))) (tA1 (tK (.ref (A "count_long"))) tA0))))) (gN 17)
  (tFgE [17] (tIf (tOrB (tBl (t2 (dEq true) (tCl 4 (f__law_by_three K A Φ) (tA1 (tN 17) (tA1 (tTupD (tA1 (tK (.int 0)) tA0)) (tA1 (tK .non) (tA1 (tK .non) tA0))))) (tK (.str "script")))) (tBl (t2 (dEq true) (tCl 4 (f__law_by_three K A Φ) (tA1 (tN 17) (tA1 (tN 3) (tA1 (tK (.int 23)) (tA1 (tK .non) tA0))))) (tK (.str "ring"))))) (tRt (tK (.bl false))) nxD)))))))))))))))))))
  (sqD (tSet 18 (tTupD (tA1 (tK (.int 6)) (tA1 (tK (.int 4)) (tA1 (tNeg (tK (.int 4))) tA0)))))
  (sqD (tIf (tBl (t2 (dEq true) (tNF (tSize (tA1 (tCl 3 (f_count A) (tA1 (tN 18) (tA1 (tK (.int 30)) (tA1 (tK (.str "chords")) tA0)))) (tA1 (tCl 3 (f_count A) (tA1 (tN 18) (tA1 (tK (.int 30)) (tA1 (tK (.str "crossings")) tA0)))) (tA1 (tCl 3 (f_count A) (tA1 (tN 18) (tA1 (tK (.int 30)) (tA1 (tK (.str "parts")) tA0)))) tA0))))) (tNF (tSize (tA1 (tK (.int 40)) (tA1 (tK (.int 340)) (tA1 (tK (.int 2)) tA0))))))) (tRt (tK (.bl false))) nxD)
  (tRt (t2 (dEq false) (tNF (tSize (tA1 (tCl 3 (f_count A) (tA1 (tTupD (tA1 (tK (.int 5)) (tA1 (tNeg (tK (.int 2))) tA0))) (tA1 (tK (.int 24)) (tA1 (tK (.str "crossings")) tA0)))) (tA1 (tCl 3 (f_count_long A) (tA1 (tN 18) (tA1 (tK (.int 30)) (tA1 (tK (.int 4)) tA0)))) (tA1 (tCl 3 (f_count_long A) (tA1 (tN 18) (tA1 (tK (.int 30)) (tA1 (tK (.int 5)) tA0)))) tA0))))) (tNF (tSize (tA1 (tK (.int 64)) (tA1 (tK (.int 40)) (tA1 (tK (.int 0)) tA0))))))))))
@[simp] def N_law : List Str := ["script", "k", "source", "steps", "n", "laid", "each", "one", "ends", "other", "loop", "due", "words", "word", "long", "some", "odd", "call", "six"]
def t_law (A : Str → Addr) (K : PySem.W.Frag) (Φ : Addr → Nat → Option Fn) : TDS :=
  (p1_0_law A K Φ)

structure PhiOk (A : Str → Addr) (Φ : Addr → Nat → Option Fn) : Prop where
  p_count : Φ (A "count") 3 = some (f_count A)
  p_count_long : Φ (A "count_long") 3 = some (f_count_long A)
def PhiL (A : Str → Addr) : List (Addr × Nat × Fn) := [(A "count", 3, (f_count A)), (A "count_long", 3, (f_count_long A))]
def Phi (A : Str → Addr) (f : Addr) (n : Nat) : Option Fn := ((PhiL A).find? fun p => decide (p.1 = f) && p.2.1 == n).map (·.2.2)

end Wn

set_option Elab.async false
set_option linter.all false
set_option maxRecDepth 100000
set_option maxHeartbeats 1000000
namespace Wn
open PySem PySem.Spec PyProof.Rows L2
/-! what the program's small defs answer, by data -/
def whole (v : D) (lo hi : Int) : Bool := match v with
  | .int i => decide (lo ≤ i) && decide (i ≤ hi)
  | _ => false
def stepB (v : D) : Bool := whole v (-11) 11 && !D.eqB v (.int 0)
def toI : D → Int
  | .int i => i
  | _ => 0
def sumI (ds : List D) : Int := (ds.map toI).sum
def scriptB (v : D) : Bool := match v with
  | .tup ds => decide (1 ≤ (ds.length : Int)) && decide ((ds.length : Int) ≤ 5) && ds.all stepB && !(sumI (ds.filter stepB) == 0)
  | _ => false
theorem whole_e (i lo hi : Int) : whole (.int i) lo hi = (decide (lo ≤ i) && decide (i ≤ hi)) := rfl
theorem scriptB_e (ds : List D) : scriptB (.tup ds) = (decide (1 ≤ (ds.length : Int)) && decide ((ds.length : Int) ≤ 5) && ds.all stepB && !(sumI (ds.filter stepB) == 0)) := rfl
theorem whole_int {v : D} {lo hi : Int} (h : whole v lo hi = true) : v = .int (toI v) ∧ lo ≤ toI v ∧ toI v ≤ hi := by
  cases v with
  | int i =>
    unfold whole at h
    rw [Bool.and_eq_true, decide_eq_true_eq, decide_eq_true_eq] at h
    exact ⟨rfl, h⟩
  | _ => cases h
theorem intsOf_all : ∀ ds : List D, (∀ d ∈ ds, d = .int (toI d)) → intsOf ds = some (ds.map toI)
  | [], _ => rfl
  | d :: ds, h => by
    rw [h d List.mem_cons_self]
    show (intsOf ds).map (toI d :: ·) = _
    rw [intsOf_all ds fun x hx => h x (List.mem_cons_of_mem _ hx)]
    rfl
theorem ints_all : ∀ ds : List D, (∀ d ∈ ds, d = .int (toI d)) → ds = (ds.map toI).map D.int
  | [], _ => rfl
  | d :: ds, h => by
    rw [List.map_cons, List.map_cons, ← h d List.mem_cons_self, ← ints_all ds fun x hx => h x (List.mem_cons_of_mem _ hx)]
theorem stepB_int {v : D} (h : stepB v = true) : v = .int (toI v) ∧ -11 ≤ toI v ∧ toI v ≤ 11 ∧ toI v ≠ 0 := by
  unfold stepB at h
  rw [Bool.and_eq_true] at h
  obtain ⟨e, h1, h2⟩ := whole_int h.1
  refine ⟨e, h1, h2, fun z => ?_⟩
  rw [e, z, eqB_int] at h
  exact absurd h.2 (by decide)
/-- what a script is -/
structure Scr (v : D) (ns : List Int) : Prop where
  e : v = .tup (ns.map D.int)
  l1 : 1 ≤ ns.length
  l2 : ns.length ≤ 5
  st : ∀ n ∈ ns, -11 ≤ n ∧ n ≤ 11 ∧ n ≠ 0
  sm : ns.sum ≠ 0
theorem toI_int : ∀ ns : List Int, (ns.map D.int).map toI = ns
  | [] => rfl
  | n :: ns => by
    rw [List.map_cons, List.map_cons, toI_int ns] <;> rfl
theorem stepB_of {n : Int} (h1 : -11 ≤ n) (h2 : n ≤ 11) (h3 : n ≠ 0) : stepB (.int n) = true := by
  unfold stepB
  rw [whole_e, eqB_int, decide_eq_true h1, decide_eq_true h2, beq_false_of_ne h3] <;> rfl
theorem scriptB_scr {v : D} (h : scriptB v = true) : ∃ ns, Scr v ns := by
  cases v with
  | tup ds =>
    unfold scriptB at h
    rw [Bool.and_eq_true, Bool.and_eq_true, Bool.and_eq_true, decide_eq_true_eq, decide_eq_true_eq] at h
    obtain ⟨⟨⟨h1, h2⟩, h3⟩, h4⟩ := h
    have hs := List.all_eq_true.mp h3
    have hi : ∀ d ∈ ds, d = .int (toI d) := fun d hd => (stepB_int (hs d hd)).1
    have hf : ds.filter stepB = ds := List.filter_eq_self.mpr hs
    rw [hf] at h4
    refine ⟨ds.map toI, by rw [← ints_all ds hi], by rw [List.length_map]; omega, by rw [List.length_map]; omega, fun n hn => ?_, fun z => ?_⟩
    · obtain ⟨d, hd, e⟩ := List.mem_map.mp hn
      rw [← e]
      exact (stepB_int (hs d hd)).2
    · unfold sumI at h4
      rw [z] at h4
      exact absurd h4 (by decide)
  | _ => cases h
theorem scr_scriptB {v : D} {ns : List Int} (h : Scr v ns) : scriptB v = true := by
  have hs : ∀ d ∈ ns.map D.int, stepB d = true := fun d hd => by
    obtain ⟨n, hn, e⟩ := List.mem_map.mp hd
    rw [← e]
    obtain ⟨h1, h2, h3⟩ := h.st n hn
    exact stepB_of h1 h2 h3
  rw [h.e]
  rw [scriptB_e, List.filter_eq_self.mpr hs, List.all_eq_true.mpr hs]
  unfold sumI
  rw [toI_int, List.length_map, decide_eq_true (by have := h.l1; omega), decide_eq_true (by have := h.l2; omega), beq_false_of_ne h.sm] <;> rfl
theorem md (z n : Int) (hn : 0 < n) : 0 ≤ z % n ∧ z % n < n := ⟨Int.emod_nonneg z (by omega), Int.emod_lt_of_pos z hn⟩
theorem cmul_l {i j : Int} (h1 : -(2 ^ 64) < i) (h2 : i < 2 ^ 64) : CMul i j := .inl ⟨h1, h2⟩
theorem cmul_r {i j : Int} (h1 : -(2 ^ 64) < j) (h2 : j < 2 ^ 64) : CMul i j := .inr ⟨h1, h2⟩
theorem cdivw {i j : Int} (h1 : 0 < j) (h2 : j < 1000000000000000000000000000000000000000000000000) : CDivW i j := by
  refine ⟨h1, Nat.lt_trans ((Nat.log2_lt (by omega)).mpr (?_ : j.natAbs < 2 ^ 200)) (by decide)⟩
  have e : (2 : Nat) ^ 200 = 1606938044258990275541962092341162602522202993782792835301376 := by decide
  omega
theorem atI_nat {α : Type} {xs : List α} {k : Int} (h0 : 0 ≤ k) (h : k < xs.length) : L2.atI xs k = xs[k.toNat]? := by
  unfold L2.atI L2.ixN
  rw [if_pos h0, if_pos h]
  rfl
theorem atI_ints {ns : List Int} {k : Int} (h0 : 0 ≤ k) (h : k < ns.length) : ∃ n ∈ ns, L2.atI (ns.map D.int) k = some (.int n) := by
  have h2 : k.toNat < ns.length := by omega
  refine ⟨ns[k.toNat], List.getElem_mem h2, ?_⟩
  rw [atI_nat h0 (by rw [List.length_map]; exact h), List.getElem?_map, List.getElem?_eq_getElem h2]
  rfl
theorem dix_int {ns : List Int} {x : D} {k : Int} {P : D → Prop} (hx : itemsX x = some (ns.map D.int)) (h0 : 0 ≤ k) (hk : k < ns.length) (h : P (.int (ns[k.toNat]?.getD 0))) : dIx x (.int k) P := by
  refine u_dIx hx h0 (d := .int (ns[k.toNat]?.getD 0)) ?_ h
  have h2 : k.toNat < ns.length := by omega
  rw [List.getElem?_map, List.getElem?_eq_getElem h2]
  rfl
theorem Scr.ok {v : D} {ns : List Int} (h : Scr v ns) : D.ok 64 v = true := by
  rw [h.e]
  exact ok_tupI ns
theorem sum_abs : ∀ ns : List Int, (∀ n ∈ ns, -11 ≤ n ∧ n ≤ 11 ∧ n ≠ 0) → ns.sum.natAbs ≤ 11 * ns.length
  | [], _ => by simp
  | n :: ns, h => by
    have h1 := h n List.mem_cons_self
    have h2 := sum_abs ns fun m hm => h m (List.mem_cons_of_mem _ hm)
    rw [List.sum_cons, List.length_cons]
    omega
theorem Scr.abs {v : D} {ns : List Int} (h : Scr v ns) : ns.sum.natAbs ≤ 55 := by
  have h1 := sum_abs ns h.st
  have h2 := h.l2
  omega
theorem Scr.inj {v : D} {ns ms : List Int} (h : Scr v ns) (k : Scr v ms) : ms = ns := by
  have e : ms.map D.int = ns.map D.int := D.tup.inj (k.e.symm.trans h.e)
  rw [← toI_int ms, e, toI_int]
section
variable {A : Str → Addr} {s : Option Addr} {P : D → Prop} {PL : List D → Prop} {EP : Addr → Prop}
theorem q_is_within {v : D} {lo hi : Int} (hv : v.ty.isSome = true) (h : P (.bl (whole v lo hi))) : f_is_within A s [v, .int lo, .int hi] P EP := by
  cases v <;> first
    | (simp [D.ty] at hv; done)
    | (simp [f_is_within, t_is_within, isTy, whole] at h ⊢; assumption)
    | skip
  rename_i i
  by_cases h1 : lo ≤ i
  · simp [f_is_within, t_is_within, isTy, whole, h1] at h ⊢
    exact h
  · simp [f_is_within, t_is_within, isTy, whole, h1] at h ⊢
    exact h
theorem q_is_step {v : D} (hv : D.ok 64 v = true) (h : P (.bl (stepB v))) : f_is_step A s [v] P EP := by
  simp [f_is_step, t_is_step]
  refine q_is_within (D.ok_ty hv) ?_
  unfold stepB at h
  cases q : whole v (-11) 11 with
  | false =>
    rw [q] at h
    simpa using h
  | true =>
    rw [q] at h
    exact dEq_ok (neg := true) hv ok_int h
theorem q_is_right_script {v : D} (hv : D.ok 64 v = true) (h : P (.bl (scriptB v))) : f_is_right_script A s [v] P EP := by
  cases v with
  | tup ds =>
    have hd : ∀ d ∈ ds, D.ok 64 d = true := fun d hd => D.ok_mono 63 64 d (by omega) (List.all_eq_true.mp (show ds.all (D.ok 63) = true from hv) d hd)
    rw [scriptB_e] at h
    by_cases h1 : 1 ≤ (ds.length : Int)
    · by_cases h2 : (ds.length : Int) ≤ 5
      · simp [f_is_right_script, t_is_right_script, isTy, h1, h2]
        refine ⟨by omega, comp_map (fun d => .bl (stepB d)) ds [] (fun x hx Q hQ => ?_) ?_⟩
        · simp
          exact q_is_step (hd x hx) hQ
        · rw [List.nil_append, show (ds.map fun d => D.bl (stepB d)) = (ds.map stepB).map D.bl from by rw [List.map_map] <;> rfl, u_all, show (ds.map stepB).all id = ds.all stepB from by rw [List.all_map] <;> rfl]
          rw [decide_eq_true h1, decide_eq_true h2] at h
          cases q : ds.all stepB with
          | false =>
            rw [q] at h
            exact h
          | true =>
            rw [q] at h
            refine ⟨by omega, comp_fil stepB id ds [] (fun x hx Q hQ => ?_) (fun x hx hb Q hQ => ?_) ?_⟩
            · simp
              exact q_is_step (hd x hx) hQ
            · simp
              exact hQ
            · rw [List.nil_append, List.map_id]
              have hi : ∀ d ∈ ds.filter stepB, d = .int (toI d) := fun d hd => (stepB_int (List.mem_filter.mp hd).2).1
              unfold fSum
              refine onInts_mk (intsOf_all _ hi) ?_
              simp
              simpa [sumI] using h
      · simp [f_is_right_script, t_is_right_script, isTy, h1, h2] at h ⊢
        exact h
    · simp [f_is_right_script, t_is_right_script, isTy, h1] at h ⊢
      exact h
  | _ => first
    | (simp [D.ok] at hv; done)
    | (simp [f_is_right_script, t_is_right_script, isTy, scriptB] at h ⊢; exact h)
theorem q_need_script {v : D} (hv : D.ok 64 v = true) (h1 : scriptB v = true → P .non) (h2 : scriptB v = false → EP (A "InvalidScript")) : f_need_script A s [v] P EP := by
  simp [f_need_script, t_need_script]
  refine q_is_right_script hv ?_
  cases q : scriptB v with
  | false => exact h2 q
  | true => exact h1 q
theorem q_need_ring {v : D} (hv : v.ty.isSome = true) (h1 : whole v 24 1000000000000000000000000000000 = true → P .non) (h2 : whole v 24 1000000000000000000000000000000 = false → EP (A "InvalidRing")) : f_need_ring A s [v] P EP := by
  simp [f_need_ring, t_need_ring]
  refine q_is_within hv ?_
  cases q : whole v 24 1000000000000000000000000000000 with
  | false => exact h2 q
  | true => exact h1 q
theorem q_shared {a b : Int} (h : P (.int (Int.gcd a b))) : f_shared A s [.int a, .int b] P EP := by
  simp [f_shared, t_shared]
  refine wh_acc (fun a : Nat × Nat => ⟨s, [.d (.int a.1), .d (.int a.2)]⟩) (fun n p => n = p.2 ∧ Nat.gcd p.1 p.2 = Int.gcd a b) _ (a.natAbs, b.natAbs) rfl ⟨rfl, rfl⟩ fun n p ⟨en, eg⟩ K hK => ?_
  obtain ⟨x, y⟩ := p
  simp only [] at en eg
  subst en
  by_cases hy : n = 0
  · subst hy
    rw [Nat.gcd_zero_right] at eg
    rw [← eg] at h
    simp
    exact h
  · have e : ((n : Int) == 0) = false := beq_false_of_ne (by omega)
    simp [e]
    refine ⟨by omega, ?_⟩
    have := hK (x % n) (n, x % n) (Nat.mod_lt _ (Nat.pos_of_ne_zero hy)) ⟨rfl, by simp only []; rw [← eg, Nat.gcd_comm x n, Nat.gcd_rec n x, Nat.gcd_comm]⟩
    simpa using this
end
end Wn

set_option Elab.async false
set_option linter.all false
set_option maxRecDepth 100000
set_option maxHeartbeats 1000000
namespace Wn
open PySem PySem.Spec PyProof.Rows L2
/-- how far one is ahead of each step -/
def offs (ns : List Int) : List Int := (List.range ns.length).map fun k => (ns.take k).sum
def cov (os : List Int) (p : Int) (ss : List Int) (x : Int) : Bool := ss.any fun s => os.any fun o => (s + o) % p == x
def startsTo (ns : List Int) (p : Int) (n : Nat) : List Int := (List.range n).foldl (fun ss (k : Nat) => if cov (offs ns) p ss k then ss else ss ++ [(k : Int)]) []
/-- the pegs at which loops begin -/
def startsL (ns : List Int) (p : Nat) : List Int := startsTo ns p p
theorem startsTo_succ (ns : List Int) (p : Int) (n : Nat) : startsTo ns p (n + 1) = if cov (offs ns) p (startsTo ns p n) n then startsTo ns p n else startsTo ns p n ++ [(n : Int)] := by
  unfold startsTo
  rw [List.range_succ, List.foldl_append]
  rfl
theorem offs_len (ns : List Int) : (offs ns).length = ns.length := by unfold offs; simp
theorem sum_take_succ : ∀ (ns : List Int) (i : Nat) (y : Int), ns[i]? = some y → (ns.take (i + 1)).sum = (ns.take i).sum + y
  | [], i, y, h => by simp at h
  | n :: ns, 0, y, h => by
    simp at h
    simp [h]
  | n :: ns, i + 1, y, h => by
    have q := sum_take_succ ns i y (by simpa using h)
    rw [List.take_succ_cons, List.take_succ_cons, List.sum_cons, List.sum_cons, q]
    omega
theorem startsTo_len (ns : List Int) (p : Int) : ∀ n, (startsTo ns p n).length ≤ n
  | 0 => Nat.le_refl _
  | n + 1 => by
    rw [startsTo_succ]
    have := startsTo_len ns p n
    split
    · omega
    · rw [List.length_append]
      simp
      omega
theorem any_putKs (ks : List Key) (k j : Key) : (putKs ks k).any (fun i => decide (i = j)) = (ks.any (fun i => decide (i = j)) || decide (k = j)) := by
  unfold putKs
  by_cases c : (ks.any fun j => decide (j = k)) = true
  · rw [if_pos c]
    by_cases e : k = j
    · subst e
      rw [c]
      rfl
    · rw [decide_eq_false e, Bool.or_false]
  · rw [if_neg c, List.any_append, List.any_cons, List.any_nil, Bool.or_false]
theorem putKs_len (ks : List Key) (k : Key) : (putKs ks k).length ≤ ks.length + 1 := by
  unfold putKs
  split
  · omega
  · rw [List.length_append]
    simp
theorem dec_inl (a b : Int) : decide ((Sum.inl a : Key) = Sum.inl b) = (a == b) := by
  by_cases h : a = b
  · subst h
    simp
  · rw [decide_eq_false (fun z => h (Sum.inl.inj z)), beq_false_of_ne h]
theorem cov_app (os : List Int) (p : Int) (ss : List Int) (y x : Int) : cov os p (ss ++ [y]) x = (cov os p ss x || os.any fun o => (y + o) % p == x) := by
  unfold cov
  rw [List.any_append, List.any_cons, List.any_nil, Bool.or_false]
def gcdN (ns : List Int) (n : Int) : Nat := Int.gcd n ns.sum
theorem gcdN_pos {ns : List Int} {n : Int} (h : ns.sum ≠ 0) : 0 < gcdN ns n := Int.gcd_pos_of_ne_zero_right n h
theorem gcdN_le {ns : List Int} {n : Int} (h : ns.sum ≠ 0) : gcdN ns n ≤ ns.sum.natAbs := by
  have : gcdN ns n ∣ ns.sum.natAbs := Int.natAbs_dvd_natAbs.mpr (show ((gcdN ns n : Nat) : Int) ∣ ns.sum from Int.gcd_dvd_right ..)
  exact Nat.le_of_dvd (by omega) this
/-- a script's steps -/
structure Sc (ns : List Int) : Prop where
  l1 : 1 ≤ ns.length
  l2 : ns.length ≤ 5
  st : ∀ n ∈ ns, -11 ≤ n ∧ n ≤ 11 ∧ n ≠ 0
  sm : ns.sum ≠ 0
  ab : ns.sum.natAbs ≤ 55
theorem Scr.sc {v : D} {ns : List Int} (h : Scr v ns) : Sc ns := ⟨h.l1, h.l2, h.st, h.sm, h.abs⟩
theorem Sc.scr {ns : List Int} (h : Sc ns) : Scr (.tup (ns.map D.int)) ns := ⟨rfl, h.l1, h.l2, h.st, h.sm⟩
theorem Sc.g1 {ns : List Int} (h : Sc ns) (n : Int) : 0 < gcdN ns n := gcdN_pos h.sm
theorem Sc.g2 {ns : List Int} (h : Sc ns) (n : Int) : gcdN ns n ≤ 55 := Nat.le_trans (gcdN_le h.sm) h.ab
def countI (ns : List Int) (n : Int) : Int := (startsL ns (gcdN ns n)).length * ns.length * (n / gcdN ns n)
theorem startsL_len (ns : List Int) (p : Nat) : (startsL ns p).length ≤ p := startsTo_len ns p p
def sizeI (ns : List Int) (n : Int) : Int := ns.length * (n / gcdN ns n)
theorem sizeI_pos {ns : List Int} {n : Int} (hs : Sc ns) (h1 : 24 ≤ n) : 0 < sizeI ns n ∧ sizeI ns n ≤ 5 * n := by
  have g1 := hs.g1 n
  have gd : ((gcdN ns n : Nat) : Int) ∣ n := Int.gcd_dvd_left ..
  have l1 := hs.l1
  have l2 := hs.l2
  have r1 : 0 < n / (gcdN ns n : Int) := Int.ediv_pos_of_pos_of_dvd (by omega) (by omega) gd
  have r2 : n / (gcdN ns n : Int) ≤ n := Int.ediv_le_self _ (by omega)
  unfold sizeI
  refine ⟨Int.mul_pos (by omega) r1, Int.mul_le_mul (by omega) r2 (by omega) (by omega)⟩
def hereI (ns : List Int) (n ix : Int) : Int := ((startsL ns (gcdN ns n))[(ix / sizeI ns n).toNat]?.getD 0 + (offs ns)[(ix % ns.length).toNat]?.getD 0 + ix % sizeI ns n / ns.length * ns.sum) % n
def thereI (ns : List Int) (n ix : Int) : Int := (hereI ns n ix + ns[(ix % ns.length).toNat]?.getD 0) % n
theorem countI_e (ns : List Int) (n : Int) : countI ns n = (startsL ns (gcdN ns n)).length * sizeI ns n := by
  unfold countI sizeI
  rw [Int.mul_assoc]
def farI (ns : List Int) (m : Int) : Int := m / ns.length * ns.sum + (offs ns)[(m % ns.length).toNat]?.getD 0
section
variable {A : Str → Addr} {s : Option Addr} {P : D → Prop} {PL : List D → Prop} {EP : Addr → Prop}
theorem q_offsets_of {ns : List Int} (hl : ns.length ≤ 1000) (h : PL ((offs ns).map D.int)) : f_offsets_of A s [.tup (ns.map D.int)] PL EP := by
  simp [f_offsets_of, t_offsets_of]
  refine loop_ix (fun i => ⟨s, [.d (.tup (ns.map D.int)), .ow (((List.range i).map fun k => (ns.take k).sum).map D.int), .d (.int (ns.take i).sum), .no]⟩) D.int ns rfl ?_ fun i y hy K hK => ?_
  · simp
    unfold offs at h
    simpa using h
  · have hi := (List.getElem?_eq_some_iff.mp hy).1
    simp
    refine ⟨by omega, ?_⟩
    rw [List.range_succ, List.map_append, List.map_append, sum_take_succ ns i y hy] at hK
    simpa using hK
theorem q_starts_by {ns : List Int} {p : Nat} (hl : ns.length ≤ 5) (hp : 0 < p) (hp2 : p ≤ 1000) (h : PL ((startsL ns p).map D.int)) : f_starts_by A s [.tup (ns.map D.int), .int p] PL EP := by
  have ho : ∀ (PL : List D → Prop) (EP : Addr → Prop), PL ((offs ns).map D.int) → f_offsets_of A s [.tup (ns.map D.int)] PL EP := fun PL EP h => q_offsets_of (by omega) h
  unfold f_starts_by t_starts_by
  generalize f_offsets_of A = φ at ho ⊢
  simp
  refine ⟨by omega, loop_ints (loop_acc (fun a : List Int × List Key × List D => ⟨s, [.d (.tup (ns.map D.int)), .d (.int p), .ow (a.1.map D.int), .oK a.2.1 a.2.2, .no, .no]⟩) (fun i a => a.1 = startsTo ns p i ∧ (∀ z, (a.2.1.any fun j => decide (j = .inl z)) = cov (offs ns) p a.1 z) ∧ a.2.1.length ≤ 5 * i) _ _ ([], [], []) ⟨rfl, fun z => rfl, by simp⟩ (fun a ⟨h1, _, _⟩ => ?_) fun i y hy a ⟨h1, h2, h3⟩ K hK => ?_)⟩
  · simp
    rw [List.length_range] at h1
    rw [h1]
    exact h
  · obtain ⟨found, ks, vs⟩ := a
    have hi := (List.getElem?_eq_some_iff.mp hy).1
    rw [List.getElem?_range (by simpa using hi)] at hy
    cases hy
    simp only [] at h1 h2 h3 hK
    rw [List.length_range] at hi
    have hf := startsTo_len ns p i
    rw [← h1] at hf
    simp [h2]
    have es := startsTo_succ ns p i
    rw [← h1] at es
    cases c : cov (offs ns) p found i with
    | true =>
      rw [c, if_pos rfl] at es
      exact hK (found, ks, vs) ⟨es.symm, h2, by simp only []; omega⟩
    | false =>
      rw [c, if_neg (by decide)] at es
      refine ⟨by omega, ho _ _ ?_⟩
      refine loop_acc (fun a : List Key × List D => ⟨s, [.d (.tup (ns.map D.int)), .d (.int p), .ow (found.map D.int ++ [.int i]), .oK a.1 a.2, .d (.int i), .no]⟩) (fun j a => (∀ z, (a.1.any fun j => decide (j = .inl z)) = (cov (offs ns) p found z || ((offs ns).take j).any fun o => ((i : Int) + o) % p == z)) ∧ a.1.length ≤ 5 * i + j) D.int (offs ns) (ks, vs) ⟨fun z => by simp [h2], by simpa using h3⟩ (fun a ⟨k1, k2⟩ => ?_) fun j o ho a ⟨k1, k2⟩ K' hK' => ?_
      · obtain ⟨ks', vs'⟩ := a
        simp
        have := hK (found ++ [(i : Int)], ks', vs') ⟨es.symm, fun z => by
          rw [List.take_length] at k1
          rw [k1 z, cov_app], by rw [offs_len] at k2; simp only []; simp only [] at k2; omega⟩
        simpa using this
      · obtain ⟨ks', vs'⟩ := a
        have hj := (List.getElem?_eq_some_iff.mp ho).1
        rw [offs_len] at hj
        simp only [] at k1 k2
        simp
        refine ⟨by omega, by omega, ?_⟩
        refine hK' (putKs ks' (.inl (((i : Int) + o) % p)), putDs ks' vs' (.inl (((i : Int) + o) % p)) (.bl true)) ⟨fun z => ?_, ?_⟩
        · simp only []
          rw [any_putKs, k1 z, List.take_succ, ho, dec_inl]
          simp [Bool.or_assoc]
        · simp only []
          have := putKs_len ks' (.inl (((i : Int) + o) % p))
          omega
theorem q_part_of {ns : List Int} {n : Int} (h : P (.int (gcdN ns n))) : f_part_of A s [.tup (ns.map D.int), .int n] P EP := by
  simp [f_part_of, t_part_of]
  exact q_shared h
theorem q_rounds_of {ns : List Int} {n : Int} (hs : Sc ns) (h : P (.int (n / gcdN ns n))) : f_rounds_of A s [.tup (ns.map D.int), .int n] P EP := by
  have g1 := hs.g1 n
  have g2 := hs.g2 n
  simp [f_rounds_of, t_rounds_of]
  exact q_part_of (by simp; exact ⟨⟨by omega, by omega⟩, h⟩)
theorem q_count_of {ns : List Int} {n : Int} (hs : Sc ns) (h : P (.int (countI ns n))) : f_count_of A s [.tup (ns.map D.int), .int n] P EP := by
  have g1 := hs.g1 n
  have g2 := hs.g2 n
  have l2 := hs.l2
  have sl := startsL_len ns (gcdN ns n)
  simp [f_count_of, t_count_of]
  refine q_part_of (q_starts_by l2 g1 (by omega) ?_)
  simp
  refine ⟨cmul_l (by omega) (by omega), q_rounds_of hs ?_⟩
  simp
  refine ⟨cmul_l ?_ ?_, h⟩
  · have := Int.mul_nonneg (Int.natCast_nonneg (startsL ns (gcdN ns n)).length) (Int.natCast_nonneg ns.length)
    omega
  · have : (startsL ns (gcdN ns n)).length * ns.length ≤ 55 * 5 := Nat.mul_le_mul (by omega) l2
    have e : (((startsL ns (gcdN ns n)).length * ns.length : Nat) : Int) = (startsL ns (gcdN ns n)).length * ns.length := Int.natCast_mul ..
    omega
theorem ring_of {v : D} (h : whole v 24 1000000000000000000000000000000 = true) : ∃ n : Int, v = .int n ∧ 24 ≤ n ∧ n ≤ 1000000000000000000000000000000 := by
  obtain ⟨e, h1, h2⟩ := whole_int h
  exact ⟨_, e, h1, h2⟩
theorem whole_ring {n : Int} (h1 : 24 ≤ n) (h2 : n ≤ 1000000000000000000000000000000) : whole (.int n) 24 1000000000000000000000000000000 = true := by
  rw [whole_e, decide_eq_true h1, decide_eq_true h2] <;> rfl
theorem no_script {ns : List Int} (sc : Sc ns) {Q : Prop} (z : scriptB (.tup (ns.map D.int)) = false) : Q := by
  rw [scr_scriptB sc.scr] at z
  cases z
theorem no_ring {n : Int} (h1 : 24 ≤ n) (h2 : n ≤ 1000000000000000000000000000000) {Q : Prop} (z : whole (.int n) 24 1000000000000000000000000000000 = false) : Q := by
  rw [whole_ring h1 h2] at z
  cases z
end
end Wn

set_option Elab.async false
set_option linter.all false
set_option maxRecDepth 100000
set_option maxHeartbeats 1000000
namespace Wn
open PySem PySem.Spec PyProof.Rows L2
theorem cpow_18 : CPow 10 18 := ⟨by omega, by omega, by omega⟩
theorem cpow_28 : CPow 10 28 := ⟨by omega, by omega, by omega⟩
theorem cpow_30 : CPow 10 30 := ⟨by omega, by omega, by omega⟩
theorem cpow_29 : CPow 10 29 := ⟨by omega, by omega, by omega⟩
theorem cpow_9 : CPow 10 9 := ⟨by omega, by omega, by omega⟩
theorem cpow_12 : CPow 10 12 := ⟨by omega, by omega, by omega⟩
theorem cpow_20 : CPow 10 20 := ⟨by omega, by omega, by omega⟩
theorem cpow_31 : CPow 10 31 := ⟨by omega, by omega, by omega⟩
theorem cpow_6 : CPow 10 6 := ⟨by omega, by omega, by omega⟩
theorem cpow_40 : CPow 10 40 := ⟨by omega, by omega, by omega⟩
section
variable {A : Str → Addr} {s : Option Addr} {P : D → Prop} {PL : List D → Prop} {EP : Addr → Prop}
theorem q_pick {a : Addr} {n : Int} (hs : s = some a) (hn : 0 < n) (hn2 : n < 1000000000000000000000000000000000000000000000000) (h : ∀ i, 0 ≤ i → i < n → P (.int i)) : f__law_pick A s [.ref a, .int n] P EP := by
  subst hs
  simp [f__law_pick, t__law_pick]
  intro z hz
  cases decide (0 < z) with
  | true => exact fun z _ => ⟨hn, fun y hy => ⟨cdivw hn hn2, Int.ediv_nonneg hy (by omega), h _ (md z n hn).1 (md z n hn).2⟩⟩
  | false =>
    have m1 := fun z => md z 2147483647 (by omega)
    exact fun z hz hz2 => ⟨cmul_l (by omega) (by omega), ⟨(m1 _).1, by have := (m1 (z * 44497 + 9973)).2; omega⟩, fun z hz hz2 y hy hy2 => ⟨cmul_l (by omega) (by omega), cdivw (by omega) (by omega), hn, h _ (md _ n hn).1 (md _ n hn).2⟩⟩
theorem q_source {ns : List Int} {k : Int} (hk : 0 ≤ k) (hk2 : k < 100) (h : ∀ x y : Int, 0 ≤ x → 0 ≤ y → y < 2147483648 → PL [.int x, .int y]) : f__law_source A s [.kl (ns.map D.int), .int k] PL EP := by
  simp [f__law_source, t__law_source]
  have fin : ∀ i x : Int, 0 ≤ x → PL [.int x, .int ((i * 16807 + 60919 * k + 31) % 2147481173 * ((i * 16807 + 60919 * k + 31) % 2147481173) % 2147481151 + 2 * k + 5)] := fun i x hx => by
    have m1 := md ((i * 16807 + 60919 * k + 31) % 2147481173 * ((i * 16807 + 60919 * k + 31) % 2147481173)) 2147481151 (by omega)
    exact h _ _ hx (by omega) (by omega)
  have cm : ∀ i : Int, CMul ((i * 16807 + 60919 * k + 31) % 2147481173) ((i * 16807 + 60919 * k + 31) % 2147481173) := fun i => by
    have m1 := md (i * 16807 + 60919 * k + 31) 2147481173 (by omega)
    exact cmul_l (by omega) (by omega)
  have cp := cpow_18
  by_cases c : k < (ns.length : Int)
  · rw [decide_eq_true c]
    obtain ⟨n, hn, e⟩ := atI_ints hk c
    unfold dIx
    simp [e]
    refine ⟨cmul_r (by omega) (by omega), cmul_l (by omega) (by omega), cm n, cmul_l (by omega) (by omega), cp, ?_⟩
    by_cases c2 : (1000000000000000000 : Int) ≤ n
    · rw [decide_eq_true c2]
      simpa using fin n n (by omega)
    · rw [decide_eq_false c2]
      simpa using fin n 0 (by omega)
  · rw [decide_eq_false c]
    have e0 : (0 : Int) * 16807 + 60919 * k + 31 = 60919 * k + 31 := by omega
    have f0 := fin 0 0 (by omega)
    have c0 := cm 0
    rw [e0] at f0 c0
    exact ⟨cmul_r (by omega) (by omega), cmul_l (by omega) (by omega), c0, cmul_l (by omega) (by omega), cp, f0⟩
theorem q_chosen {a : Addr} {x : D} {xs : List D} (hs : s = some a) (hx : itemsX x = some xs) (hx2 : ∀ P : D → Prop, P (.int xs.length) → fLen [x] P) (h1 : 0 < xs.length) (h2 : xs.length < 1000000) (h : ∀ d ∈ xs, P d) : f__law_chosen A s [.ref a, x] P EP := by
  simp [f__law_chosen, t__law_chosen]
  refine hx2 _ (q_pick hs (by omega) (by omega) fun i hi hi2 => ?_)
  have hl : i.toNat < xs.length := by omega
  exact u_dIx hx hi (List.getElem?_eq_getElem hl) (h _ (List.getElem_mem hl))
theorem q_chosenL {a : Addr} {xs : List D} (hs : s = some a) (h1 : 0 < xs.length) (h2 : xs.length < 1000000) (h : ∀ d ∈ xs, P d) : f__law_chosen A s [.ref a, .lst xs] P EP := q_chosen hs rfl (fun P h => h) h1 h2 h
theorem q_drawn {a : Addr} {m : Int} (hs : s = some a) (hm : 1 ≤ m) (hm2 : m ≤ 5) (h : ∀ v ns, Scr v ns → P v) : f__law_drawn_steps A s [.ref a, .int m] P EP := by
  obtain ⟨v_pick, g_pick⟩ : ∃ v, v = (f__law_pick A) := ⟨_, rfl⟩
  have h_pick := @q_pick A
  rw [← g_pick] at h_pick
  obtain ⟨v_chosen, g_chosen⟩ : ∃ v, v = (f__law_chosen A) := ⟨_, rfl⟩
  have h_chosen := @q_chosen A
  rw [← g_chosen] at h_chosen
  have h_chosenL := @q_chosenL A
  rw [← g_chosen] at h_chosenL
  unfold f__law_drawn_steps t__law_drawn_steps
  try simp only [← g_pick, ← g_chosen]
  simp
  refine h_pick hs (by omega) (by omega) fun n hn hn2 => ?_
  simp
  refine ⟨⟨by omega, by omega⟩, loop_ints (loop_acc (fun ns : List Int => ⟨s, [.d (.ref a), .d (.int m), .d (.tup (ns.map D.int)), .no, .no]⟩) (fun i ns => ns.length = i ∧ ∀ x ∈ ns, -11 ≤ x ∧ x ≤ 11 ∧ x ≠ 0) _ _ [] ⟨rfl, fun x hx => by cases hx⟩ (fun ns ⟨h1, h2⟩ => ?_) fun i y hy ns ⟨h1, h2⟩ K hK => ?_)⟩
  · rw [List.length_range] at h1
    simp
    by_cases c : ns.sum = 0
    · simp [c]
      cases ns with
      | nil => rw [List.length_nil] at h1; omega
      | cons y r =>
        have e : cutD (D.int y :: r.map D.int) none (some 1) = [D.int y] := by
          unfold cutD HT.sIx
          simp
        rw [List.map_cons, e]
        have hy := h2 y List.mem_cons_self
        refine h _ [y] ⟨rfl, by simp, by simp, fun z hz => ?_, by simp; exact hy.2.2⟩
        rw [List.mem_singleton.mp hz]
        exact hy
    · have c' : (ns.sum == 0) = false := beq_false_of_ne c
      simp [c']
      exact h _ ns ⟨rfl, by omega, by omega, h2, c⟩
  · have hk := (List.getElem?_eq_some_iff.mp hy).1
    rw [List.length_range] at hk
    simp
    have fin : ∀ y g : Int, 0 ≤ y → y < 11 → (g = 1 ∨ g = -1) → K ⟨s, [.d (.ref a), .d (.int m), .d (.tup (ns.map D.int ++ [.int ((1 + y) * g)])), .no, .no]⟩ := fun y g hy hy2 hg => by
      have := hK (ns ++ [(1 + y) * g]) ⟨by rw [List.length_append, h1]; rfl, fun z hz => ?_⟩
      · simpa using this
      · rcases List.mem_append.mp hz with q | q
        · exact h2 z q
        · rw [List.mem_singleton.mp q]
          rcases hg with e | e <;> subst e <;> omega
    refine h_chosenL hs (by simp) (by simp) fun c hd => ?_
    have hc : ∃ c' : Int, c = .int c' ∧ 3 ≤ c' ∧ c' ≤ 11 := by
      simp only [List.mem_cons, List.not_mem_nil, or_false] at hd
      rcases hd with e | e | e <;> subst e <;> exact ⟨_, rfl, by omega, by omega⟩
    obtain ⟨c', e, b1, b2⟩ := hc
    subst e
    refine h_pick hs (by omega) (by omega) fun y hy hy2 => ?_
    simp
    refine h_chosenL hs (by simp) (by simp) fun w hw => ?_
    have hg : ∃ g : Int, w = .int g ∧ (g = 1 ∨ g = -1) := by
      simp only [List.mem_cons, List.not_mem_nil, or_false] at hw
      rcases hw with e | e | e <;> subst e
      · exact ⟨1, rfl, .inl rfl⟩
      · exact ⟨1, rfl, .inl rfl⟩
      · exact ⟨-1, rfl, .inr rfl⟩
    obtain ⟨g, e, hg⟩ := hg
    subst e
    simp
    exact ⟨cmul_l (by omega) (by omega), by omega, fin y g hy (by omega) hg⟩
end
def bT : D → Bool
  | .tup [_, .bl k] => k
  | _ => false
def fT : D → D
  | .tup [w, _] => w
  | _ => .non
def dT2 (i j : Nat) (δ : DE) : D → DE
  | .tup [w, k] => (δ.set i (.d w)).set j (.d k)
  | _ => δ
/-- [word for word, good in pairs if good] -/
theorem comp_words {δ : DE} {P : List D → Prop} {xs : List D} (hs : δ.sl.length = 4) (hx : ∀ x ∈ xs, ∃ w k, x = .tup [.str w, .bl k]) (h : P ((xs.filter bT).map fT)) : compD (gT [2, 3]) (tBl (tR 3)) (tN 2) δ P xs [] := by
  obtain ⟨s, sl⟩ := δ
  match sl, hs with
  | [o1, o2, o3, o4], _ =>
    refine comp_gen (dT2 2 3 ⟨s, [o1, o2, o3, o4]⟩) bT fT xs [] (fun x q Q hQ => ?_) (fun x q Q hQ => ?_) (fun x q hb Q hQ => ?_) h
    · obtain ⟨w, k, e⟩ := hx x q
      subst e
      exact hQ
    · obtain ⟨w, k, e⟩ := hx x q
      subst e
      exact hQ
    · obtain ⟨w, k, e⟩ := hx x q
      subst e
      exact hQ
/-- what the names' addresses must be for the law's reading -/
structure Names (K : PySem.W.Frag) (A : Str → Addr) : Prop where
  inj : ∀ x ∈ errN, ∀ y ∈ errN, A x = A y → x = y
  exm : ∀ y ∈ errN, PySem.W.exmOne K (.ref (A y)) (.ref (A "WindError")) = some true
section
variable {A : Str → Addr} {K : PySem.W.Frag} {Φ : Addr → Nat → Option Fn} {s : Option Addr} {P : D → Prop} {EP : Addr → Prop}
def errP (A : Str → Addr) (C : Addr) : List (Str × Bool) := [("script", decide (C = A "InvalidScript")), ("ring", decide (C = A "InvalidRing")), ("peg", decide (C = A "InvalidPeg")), ("index", decide (C = A "InvalidIndex")), ("word", decide (C = A "InvalidWord")), ("length", decide (C = A "InvalidLength")), ("seen", decide (C = A "InvalidSeen")), ("number", decide (C = A "InvalidNumber")), ("text", decide (C = A "InvalidText")), ("laid", decide (C = A "AllLaid")), ("undo", decide (C = A "NothingToUndo"))]
theorem q_error {a C : Addr} (hC : Cs A C) (h : P (.str (Txt.join " " (((errP A C).filter (·.2)).map (·.1))))) : f__law_error A a C P := by
  refine ⟨hC, fun s => ?_⟩
  simp [t__law_error]
  have e : ∀ ps : List (Str × Bool), ((ps.map fun p => D.tup [.str p.1, .bl p.2]).filter bT).map fT = ((ps.filter (·.2)).map (·.1)).map D.str := fun ps => by
    induction ps with
    | nil => rfl
    | cons p ps ih =>
      obtain ⟨w, k⟩ := p
      cases k with
      | true =>
        rw [List.map_cons, List.filter_cons_of_pos (by rfl), List.filter_cons_of_pos (by rfl), List.map_cons, List.map_cons, List.map_cons, ih]
        rfl
      | false =>
        rw [List.map_cons, List.filter_cons_of_neg (fun z => by cases z), List.filter_cons_of_neg (fun z => by cases z), ih]
  have hx : ∀ x ∈ (errP A C).map fun p => D.tup [.str p.1, .bl p.2], ∃ w k, x = .tup [.str w, .bl k] := fun x hx => by
    obtain ⟨p, _, e⟩ := List.mem_map.mp hx
    exact ⟨_, _, e.symm⟩
  have key : ∀ δ : DE, δ.sl.length = 4 → compD (gT [2, 3]) (tBl (tR 3)) (tN 2) δ (fun ds => dJoin " " ds fun d => P d) ((errP A C).map fun p => D.tup [.str p.1, .bl p.2]) [] := fun δ hδ => by
    refine comp_words hδ hx ?_
    rw [e]
    unfold dJoin
    rw [strsOf_map]
    refine ⟨?_, h⟩
    have e1 : (((errP A C).filter (·.2)).map (·.1)).length ≤ 11 := by
      rw [List.length_map]
      exact List.length_filter_le _ _
    have e2 : ∀ ps : List (Str × Bool), (((ps.filter (·.2)).map (·.1)).map (·.length)).sum ≤ (ps.map (·.1.length)).sum := fun ps => by
      induction ps with
      | nil => exact Nat.le_refl _
      | cons p ps ih =>
        obtain ⟨w, k⟩ := p
        cases k with
        | true =>
          rw [List.filter_cons_of_pos (by rfl), List.map_cons, List.map_cons, List.map_cons, List.sum_cons, List.sum_cons]
          omega
        | false =>
          rw [List.filter_cons_of_neg (fun z => by cases z), List.map_cons, List.sum_cons]
          omega
    have e3 := e2 (errP A C)
    have e4 : ((errP A C).map (·.1.length)).sum = 50 := by
      simp only [errP, List.map_cons, List.map_nil]
      decide +kernel
    have e5 : (" " : Str).length = 1 := by decide +kernel
    rw [e5]
    omega
  exact key _ rfl
theorem e_script (hN : Names K A) (h : P (.str "script")) : PySem.W.exmOne K (.ref (A "InvalidScript")) (.ref (A "WindError")) = some true ∧ ∀ a, f__law_error A a (A "InvalidScript") P := by
  refine ⟨hN.exm _ (by decide), fun a => q_error ⟨_, by decide, rfl⟩ ?_⟩
  have ne : ∀ y ∈ errN, y ≠ "InvalidScript" → A "InvalidScript" ≠ A y := fun y hy hn e => hn (hN.inj _ (by decide) _ hy e).symm
  have n0 := ne "InvalidRing" (by decide) (by decide)
  have n1 := ne "InvalidPeg" (by decide) (by decide)
  have n2 := ne "InvalidIndex" (by decide) (by decide)
  have n3 := ne "InvalidWord" (by decide) (by decide)
  have n4 := ne "InvalidLength" (by decide) (by decide)
  have n5 := ne "InvalidSeen" (by decide) (by decide)
  have n6 := ne "InvalidNumber" (by decide) (by decide)
  have n7 := ne "InvalidText" (by decide) (by decide)
  have n8 := ne "AllLaid" (by decide) (by decide)
  have n9 := ne "NothingToUndo" (by decide) (by decide)
  simp only [errP, n0, n1, n2, n3, n4, n5, n6, n7, n8, n9, decide_true, decide_false, List.filter_cons_of_pos, List.filter_cons_of_neg, Bool.false_eq_true, not_false_eq_true, List.filter_nil, List.map_cons, List.map_nil]
  rw [show Txt.join " " ["script"] = "script" from by decide +kernel]
  exact h
theorem e_ring (hN : Names K A) (h : P (.str "ring")) : PySem.W.exmOne K (.ref (A "InvalidRing")) (.ref (A "WindError")) = some true ∧ ∀ a, f__law_error A a (A "InvalidRing") P := by
  refine ⟨hN.exm _ (by decide), fun a => q_error ⟨_, by decide, rfl⟩ ?_⟩
  have ne : ∀ y ∈ errN, y ≠ "InvalidRing" → A "InvalidRing" ≠ A y := fun y hy hn e => hn (hN.inj _ (by decide) _ hy e).symm
  have n0 := ne "InvalidScript" (by decide) (by decide)
  have n1 := ne "InvalidPeg" (by decide) (by decide)
  have n2 := ne "InvalidIndex" (by decide) (by decide)
  have n3 := ne "InvalidWord" (by decide) (by decide)
  have n4 := ne "InvalidLength" (by decide) (by decide)
  have n5 := ne "InvalidSeen" (by decide) (by decide)
  have n6 := ne "InvalidNumber" (by decide) (by decide)
  have n7 := ne "InvalidText" (by decide) (by decide)
  have n8 := ne "AllLaid" (by decide) (by decide)
  have n9 := ne "NothingToUndo" (by decide) (by decide)
  simp only [errP, n0, n1, n2, n3, n4, n5, n6, n7, n8, n9, decide_true, decide_false, List.filter_cons_of_pos, List.filter_cons_of_neg, Bool.false_eq_true, not_false_eq_true, List.filter_nil, List.map_cons, List.map_nil]
  rw [show Txt.join " " ["ring"] = "ring" from by decide +kernel]
  exact h
theorem e_peg (hN : Names K A) (h : P (.str "peg")) : PySem.W.exmOne K (.ref (A "InvalidPeg")) (.ref (A "WindError")) = some true ∧ ∀ a, f__law_error A a (A "InvalidPeg") P := by
  refine ⟨hN.exm _ (by decide), fun a => q_error ⟨_, by decide, rfl⟩ ?_⟩
  have ne : ∀ y ∈ errN, y ≠ "InvalidPeg" → A "InvalidPeg" ≠ A y := fun y hy hn e => hn (hN.inj _ (by decide) _ hy e).symm
  have n0 := ne "InvalidScript" (by decide) (by decide)
  have n1 := ne "InvalidRing" (by decide) (by decide)
  have n2 := ne "InvalidIndex" (by decide) (by decide)
  have n3 := ne "InvalidWord" (by decide) (by decide)
  have n4 := ne "InvalidLength" (by decide) (by decide)
  have n5 := ne "InvalidSeen" (by decide) (by decide)
  have n6 := ne "InvalidNumber" (by decide) (by decide)
  have n7 := ne "InvalidText" (by decide) (by decide)
  have n8 := ne "AllLaid" (by decide) (by decide)
  have n9 := ne "NothingToUndo" (by decide) (by decide)
  simp only [errP, n0, n1, n2, n3, n4, n5, n6, n7, n8, n9, decide_true, decide_false, List.filter_cons_of_pos, List.filter_cons_of_neg, Bool.false_eq_true, not_false_eq_true, List.filter_nil, List.map_cons, List.map_nil]
  rw [show Txt.join " " ["peg"] = "peg" from by decide +kernel]
  exact h
theorem e_index (hN : Names K A) (h : P (.str "index")) : PySem.W.exmOne K (.ref (A "InvalidIndex")) (.ref (A "WindError")) = some true ∧ ∀ a, f__law_error A a (A "InvalidIndex") P := by
  refine ⟨hN.exm _ (by decide), fun a => q_error ⟨_, by decide, rfl⟩ ?_⟩
  have ne : ∀ y ∈ errN, y ≠ "InvalidIndex" → A "InvalidIndex" ≠ A y := fun y hy hn e => hn (hN.inj _ (by decide) _ hy e).symm
  have n0 := ne "InvalidScript" (by decide) (by decide)
  have n1 := ne "InvalidRing" (by decide) (by decide)
  have n2 := ne "InvalidPeg" (by decide) (by decide)
  have n3 := ne "InvalidWord" (by decide) (by decide)
  have n4 := ne "InvalidLength" (by decide) (by decide)
  have n5 := ne "InvalidSeen" (by decide) (by decide)
  have n6 := ne "InvalidNumber" (by decide) (by decide)
  have n7 := ne "InvalidText" (by decide) (by decide)
  have n8 := ne "AllLaid" (by decide) (by decide)
  have n9 := ne "NothingToUndo" (by decide) (by decide)
  simp only [errP, n0, n1, n2, n3, n4, n5, n6, n7, n8, n9, decide_true, decide_false, List.filter_cons_of_pos, List.filter_cons_of_neg, Bool.false_eq_true, not_false_eq_true, List.filter_nil, List.map_cons, List.map_nil]
  rw [show Txt.join " " ["index"] = "index" from by decide +kernel]
  exact h
theorem e_word (hN : Names K A) (h : P (.str "word")) : PySem.W.exmOne K (.ref (A "InvalidWord")) (.ref (A "WindError")) = some true ∧ ∀ a, f__law_error A a (A "InvalidWord") P := by
  refine ⟨hN.exm _ (by decide), fun a => q_error ⟨_, by decide, rfl⟩ ?_⟩
  have ne : ∀ y ∈ errN, y ≠ "InvalidWord" → A "InvalidWord" ≠ A y := fun y hy hn e => hn (hN.inj _ (by decide) _ hy e).symm
  have n0 := ne "InvalidScript" (by decide) (by decide)
  have n1 := ne "InvalidRing" (by decide) (by decide)
  have n2 := ne "InvalidPeg" (by decide) (by decide)
  have n3 := ne "InvalidIndex" (by decide) (by decide)
  have n4 := ne "InvalidLength" (by decide) (by decide)
  have n5 := ne "InvalidSeen" (by decide) (by decide)
  have n6 := ne "InvalidNumber" (by decide) (by decide)
  have n7 := ne "InvalidText" (by decide) (by decide)
  have n8 := ne "AllLaid" (by decide) (by decide)
  have n9 := ne "NothingToUndo" (by decide) (by decide)
  simp only [errP, n0, n1, n2, n3, n4, n5, n6, n7, n8, n9, decide_true, decide_false, List.filter_cons_of_pos, List.filter_cons_of_neg, Bool.false_eq_true, not_false_eq_true, List.filter_nil, List.map_cons, List.map_nil]
  rw [show Txt.join " " ["word"] = "word" from by decide +kernel]
  exact h
theorem e_length (hN : Names K A) (h : P (.str "length")) : PySem.W.exmOne K (.ref (A "InvalidLength")) (.ref (A "WindError")) = some true ∧ ∀ a, f__law_error A a (A "InvalidLength") P := by
  refine ⟨hN.exm _ (by decide), fun a => q_error ⟨_, by decide, rfl⟩ ?_⟩
  have ne : ∀ y ∈ errN, y ≠ "InvalidLength" → A "InvalidLength" ≠ A y := fun y hy hn e => hn (hN.inj _ (by decide) _ hy e).symm
  have n0 := ne "InvalidScript" (by decide) (by decide)
  have n1 := ne "InvalidRing" (by decide) (by decide)
  have n2 := ne "InvalidPeg" (by decide) (by decide)
  have n3 := ne "InvalidIndex" (by decide) (by decide)
  have n4 := ne "InvalidWord" (by decide) (by decide)
  have n5 := ne "InvalidSeen" (by decide) (by decide)
  have n6 := ne "InvalidNumber" (by decide) (by decide)
  have n7 := ne "InvalidText" (by decide) (by decide)
  have n8 := ne "AllLaid" (by decide) (by decide)
  have n9 := ne "NothingToUndo" (by decide) (by decide)
  simp only [errP, n0, n1, n2, n3, n4, n5, n6, n7, n8, n9, decide_true, decide_false, List.filter_cons_of_pos, List.filter_cons_of_neg, Bool.false_eq_true, not_false_eq_true, List.filter_nil, List.map_cons, List.map_nil]
  rw [show Txt.join " " ["length"] = "length" from by decide +kernel]
  exact h
theorem e_seen (hN : Names K A) (h : P (.str "seen")) : PySem.W.exmOne K (.ref (A "InvalidSeen")) (.ref (A "WindError")) = some true ∧ ∀ a, f__law_error A a (A "InvalidSeen") P := by
  refine ⟨hN.exm _ (by decide), fun a => q_error ⟨_, by decide, rfl⟩ ?_⟩
  have ne : ∀ y ∈ errN, y ≠ "InvalidSeen" → A "InvalidSeen" ≠ A y := fun y hy hn e => hn (hN.inj _ (by decide) _ hy e).symm
  have n0 := ne "InvalidScript" (by decide) (by decide)
  have n1 := ne "InvalidRing" (by decide) (by decide)
  have n2 := ne "InvalidPeg" (by decide) (by decide)
  have n3 := ne "InvalidIndex" (by decide) (by decide)
  have n4 := ne "InvalidWord" (by decide) (by decide)
  have n5 := ne "InvalidLength" (by decide) (by decide)
  have n6 := ne "InvalidNumber" (by decide) (by decide)
  have n7 := ne "InvalidText" (by decide) (by decide)
  have n8 := ne "AllLaid" (by decide) (by decide)
  have n9 := ne "NothingToUndo" (by decide) (by decide)
  simp only [errP, n0, n1, n2, n3, n4, n5, n6, n7, n8, n9, decide_true, decide_false, List.filter_cons_of_pos, List.filter_cons_of_neg, Bool.false_eq_true, not_false_eq_true, List.filter_nil, List.map_cons, List.map_nil]
  rw [show Txt.join " " ["seen"] = "seen" from by decide +kernel]
  exact h
theorem e_number (hN : Names K A) (h : P (.str "number")) : PySem.W.exmOne K (.ref (A "InvalidNumber")) (.ref (A "WindError")) = some true ∧ ∀ a, f__law_error A a (A "InvalidNumber") P := by
  refine ⟨hN.exm _ (by decide), fun a => q_error ⟨_, by decide, rfl⟩ ?_⟩
  have ne : ∀ y ∈ errN, y ≠ "InvalidNumber" → A "InvalidNumber" ≠ A y := fun y hy hn e => hn (hN.inj _ (by decide) _ hy e).symm
  have n0 := ne "InvalidScript" (by decide) (by decide)
  have n1 := ne "InvalidRing" (by decide) (by decide)
  have n2 := ne "InvalidPeg" (by decide) (by decide)
  have n3 := ne "InvalidIndex" (by decide) (by decide)
  have n4 := ne "InvalidWord" (by decide) (by decide)
  have n5 := ne "InvalidLength" (by decide) (by decide)
  have n6 := ne "InvalidSeen" (by decide) (by decide)
  have n7 := ne "InvalidText" (by decide) (by decide)
  have n8 := ne "AllLaid" (by decide) (by decide)
  have n9 := ne "NothingToUndo" (by decide) (by decide)
  simp only [errP, n0, n1, n2, n3, n4, n5, n6, n7, n8, n9, decide_true, decide_false, List.filter_cons_of_pos, List.filter_cons_of_neg, Bool.false_eq_true, not_false_eq_true, List.filter_nil, List.map_cons, List.map_nil]
  rw [show Txt.join " " ["number"] = "number" from by decide +kernel]
  exact h
theorem e_text (hN : Names K A) (h : P (.str "text")) : PySem.W.exmOne K (.ref (A "InvalidText")) (.ref (A "WindError")) = some true ∧ ∀ a, f__law_error A a (A "InvalidText") P := by
  refine ⟨hN.exm _ (by decide), fun a => q_error ⟨_, by decide, rfl⟩ ?_⟩
  have ne : ∀ y ∈ errN, y ≠ "InvalidText" → A "InvalidText" ≠ A y := fun y hy hn e => hn (hN.inj _ (by decide) _ hy e).symm
  have n0 := ne "InvalidScript" (by decide) (by decide)
  have n1 := ne "InvalidRing" (by decide) (by decide)
  have n2 := ne "InvalidPeg" (by decide) (by decide)
  have n3 := ne "InvalidIndex" (by decide) (by decide)
  have n4 := ne "InvalidWord" (by decide) (by decide)
  have n5 := ne "InvalidLength" (by decide) (by decide)
  have n6 := ne "InvalidSeen" (by decide) (by decide)
  have n7 := ne "InvalidNumber" (by decide) (by decide)
  have n8 := ne "AllLaid" (by decide) (by decide)
  have n9 := ne "NothingToUndo" (by decide) (by decide)
  simp only [errP, n0, n1, n2, n3, n4, n5, n6, n7, n8, n9, decide_true, decide_false, List.filter_cons_of_pos, List.filter_cons_of_neg, Bool.false_eq_true, not_false_eq_true, List.filter_nil, List.map_cons, List.map_nil]
  rw [show Txt.join " " ["text"] = "text" from by decide +kernel]
  exact h
theorem e_laid (hN : Names K A) (h : P (.str "laid")) : PySem.W.exmOne K (.ref (A "AllLaid")) (.ref (A "WindError")) = some true ∧ ∀ a, f__law_error A a (A "AllLaid") P := by
  refine ⟨hN.exm _ (by decide), fun a => q_error ⟨_, by decide, rfl⟩ ?_⟩
  have ne : ∀ y ∈ errN, y ≠ "AllLaid" → A "AllLaid" ≠ A y := fun y hy hn e => hn (hN.inj _ (by decide) _ hy e).symm
  have n0 := ne "InvalidScript" (by decide) (by decide)
  have n1 := ne "InvalidRing" (by decide) (by decide)
  have n2 := ne "InvalidPeg" (by decide) (by decide)
  have n3 := ne "InvalidIndex" (by decide) (by decide)
  have n4 := ne "InvalidWord" (by decide) (by decide)
  have n5 := ne "InvalidLength" (by decide) (by decide)
  have n6 := ne "InvalidSeen" (by decide) (by decide)
  have n7 := ne "InvalidNumber" (by decide) (by decide)
  have n8 := ne "InvalidText" (by decide) (by decide)
  have n9 := ne "NothingToUndo" (by decide) (by decide)
  simp only [errP, n0, n1, n2, n3, n4, n5, n6, n7, n8, n9, decide_true, decide_false, List.filter_cons_of_pos, List.filter_cons_of_neg, Bool.false_eq_true, not_false_eq_true, List.filter_nil, List.map_cons, List.map_nil]
  rw [show Txt.join " " ["laid"] = "laid" from by decide +kernel]
  exact h
theorem e_undo (hN : Names K A) (h : P (.str "undo")) : PySem.W.exmOne K (.ref (A "NothingToUndo")) (.ref (A "WindError")) = some true ∧ ∀ a, f__law_error A a (A "NothingToUndo") P := by
  refine ⟨hN.exm _ (by decide), fun a => q_error ⟨_, by decide, rfl⟩ ?_⟩
  have ne : ∀ y ∈ errN, y ≠ "NothingToUndo" → A "NothingToUndo" ≠ A y := fun y hy hn e => hn (hN.inj _ (by decide) _ hy e).symm
  have n0 := ne "InvalidScript" (by decide) (by decide)
  have n1 := ne "InvalidRing" (by decide) (by decide)
  have n2 := ne "InvalidPeg" (by decide) (by decide)
  have n3 := ne "InvalidIndex" (by decide) (by decide)
  have n4 := ne "InvalidWord" (by decide) (by decide)
  have n5 := ne "InvalidLength" (by decide) (by decide)
  have n6 := ne "InvalidSeen" (by decide) (by decide)
  have n7 := ne "InvalidNumber" (by decide) (by decide)
  have n8 := ne "InvalidText" (by decide) (by decide)
  have n9 := ne "AllLaid" (by decide) (by decide)
  simp only [errP, n0, n1, n2, n3, n4, n5, n6, n7, n8, n9, decide_true, decide_false, List.filter_cons_of_pos, List.filter_cons_of_neg, Bool.false_eq_true, not_false_eq_true, List.filter_nil, List.map_cons, List.map_nil]
  rw [show Txt.join " " ["undo"] = "undo" from by decide +kernel]
  exact h
theorem q_by_three {f : Addr} {x y z : D} {φ : Fn} (hf : Φ f 3 = some φ) (h : φ s [x, y, z] (fun _ => P (.str "")) (fun c => PySem.W.exmOne K (.ref c) (.ref (A "WindError")) = some true ∧ ∀ a, f__law_error A a c P)) : f__law_by_three K A Φ s [.ref f, x, y, z] P EP := by
  unfold f__law_by_three t__law_by_three
  generalize f__law_error A = ψ at h ⊢
  simp [tClV, hf, Nat.beq]
  exact h
end
theorem eqB_str (x y : Str) : D.eqB (.str x) (.str y) = (x == y) := by
  unfold D.eqB D.py PyData.eqv
  rfl
end Wn

set_option Elab.async false
set_option linter.all false
set_option maxRecDepth 100000
set_option maxHeartbeats 1000000
namespace Wn
open PySem PySem.Spec PyProof.Rows L2
section
variable {A : Str → Addr} {s : Option Addr} {P : D → Prop} {PL : List D → Prop} {EP : Addr → Prop}
theorem q_drawn_ring {a : Addr} {ns : List Int} {m : Int} (hs : s = some a) (sc : Sc ns) (hm : 48 ≤ m) (hm2 : m ≤ 1000) (h : ∀ n : Nat, 24 ≤ n → (n : Int) ≤ m → P (.int n)) : f__law_drawn_ring A s [.ref a, .tup (ns.map D.int), .int m] P EP := by
  have ab := sc.ab
  have sm := sc.sm
  have hi : ∀ n : Int, 24 ≤ n → n ≤ m → P (.int n) := fun n h1 h2 => by
    have := h n.toNat (by omega) (by omega)
    rwa [Int.toNat_of_nonneg (by omega)] at this
  obtain ⟨v_pick, g_pick⟩ : ∃ v, v = (f__law_pick A) := ⟨_, rfl⟩
  have h_pick := @q_pick A
  rw [← g_pick] at h_pick
  unfold f__law_drawn_ring t__law_drawn_ring
  try simp only [← g_pick]
  simp
  refine h_pick hs (by omega) (by omega) fun w hw hw2 => ?_
  have rest : v_pick s [D.ref a, D.int (m - 23)] (fun x => dAdd (D.int 24) x fun d => P d) (fun c => EP c) := by
    refine h_pick hs (by omega) (by omega) fun i i0 i1 => ?_
    simp
    exact hi _ (by omega) (by omega)
  have rest2 : (w == 0) = false ∨ ¬((ns.sum.natAbs : Int) < m / 2) → v_pick s [D.ref a, D.int (m - 23)] (fun x => dAdd (D.int 24) x fun d => P d) (fun c => EP c) := fun _ => rest
  by_cases c : w = 0
  · by_cases c2 : (ns.sum.natAbs : Int) < m / 2
    · simp [c, c2]
      have w1 : (0 : Int) < ns.sum.natAbs := by omega
      have w2 : (ns.sum.natAbs : Int) ≤ m - 24 := by omega
      generalize (ns.sum.natAbs : Int) = w at w1 w2 ⊢
      have a1 : w * (24 / w) ≤ 24 := Int.mul_ediv_self_le (by omega)
      have a2 : (24 : Int) < w * (24 / w) + w := Int.lt_mul_ediv_self_add w1
      have b1 : w * (m / w) ≤ m := Int.mul_ediv_self_le (by omega)
      have b2 : m < w * (m / w) + w := Int.lt_mul_ediv_self_add w1
      have pos : 0 < m / w - 24 / w := by
        rcases Int.lt_or_le (24 / w) (m / w) with q | q
        · omega
        · have := Int.mul_le_mul_of_nonneg_left q (show 0 ≤ w by omega)
          omega
      refine ⟨cdivw (by omega) (by omega), cdivw (by omega) (by omega), cdivw (by omega) (by omega), cdivw (by omega) (by omega), h_pick hs pos ?_ fun p p0 p1 => ?_⟩
      · have : m / w ≤ m := Int.ediv_le_self _ (by omega)
        have : 0 ≤ 24 / w := Int.ediv_nonneg (by omega) (by omega)
        omega
      · simp
        have q1 := Int.mul_le_mul_of_nonneg_left (show p ≤ m / w - 24 / w - 1 by omega) (show 0 ≤ w by omega)
        have q2 := Int.mul_nonneg (show 0 ≤ w by omega) p0
        rw [Int.mul_sub, Int.mul_sub, Int.mul_one] at q1
        refine ⟨cmul_l (by omega) (by omega), hi _ ?_ ?_⟩
        · rw [Int.mul_add, Int.mul_add]
          omega
        · rw [Int.mul_add, Int.mul_add]
          omega
    · simp [c, c2]
      exact ⟨cdivw (by omega) (by omega), rest⟩
  · have c' : (w == 0) = false := beq_false_of_ne c
    simp [c']
    exact rest
end
end Wn

set_option Elab.async false
set_option linter.all false
set_option maxRecDepth 100000
set_option maxHeartbeats 1000000
namespace Wn
open PySem PySem.Spec PyProof.Rows L2
theorem offs_get {ns : List Int} {i : Nat} (h : i < ns.length) : (offs ns)[i]?.getD 0 = (ns.take i).sum := by
  unfold offs
  rw [List.getElem?_map, List.getElem?_range h]
  rfl
theorem farI_succ {ns : List Int} (h : 1 ≤ ns.length) (m : Nat) : farI ns ((m : Int) + 1) = farI ns m + ns[m % ns.length]?.getD 0 := by
  have hl : 0 < ns.length := h
  have d := Nat.div_add_mod m ns.length
  have r := Nat.mod_lt m hl
  unfold farI
  rw [show ((m : Int) + 1) = ((m + 1 : Nat) : Int) from by omega]
  simp only [← Int.natCast_ediv, ← Int.natCast_emod, Int.toNat_natCast]
  have g : ns[m % ns.length]? = some (ns[m % ns.length]) := List.getElem?_eq_getElem r
  have ts := sum_take_succ ns (m % ns.length) _ g
  rw [g, Option.getD_some]
  by_cases c : m % ns.length + 1 < ns.length
  · have e1 : (m + 1) / ns.length = m / ns.length := by
      rw [Nat.div_eq_iff hl]
      constructor
      · rw [Nat.mul_comm]
        omega
      · rw [Nat.mul_comm]
        omega
    have e2 : (m + 1) % ns.length = m % ns.length + 1 := by
      have d2 := Nat.div_add_mod (m + 1) ns.length
      rw [e1] at d2
      omega
    rw [e1, e2, offs_get c, offs_get r, ts]
    omega
  · have ec : m % ns.length + 1 = ns.length := by omega
    have e0 : m + 1 = ns.length * (m / ns.length + 1) := by
      rw [Nat.mul_add]
      omega
    have e1 : (m + 1) / ns.length = m / ns.length + 1 := by
      rw [e0, Nat.mul_div_cancel_left _ hl]
    have e2 : (m + 1) % ns.length = 0 := by
      rw [e0, Nat.mul_mod_right]
    rw [e1, e2, offs_get hl, offs_get r]
    rw [ec, List.take_length] at ts
    rw [ts, List.take_zero, List.sum_nil, Int.natCast_add, Int.add_mul]
    omega
theorem startsTo_mem {ns : List Int} {p x : Int} : ∀ {n : Nat}, x ∈ startsTo ns p n → ∃ k : Nat, k < n ∧ x = k
  | 0, h => by cases h
  | n + 1, h => by
    rw [startsTo_succ] at h
    split at h
    · obtain ⟨k, h1, h2⟩ := startsTo_mem h
      exact ⟨k, by omega, h2⟩
    · rcases List.mem_append.mp h with q | q
      · obtain ⟨k, h1, h2⟩ := startsTo_mem q
        exact ⟨k, by omega, h2⟩
      · rw [List.mem_singleton.mp q]
        exact ⟨n, by omega, rfl⟩
theorem startsL_get {ns : List Int} {p : Nat} {i : Nat} (h : i < (startsL ns p).length) : ∃ k : Nat, k < p ∧ (startsL ns p)[i]?.getD 0 = k := by
  rw [List.getElem?_eq_getElem h, Option.getD_some]
  exact startsTo_mem (List.getElem_mem h)
theorem startsL_ne {ns : List Int} {p : Nat} (hp : 0 < p) : 0 < (startsL ns p).length := by
  have key : ∀ (p : Int) (n : Nat), 0 < (startsTo ns p (n + 1)).length := fun p n => by
    induction n with
    | zero => exact Nat.one_pos
    | succ n ih =>
      rw [startsTo_succ]
      split
      · exact ih
      · rw [List.length_append]
        omega
  obtain ⟨q, e⟩ : ∃ q, p = q + 1 := ⟨p - 1, by omega⟩
  unfold startsL
  rw [e]
  exact key _ q
theorem gcd_le_n {ns : List Int} {n : Int} (h : 0 < n) : (gcdN ns n : Int) ≤ n := Int.le_of_dvd h (Int.gcd_dvd_left ..)
theorem rounds_sum {ns : List Int} {n : Int} : n / (gcdN ns n : Int) * ns.sum = n * (ns.sum / (gcdN ns n : Int)) := by
  have d1 : ((gcdN ns n : Nat) : Int) ∣ n := Int.gcd_dvd_left ..
  have d2 : ((gcdN ns n : Nat) : Int) ∣ ns.sum := Int.gcd_dvd_right ..
  rw [← Int.mul_ediv_assoc' _ d1, Int.mul_ediv_assoc _ d2]
/-- where one is in a loop -/
theorem here_e {ns : List Int} {n loop inner : Int} (sc : Sc ns) (n1 : 24 ≤ n) (h1 : 0 ≤ inner) (h2 : inner < sizeI ns n) : hereI ns n (loop * sizeI ns n + inner) = ((startsL ns (gcdN ns n))[loop.toNat]?.getD 0 + farI ns inner) % n ∧ (loop * sizeI ns n + inner) % ns.length = inner % ns.length := by
  obtain ⟨z1, z2⟩ := sizeI_pos sc n1
  have l1 := sc.l1
  have e1 : (loop * sizeI ns n + inner) / sizeI ns n = loop := by
    rw [Int.add_comm, Int.add_mul_ediv_right _ _ (by omega), Int.ediv_eq_zero_of_lt h1 h2]
    omega
  have e2 : (loop * sizeI ns n + inner) % sizeI ns n = inner := by
    rw [Int.add_comm, Int.add_mul_emod_self_right, Int.emod_eq_of_lt h1 h2]
  have e3 : (loop * sizeI ns n + inner) % ns.length = inner % ns.length := by
    unfold sizeI
    rw [← Int.mul_assoc, Int.mul_comm loop, Int.mul_assoc, Int.add_comm, Int.add_mul_emod_self_left]
  refine ⟨?_, e3⟩
  unfold hereI farI
  rw [e1, e2, e3]
  congr 1
  omega
theorem far_size {ns : List Int} {n : Int} (sc : Sc ns) (n1 : 24 ≤ n) : farI ns (sizeI ns n) % n = 0 := by
  have l1 := sc.l1
  unfold farI sizeI
  rw [Int.mul_ediv_cancel_left _ (by omega), Int.mul_emod_right, rounds_sum]
  have : (offs ns)[(0 : Int).toNat]?.getD 0 = 0 := by
    rw [Int.toNat_zero, offs_get (by omega)]
    rfl
  rw [this, Int.add_zero, Int.mul_emod_right]
theorem far_next {ns : List Int} {m : Int} (h : 1 ≤ ns.length) (hm : 0 ≤ m) : farI ns (m + 1) = farI ns m + ns[(m % ns.length).toNat]?.getD 0 := by
  obtain ⟨k, rfl⟩ : ∃ k : Nat, m = k := ⟨m.toNat, by omega⟩
  have q := farI_succ h k
  rw [q, ← Int.natCast_emod, Int.toNat_natCast]
end Wn

set_option Elab.async false
set_option linter.all false
set_option maxRecDepth 100000
set_option maxHeartbeats 1000000
namespace Wn
open PySem PySem.Spec PyProof.Rows L2
theorem bez_nat (a b : Nat) : ∃ x y : Int, (Nat.gcd a b : Int) = a * x + b * y := by
  induction a, b using Nat.gcd.induction with
  | H0 n => exact ⟨0, 1, by simp⟩
  | H1 m n hm ih =>
    obtain ⟨x, y, e⟩ := ih
    refine ⟨y - (n / m : Nat) * x, x, ?_⟩
    rw [Nat.gcd_rec, e]
    have d : (n : Int) = m * (n / m : Nat) + (n % m : Nat) := by
      have := Nat.div_add_mod n m
      omega
    have d2 : (n : Int) * x = m * (n / m : Nat) * x + (n % m : Nat) * x := by
      rw [← Int.add_mul, ← d]
    rw [d2, Int.mul_sub, ← Int.mul_assoc]
    omega
theorem bez (a b : Int) : ∃ x y : Int, (Int.gcd a b : Int) = a * x + b * y := by
  obtain ⟨x, y, e⟩ := bez_nat a.natAbs b.natAbs
  have e : (Int.gcd a b : Int) = a.natAbs * x + b.natAbs * y := e
  have ha : ∃ u : Int, (a.natAbs : Int) = a * u := by
    rcases Int.natAbs_eq a with h | h
    · exact ⟨1, by omega⟩
    · exact ⟨-1, by omega⟩
  have hb : ∃ u : Int, (b.natAbs : Int) = b * u := by
    rcases Int.natAbs_eq b with h | h
    · exact ⟨1, by omega⟩
    · exact ⟨-1, by omega⟩
  obtain ⟨u, hu⟩ := ha
  obtain ⟨v, hv⟩ := hb
  exact ⟨u * x, v * y, by rw [e, hu, hv, Int.mul_assoc, Int.mul_assoc]⟩
/-- what a ring and a script have in common: n = g * R, sum = g * c, 1 = R * x + c * y -/
theorem parts_of (ns : List Int) (n : Int) (sm : ns.sum ≠ 0) : ∃ R c x y : Int, n = gcdN ns n * R ∧ ns.sum = gcdN ns n * c ∧ 1 = R * x + c * y ∧ R = n / gcdN ns n ∧ c = ns.sum / gcdN ns n := by
  have g1 : (gcdN ns n : Int) ≠ 0 := by have := gcdN_pos (n := n) sm; omega
  have d1 : ((gcdN ns n : Nat) : Int) ∣ n := Int.gcd_dvd_left ..
  have d2 : ((gcdN ns n : Nat) : Int) ∣ ns.sum := Int.gcd_dvd_right ..
  have e1 := Int.mul_ediv_cancel' d1
  have e2 := Int.mul_ediv_cancel' d2
  obtain ⟨x, y, e⟩ := bez n ns.sum
  refine ⟨n / gcdN ns n, ns.sum / gcdN ns n, x, y, e1.symm, e2.symm, ?_, rfl, rfl⟩
  refine Int.eq_of_mul_eq_mul_left g1 ?_
  rw [Int.mul_add, ← Int.mul_assoc, ← Int.mul_assoc, e1, e2, Int.mul_one]
  exact e
/-- so many rounds lead back just if the rounds of a loop divide them -/
theorem back_iff {ns : List Int} {n r : Int} (sm : ns.sum ≠ 0) : n ∣ r * ns.sum ↔ n / gcdN ns n ∣ r := by
  obtain ⟨R, c, x, y, e1, e2, e3, e4, _⟩ := parts_of ns n sm
  have g1 : (gcdN ns n : Int) ≠ 0 := by have := gcdN_pos (n := n) sm; omega
  rw [← e4]
  constructor
  · rintro ⟨m, hm⟩
    have h : r * c = R * m := by
      refine Int.eq_of_mul_eq_mul_left g1 ?_
      rw [← Int.mul_assoc, ← Int.mul_assoc, ← e1, Int.mul_comm (gcdN ns n : Int) r, Int.mul_assoc, ← e2, hm]
    refine ⟨r * x + m * y, ?_⟩
    calc r = r * (R * x + c * y) := by rw [← e3, Int.mul_one]
      _ = R * (r * x) + (r * c) * y := by rw [Int.mul_add, Int.mul_left_comm r R x, Int.mul_assoc r c y]
      _ = R * (r * x + m * y) := by rw [h, Int.mul_add, Int.mul_assoc R m y]
  · rintro ⟨k, hk⟩
    refine ⟨c * k, ?_⟩
    rw [hk, e2]
    calc R * k * (gcdN ns n * c) = gcdN ns n * R * (c * k) := by
            rw [Int.mul_comm (gcdN ns n : Int) R, Int.mul_assoc, Int.mul_assoc, Int.mul_left_comm k, Int.mul_comm k c]
      _ = n * (c * k) := by rw [← e1]
/-- all pegs of a rest are come to -/
theorem reach {ns : List Int} {n d : Int} (sm : ns.sum ≠ 0) (hn : 0 < n) (h : (gcdN ns n : Int) ∣ d) : ∃ t : Nat, (t : Int) < n / gcdN ns n ∧ n ∣ t * ns.sum - d := by
  obtain ⟨R, c, x, y, e1, e2, e3, e4, _⟩ := parts_of ns n sm
  have g1 : (0 : Int) < gcdN ns n := by have := gcdN_pos (n := n) sm; omega
  have R1 : 0 < R := by
    rcases Int.lt_or_le 0 R with q | q
    · exact q
    · have := Int.mul_nonpos_of_nonneg_of_nonpos (show (0 : Int) ≤ gcdN ns n by omega) q
      omega
  obtain ⟨q, hq⟩ := h
  obtain ⟨m0, m1⟩ := md (y * q) R R1
  rw [← e4]
  refine ⟨((y * q) % R).toNat, by omega, ?_⟩
  rw [show ((((y * q) % R).toNat : Nat) : Int) = (y * q) % R from by omega]
  have dm := Int.emod_add_mul_ediv (y * q) R
  generalize hA : (y * q) % R = A at *
  generalize hB : (y * q) / R = B at *
  have eA : A = y * q - R * B := by omega
  refine ⟨-(B * c) - x * q, ?_⟩
  have k1 : (y * q) * (gcdN ns n * c) = gcdN ns n * (c * y * q) := by
    rw [Int.mul_comm c y, Int.mul_left_comm, Int.mul_assoc y q, Int.mul_assoc y c, Int.mul_comm q c]
  have k2 : R * B * (gcdN ns n * c) = gcdN ns n * R * (B * c) := by
    rw [Int.mul_comm (gcdN ns n : Int) R, Int.mul_assoc, Int.mul_assoc, Int.mul_left_comm B]
  have k3 : gcdN ns n * q = gcdN ns n * R * (x * q) + gcdN ns n * (c * y * q) := by
    have : q = (R * x + c * y) * q := by rw [← e3, Int.one_mul]
    conv => lhs; rw [this]
    rw [Int.add_mul, Int.mul_add, Int.mul_assoc R x q, ← Int.mul_assoc (gcdN ns n : Int) R (x * q)]
  rw [eA, Int.sub_mul, hq, e2, k1, k2, k3, Int.mul_sub, Int.mul_neg]
  have e1' : (gcdN ns n : Int) * R = n := e1.symm
  rw [e1']
  omega
theorem far_at {ns : List Int} {t j : Nat} (h : j < ns.length) : farI ns ((t * ns.length + j : Nat) : Int) = t * ns.sum + (ns.take j).sum := by
  have hl : 0 < ns.length := by omega
  unfold farI
  simp only [← Int.natCast_ediv, ← Int.natCast_emod, Int.toNat_natCast]
  have e1 : (t * ns.length + j) / ns.length = t := by
    rw [Nat.mul_comm, Nat.mul_add_div hl, Nat.div_eq_of_lt h, Nat.add_zero]
  have e2 : (t * ns.length + j) % ns.length = j := by
    rw [Nat.mul_comm, Nat.mul_add_mod, Nat.mod_eq_of_lt h]
  rw [e1, e2, offs_get h]
/-- where one is, from a first peg on -/
def hereF (ns : List Int) (n : Nat) (s : Int) (i : Nat) : Int := (s + farI ns i) % n
def roundsN (ns : List Int) (n : Nat) : Nat := n / gcdN ns n
def sizeN (ns : List Int) (n : Nat) : Nat := ns.length * roundsN ns n
theorem sizeN_e (ns : List Int) (n : Nat) : sizeI ns n = sizeN ns n := by
  unfold sizeI sizeN roundsN
  rw [Int.natCast_mul, Int.natCast_ediv]
theorem hereF_rng {ns : List Int} {n : Nat} (hn : 0 < n) (s : Int) (i : Nat) : 0 ≤ hereF ns n s i ∧ hereF ns n s i < n := md _ _ (by omega)
theorem hereF_succ {ns : List Int} {n : Nat} (h : 1 ≤ ns.length) (s : Int) (i : Nat) : hereF ns n s (i + 1) = (hereF ns n s i + ns[i % ns.length]?.getD 0) % n := by
  unfold hereF
  rw [Int.emod_add_emod, Int.natCast_add, show ((1 : Nat) : Int) = 1 from rfl, farI_succ h, Int.add_assoc]
theorem mem_offs {ns : List Int} {o : Int} : o ∈ offs ns ↔ ∃ j, j < ns.length ∧ o = (ns.take j).sum := by
  unfold offs
  rw [List.mem_map]
  constructor
  · rintro ⟨j, hj, e⟩
    exact ⟨j, List.mem_range.mp hj, e.symm⟩
  · rintro ⟨j, hj, e⟩
    exact ⟨j, List.mem_range.mpr hj, e.symm⟩
theorem roundsN_pos {ns : List Int} {n : Nat} (sm : ns.sum ≠ 0) (hn : 0 < n) : 0 < roundsN ns n := Nat.div_pos (by have := gcd_le_n (ns := ns) (n := n) (by omega); omega) (gcdN_pos sm)
theorem hereF_size {ns : List Int} {n : Nat} (l1 : 1 ≤ ns.length) (s : Int) : hereF ns n s (sizeN ns n) = s % n := by
  have e := far_at (ns := ns) (t := roundsN ns n) (j := 0) (by omega)
  unfold hereF
  rw [show sizeN ns n = roundsN ns n * ns.length + 0 from Nat.mul_comm .., e, List.take_zero, List.sum_nil, Int.add_zero]
  unfold roundsN
  rw [Int.natCast_ediv, rounds_sum, Int.add_mul_emod_self_left]
/-- a loop comes to all pegs of its rests -/
theorem vis {ns : List Int} {n : Nat} (sc : Sc ns) (hn : 0 < n) {s z : Int} (z0 : 0 ≤ z) (z1 : z < n) : (∃ i, i < sizeN ns n ∧ hereF ns n s (i + 1) = z) ↔ ((offs ns).any fun o => (s + o) % gcdN ns n == z % gcdN ns n) = true := by
  have l1 := sc.l1
  have sm := sc.sm
  have d1 : ((gcdN ns n : Nat) : Int) ∣ n := Int.gcd_dvd_left ..
  have d2 : ((gcdN ns n : Nat) : Int) ∣ ns.sum := Int.gcd_dvd_right ..
  have R0 := roundsN_pos (n := n) sm hn
  constructor
  · rintro ⟨i, hi, e⟩
    have hm := Nat.mod_lt (i + 1) (show 0 < ns.length by omega)
    have hd := Nat.div_add_mod (i + 1) ns.length
    have f := far_at (ns := ns) (t := (i + 1) / ns.length) hm
    rw [Nat.mul_comm, hd] at f
    refine List.any_eq_true.mpr ⟨_, mem_offs.mpr ⟨_, hm, rfl⟩, ?_⟩
    rw [beq_iff_eq, ← e]
    unfold hereF
    rw [Int.emod_emod_of_dvd _ d1, f]
    obtain ⟨c, hc⟩ := d2
    rw [hc, Int.mul_left_comm, Int.add_left_comm, Int.mul_add_emod_self_left]
  · intro h
    obtain ⟨o, ho, e⟩ := List.any_eq_true.mp h
    obtain ⟨j, hj, eo⟩ := mem_offs.mp ho
    rw [beq_iff_eq] at e
    have dd : (gcdN ns n : Int) ∣ z - s - o := by
      have := Int.emod_emod_of_dvd
      refine Int.dvd_of_emod_eq_zero ?_
      rw [Int.sub_sub, Int.sub_emod, ← e, Int.sub_self, Int.zero_emod]
    obtain ⟨t, ht, q⟩ := reach (n := n) sm (by omega) dd
    have ht : t < roundsN ns n := by
      unfold roundsN
      rw [← Int.natCast_ediv] at ht
      omega
    have key : hereF ns n s (t * ns.length + j) = z := by
      unfold hereF
      rw [far_at hj, ← eo]
      have : (s + (t * ns.sum + o)) % n = z % n := by
        refine Int.emod_eq_emod_iff_emod_sub_eq_zero.mpr (Int.emod_eq_zero_of_dvd ?_)
        rw [show s + (t * ns.sum + o) - z = t * ns.sum - (z - s - o) from by omega]
        exact q
      rw [this, Int.emod_eq_of_lt z0 z1]
    have lt : t * ns.length + j < sizeN ns n := by
      have : (t + 1) * ns.length ≤ roundsN ns n * ns.length := Nat.mul_le_mul_right _ ht
      unfold sizeN
      rw [Nat.mul_comm ns.length]
      rw [Nat.add_mul] at this
      omega
    by_cases c : t * ns.length + j = 0
    · have s1 : 0 < sizeN ns n := Nat.mul_pos (by omega) R0
      refine ⟨sizeN ns n - 1, by omega, ?_⟩
      rw [show sizeN ns n - 1 + 1 = sizeN ns n from by omega, hereF_size l1]
      rw [c] at key
      rw [← key]
      unfold hereF
      have f0 := far_at (ns := ns) (t := 0) (j := 0) (by omega)
      simp at f0
      rw [show ((0 : Nat) : Int) = 0 from rfl, f0, Int.add_zero]
    · exact ⟨t * ns.length + j - 1, by omega, by rw [show t * ns.length + j - 1 + 1 = t * ns.length + j from by omega]; exact key⟩
theorem cov_mono {os : List Int} {p : Int} {ss ts : List Int} {x : Int} (h : cov os p ss x = true) : cov os p (ss ++ ts) x = true := by
  unfold cov at h ⊢
  rw [List.any_append, h, Bool.true_or]
theorem startsTo_pre (ns : List Int) (p : Int) (n k : Nat) : ∃ t, startsTo ns p (n + k) = startsTo ns p n ++ t := by
  induction k with
  | zero => exact ⟨[], by simp⟩
  | succ k ih =>
    obtain ⟨t, e⟩ := ih
    rw [← Nat.add_assoc, startsTo_succ, e]
    split
    · exact ⟨t, rfl⟩
    · exact ⟨t ++ [((n + k : Nat) : Int)], by rw [List.append_assoc]⟩
theorem cov_self' {ns : List Int} {p : Nat} {k : Nat} (hl : 1 ≤ ns.length) (hk : k < p) : ((offs ns).any fun o => ((k : Int) + o) % p == k) = true := by
  refine List.any_eq_true.mpr ⟨0, ?_, ?_⟩
  · exact mem_offs.mpr ⟨0, by omega, by simp⟩
  · rw [Int.add_zero, Int.emod_eq_of_lt (by omega) (by omega)]
    exact beq_self_eq_true _
theorem cov_full {ns : List Int} {p : Nat} (hl : 1 ≤ ns.length) {k : Nat} (hk : k < p) : cov (offs ns) p (startsL ns p) k = true := by
  obtain ⟨t, e⟩ := startsTo_pre ns p (k + 1) (p - (k + 1))
  unfold startsL
  rw [show p = k + 1 + (p - (k + 1)) from by omega] at e ⊢
  rw [← show p = k + 1 + (p - (k + 1)) from by omega] at e ⊢
  rw [show startsTo ns (p : Int) p = startsTo ns p (k + 1) ++ t from by
    rw [← e]
    congr 1
    omega]
  refine cov_mono ?_
  rw [startsTo_succ]
  split
  · assumption
  · rw [cov_app, cov_self' hl hk, Bool.or_true]
end Wn

set_option Elab.async false
set_option linter.all false
set_option maxRecDepth 100000
set_option maxHeartbeats 1000000
namespace Wn
open PySem PySem.Spec PyProof.Rows L2
def tripD (x : Int × Int × Int) : D := .tup [.int x.1, .int x.2.1, .int x.2.2]
def strand (ns : List Int) (n : Nat) (s : Int) (l : Nat) (k : Nat) : Int × Int × Int := (hereF ns n s k, hereF ns n s (k + 1), (l : Int))
def woundF (ns : List Int) (n : Nat) (ss : List Int) (t : Nat) : Int × Int × Int := strand ns n (ss[t / sizeN ns n]?.getD 0) (t / sizeN ns n) (t % sizeN ns n)
def woundTo (ns : List Int) (n : Nat) (ss : List Int) : List (Int × Int × Int) := (List.range (ss.length * sizeN ns n)).map (woundF ns n ss)
/-- all spans, as they are laid -/
def woundL (ns : List Int) (n : Nat) : List (Int × Int × Int) := woundTo ns n (startsL ns (gcdN ns n))
theorem wound_snoc {ns : List Int} {n : Nat} (hS : 0 < sizeN ns n) (ss : List Int) (s : Int) : woundTo ns n (ss ++ [s]) = woundTo ns n ss ++ (List.range (sizeN ns n)).map (strand ns n s ss.length) := by
  unfold woundTo
  rw [List.length_append, List.length_cons, List.length_nil, Nat.add_mul, Nat.zero_add, Nat.one_mul, List.range_add, List.map_append, List.map_map]
  congr 1
  · refine List.map_congr_left fun t ht => ?_
    have ht := List.mem_range.mp ht
    unfold woundF
    rw [List.getElem?_append_left (Nat.div_lt_of_lt_mul (by rw [Nat.mul_comm]; exact ht))]
  · refine List.map_congr_left fun k hk => ?_
    have hk := List.mem_range.mp hk
    show woundF ns n (ss ++ [s]) (ss.length * sizeN ns n + k) = _
    unfold woundF
    have e1 : (ss.length * sizeN ns n + k) / sizeN ns n = ss.length := by
      rw [Nat.mul_comm, Nat.mul_add_div hS, Nat.div_eq_of_lt hk, Nat.add_zero]
    have e2 : (ss.length * sizeN ns n + k) % sizeN ns n = k := by
      rw [Nat.mul_comm, Nat.mul_add_mod, Nat.mod_eq_of_lt hk]
    rw [e1, e2, List.getElem?_append_right (Nat.le_refl _), Nat.sub_self]
    rfl
theorem hereF_round {ns : List Int} {n : Nat} (l1 : 1 ≤ ns.length) (s : Int) (r : Nat) : hereF ns n s (r * ns.length) = (s + r * ns.sum) % n := by
  have e := far_at (ns := ns) (t := r) (j := 0) (by omega)
  unfold hereF
  rw [show r * ns.length = r * ns.length + 0 from rfl, e, List.take_zero, List.sum_nil, Int.add_zero]
theorem hereF_back {ns : List Int} {n : Nat} (sc : Sc ns) (hn : 0 < n) {s r : Nat} (hs : s < n) (h1 : 0 < r) (h2 : r ≤ roundsN ns n) : (!(hereF ns n s (r * ns.length) == (s : Int))) = decide (r < roundsN ns n) := by
  rw [hereF_round sc.l1]
  have iff : (s + r * ns.sum) % (n : Int) = s ↔ r = roundsN ns n := by
    have b := back_iff (ns := ns) (n := n) (r := r) sc.sm
    rw [← Int.natCast_ediv] at b
    have e : ((s : Int) + r * ns.sum) % n = s ↔ (n : Int) ∣ r * ns.sum := by
      constructor
      · intro h
        have h' : ((s : Int) + r * ns.sum) % n = (s : Int) % n := by rw [h, Int.emod_eq_of_lt (by omega) (by omega)]
        have := Int.dvd_of_emod_eq_zero (Int.emod_eq_emod_iff_emod_sub_eq_zero.mp h')
        rwa [show (s : Int) + r * ns.sum - s = r * ns.sum from by omega] at this
      · rintro ⟨k, hk⟩
        rw [hk, Int.add_mul_emod_self_left, Int.emod_eq_of_lt (by omega) (by omega)]
    rw [e, b]
    constructor
    · intro h
      have h := Int.natCast_dvd_natCast.mp h
      have := Nat.le_of_dvd h1 h
      unfold roundsN at h2 ⊢
      omega
    · intro h
      rw [h]
      exact Int.dvd_refl _
  by_cases c : r = roundsN ns n
  · rw [iff.mpr c, beq_self_eq_true, c, decide_eq_false (by omega)]
    rfl
  · have c2 : ¬ (s + r * ns.sum) % (n : Int) = s := fun z => c (iff.mp z)
    rw [beq_false_of_ne c2, decide_eq_true (by omega)]
    rfl
theorem hereF_zero {ns : List Int} {n s : Nat} (l1 : 1 ≤ ns.length) (hs : s < n) : hereF ns n s 0 = s := by
  have e := hereF_round (ns := ns) (n := n) l1 s 0
  rw [Nat.zero_mul] at e
  rw [e]
  simp
  exact_mod_cast Int.emod_eq_of_lt (a := (s : Int)) (b := (n : Int)) (by omega) (by omega)
theorem total_le {ns : List Int} {n : Nat} (sc : Sc ns) {L : Nat} (h : L ≤ gcdN ns n) : L * sizeN ns n ≤ 5 * n := by
  have l2 := sc.l2
  have d : roundsN ns n * gcdN ns n ≤ n := Nat.div_mul_le_self ..
  calc L * sizeN ns n ≤ gcdN ns n * sizeN ns n := Nat.mul_le_mul_right _ h
    _ = ns.length * (roundsN ns n * gcdN ns n) := by
      unfold sizeN
      rw [Nat.mul_left_comm, Nat.mul_comm (gcdN ns n)]
    _ ≤ 5 * n := Nat.mul_le_mul l2 d
section
variable {A : Str → Addr} {s : Option Addr} {PL : List D → Prop} {EP : Addr → Prop}
/-- one loop, from a free peg on -/
theorem q_wound {ns : List Int} {n : Nat} (sc : Sc ns) (hn : 0 < n) (hn2 : n ≤ 10000) (h : PL ((woundL ns n).map tripD)) : f__law_wound A s [.tup (ns.map D.int), .int n] PL EP := by
  have l1 := sc.l1
  have l2 := sc.l2
  have sm := sc.sm
  have g1 := sc.g1 n
  have gn : gcdN ns n ≤ n := by have := gcd_le_n (ns := ns) (n := n) (by omega); omega
  have R0 := roundsN_pos (n := n) sm hn
  have S0 : 0 < sizeN ns n := Nat.mul_pos (by omega) R0
  unfold f__law_wound t__law_wound
  simp
  refine ⟨by omega, loop_ints (loop_acc0 (fun a : List Int × List Key × List D => ⟨s, [.d (.tup (ns.map D.int)), .d (.int n), .ow ((woundTo ns n a.1).map tripD), .oK a.2.1 a.2.2, .d (.int a.1.length), .no, .no, .no, .no, .no]⟩) (fun i a => a.1 = startsTo ns (gcdN ns n) (min i (gcdN ns n)) ∧ (∀ z : Int, 0 ≤ z → z < n → (a.2.1.any fun j => decide (j = .inl z)) = cov (offs ns) (gcdN ns n) a.1 (z % gcdN ns n)) ∧ a.2.1.length ≤ a.1.length * sizeN ns n) (fun k : Nat => D.int (0 + k)) (List.range n) ([], [], []) (by simp [woundTo]) ⟨by simp; rfl, fun z _ _ => rfl, by simp⟩ (fun a ⟨h1, _, _⟩ => ?_) fun i y hy a ⟨h1, h2, h3⟩ K hK => ?_)⟩
  · simp
    rw [List.length_range, Nat.min_eq_right gn] at h1
    rw [h1]
    exact h
  · obtain ⟨ss, ks, vs⟩ := a
    have hi := (List.getElem?_eq_some_iff.mp hy).1
    rw [List.getElem?_range (by simpa using hi)] at hy
    cases hy
    rw [List.length_range] at hi
    simp only [] at h1 h2 h3 hK
    have lss : ss.length ≤ gcdN ns n := by
      rw [h1]
      exact Nat.le_trans (startsTo_len ns _ _) (Nat.min_le_right ..)
    have key := h2 i (by omega) (by omega)
    simp [key]
    cases c : cov (offs ns) (gcdN ns n) ss ((i : Int) % gcdN ns n) with
    | true =>
      refine hK (ss, ks, vs) ⟨?_, h2, h3⟩
      rcases Nat.lt_or_ge i (gcdN ns n) with q | q
      · rw [Nat.min_eq_left (by omega)] at h1 ⊢
        rw [Int.emod_eq_of_lt (by omega) (by omega)] at c
        rw [startsTo_succ, ← h1, c, if_pos rfl]
      · rw [Nat.min_eq_right (by omega)] at h1 ⊢
        exact h1
    | false =>
      have ig : i < gcdN ns n := by
        rcases Nat.lt_or_ge i (gcdN ns n) with q | q
        · exact q
        · rw [Nat.min_eq_right (by omega)] at h1
          have := cov_full (ns := ns) (p := gcdN ns n) l1 (Nat.mod_lt i g1)
          rw [Int.natCast_emod] at this
          unfold startsL at this
          rw [← h1, c] at this
          cases this
      have ess : startsTo ns (gcdN ns n) (min (i + 1) (gcdN ns n)) = ss ++ [(i : Int)] := by
        rw [Nat.min_eq_left (by omega)] at h1 ⊢
        rw [Int.emod_eq_of_lt (by omega) (by omega)] at c
        rw [startsTo_succ, ← h1, c]
        rfl
      have tl := total_le (n := n) sc (L := ss.length + 1) (by
        have := startsTo_len ns (gcdN ns n) (min (i + 1) (gcdN ns n))
        rw [ess, List.length_append] at this
        exact Nat.le_trans this (Nat.min_le_right ..))
      rw [Nat.add_mul, Nat.one_mul] at tl
      have lw : (woundTo ns n ss).length = ss.length * sizeN ns n := by
        unfold woundTo
        rw [List.length_map, List.length_range]
      refine wh_acc (fun a : Nat × List Key × List D => ⟨s, [.d (.tup (ns.map D.int)), .d (.int n), .ow ((woundTo ns n ss).map tripD ++ (List.range (a.1 * ns.length)).map fun k => tripD (strand ns n i ss.length k)), .oK a.2.1 a.2.2, .d (.int ss.length), .d (.int i), .d (.int (hereF ns n i (a.1 * ns.length))), .d (.bl (decide (a.1 < roundsN ns n))), .no, .no]⟩) (fun m a => a.1 ≤ roundsN ns n ∧ m = roundsN ns n - a.1 ∧ (∀ z, (a.2.1.any fun j => decide (j = .inl z)) = ((ks.any fun j => decide (j = .inl z)) || (List.range (a.1 * ns.length)).any fun k => hereF ns n i (k + 1) == z)) ∧ a.2.1.length ≤ ss.length * sizeN ns n + a.1 * ns.length) _ (0, ks, vs) ?_ ⟨by simp, rfl, fun z => by simp, by simpa using h3⟩ fun m a ⟨b1, b2, b3, b4⟩ K' hK' => ?_
      · simp only []
        rw [Nat.zero_mul, hereF_zero l1 hi, decide_eq_true R0]
        simp
      · obtain ⟨r, ks', vs'⟩ := a
        simp only [] at b1 b2 b3 b4
        simp
        by_cases hr : r < roundsN ns n
        · rw [decide_eq_true hr]
          have rl : (r + 1) * ns.length ≤ sizeN ns n := by
            unfold sizeN
            rw [Nat.mul_comm ns.length]
            exact Nat.mul_le_mul_right _ hr
          rw [Nat.add_mul, Nat.one_mul] at rl
          refine loop_acc0 (fun a : Nat × List Key × List D => ⟨s, [.d (.tup (ns.map D.int)), .d (.int n), .ow ((woundTo ns n ss).map tripD ++ (List.range (r * ns.length + a.1)).map fun k => tripD (strand ns n i ss.length k)), .oK a.2.1 a.2.2, .d (.int ss.length), .d (.int i), .d (.int (hereF ns n i (r * ns.length + a.1))), .d (.bl true), .no, .no]⟩) (fun j a => a.1 = j ∧ (∀ z, (a.2.1.any fun j => decide (j = .inl z)) = ((ks.any fun j => decide (j = .inl z)) || (List.range (r * ns.length + j)).any fun k => hereF ns n i (k + 1) == z)) ∧ a.2.1.length ≤ ss.length * sizeN ns n + (r * ns.length + j)) D.int ns (0, ks', vs') rfl ⟨rfl, b3, b4⟩ (fun a ⟨c1, c2, c3⟩ => ?_) fun j y hj a ⟨c1, c2, c3⟩ K2 hK2 => ?_
          · obtain ⟨j, ks2, vs2⟩ := a
            simp only [] at c1 c2 c3
            subst c1
            simp
            have fin := hK' (roundsN ns n - (r + 1)) (r + 1, ks2, vs2) (by omega) ⟨by simp only []; omega, rfl, fun z => by rw [c2 z, Nat.add_mul, Nat.one_mul], by simp only []; rw [Nat.add_mul, Nat.one_mul]; exact c3⟩
            simp only [] at fin
            rw [← hereF_back sc hn hi (Nat.succ_pos r) hr, Nat.add_mul, Nat.one_mul] at fin
            exact fin
          · obtain ⟨j', ks2, vs2⟩ := a
            simp only [] at c1 c2 c3
            subst c1
            have hjl := (List.getElem?_eq_some_iff.mp hj).1
            have hs : hereF ns n i (r * ns.length + j' + 1) = (hereF ns n i (r * ns.length + j') + y) % n := by
              rw [hereF_succ l1, Nat.mul_comm, Nat.mul_add_mod, Nat.mod_eq_of_lt hjl, hj]
              rfl
            simp
            refine ⟨hn, ?_⟩
            rw [← hs]
            refine ⟨by rw [lw]; omega, by omega, ?_⟩
            have fin := hK2 (j' + 1, putKs ks2 (.inl (hereF ns n i (r * ns.length + j' + 1))), putDs ks2 vs2 (.inl (hereF ns n i (r * ns.length + j' + 1))) (.bl true)) ⟨rfl, fun z => ?_, ?_⟩
            · simp only [← Nat.add_assoc] at fin
              rw [List.range_succ, List.map_append] at fin
              simpa [strand, tripD] using fin
            · simp only []
              rw [any_putKs, c2 z, dec_inl, ← Nat.add_assoc, List.range_succ, List.any_append]
              simp [Bool.or_assoc]
            · simp only []
              have := putKs_len ks2 (.inl (hereF ns n i (r * ns.length + j' + 1)))
              omega
        · rw [decide_eq_false hr]
          have er : r = roundsN ns n := by omega
          subst er
          simp
          have fin := hK (ss ++ [(i : Int)], ks', vs') ⟨ess.symm, fun z z0 z1 => ?_, ?_⟩
          · simp only [] at fin
            rw [wound_snoc S0, List.map_append, List.map_map] at fin
            unfold sizeN at fin
            rw [Nat.mul_comm ns.length] at fin
            simpa [Function.comp_def] using fin
          · simp only []
            rw [b3 z, h2 z z0 z1, cov_app]
            congr 1
            rw [Bool.eq_iff_iff, ← vis sc hn z0 z1, List.any_eq_true]
            unfold sizeN
            rw [Nat.mul_comm ns.length]
            constructor
            · rintro ⟨k, hk, e⟩
              exact ⟨k, List.mem_range.mp hk, by simpa using e⟩
            · rintro ⟨k, hk, e⟩
              exact ⟨k, List.mem_range.mpr hk, by simpa using e⟩
          · simp only []
            rw [List.length_append, List.length_cons, List.length_nil, Nat.zero_add, Nat.add_mul, Nat.one_mul]
            unfold sizeN at b4 ⊢
            rw [Nat.mul_comm ns.length] at b4 ⊢
            exact b4
end
end Wn

set_option Elab.async false
set_option linter.all false
set_option maxRecDepth 100000
set_option maxHeartbeats 1000000
namespace Wn
open PySem PySem.Spec PyProof.Rows L2
theorem woundL_len (ns : List Int) (n : Nat) : (woundL ns n).length = (startsL ns (gcdN ns n)).length * sizeN ns n := by
  unfold woundL woundTo
  rw [List.length_map, List.length_range]
theorem woundL_get {ns : List Int} {n t : Nat} (h : t < (startsL ns (gcdN ns n)).length * sizeN ns n) : (woundL ns n)[t]? = some (woundF ns n (startsL ns (gcdN ns n)) t) := by
  unfold woundL woundTo
  rw [List.getElem?_map, List.getElem?_range h]
  rfl
theorem sizeN_pos {ns : List Int} {n : Nat} (sc : Sc ns) (hn : 0 < n) : 0 < sizeN ns n := Nat.mul_pos (by have := sc.l1; omega) (roundsN_pos sc.sm hn)
theorem startsL_zero {ns : List Int} {p : Nat} (hp : 0 < p) : (startsL ns p)[0]? = some 0 := by
  obtain ⟨t, e⟩ := startsTo_pre ns p 1 (p - 1)
  have e1 : startsTo ns p 1 = [0] := rfl
  rw [show 1 + (p - 1) = p from by omega, e1] at e
  unfold startsL
  rw [e]
  rfl
theorem filter_none {α : Type} {l : List α} {b : α → Bool} (h : ∀ x ∈ l, b x = false) : l.filter b = [] := List.filter_eq_nil_iff.mpr fun x hx => by rw [h x hx]; decide
/-- the first loop's spans -/
theorem each_e {ns : List Int} {n : Nat} (sc : Sc ns) (hn : 0 < n) : (woundL ns n).filter (fun x => x.2.2 == 0) = (List.range (sizeN ns n)).map (strand ns n 0 0) := by
  have S0 := sizeN_pos sc hn
  have g1 := sc.g1 n
  have z := startsL_zero (ns := ns) g1
  have L1 := startsL_ne (ns := ns) g1
  obtain ⟨M, hM⟩ : ∃ M, (startsL ns (gcdN ns n)).length = M + 1 := ⟨_, (Nat.succ_pred_eq_of_pos L1).symm⟩
  unfold woundL woundTo
  rw [hM, Nat.add_mul, Nat.one_mul, Nat.add_comm, List.range_add, List.map_append, List.filter_append, List.map_map]
  rw [filter_none (l := List.map _ (List.range (M * sizeN ns n))) fun x hx => ?_, List.append_nil]
  · rw [List.filter_eq_self.mpr fun x hx => ?_]
    · refine List.map_congr_left fun t ht => ?_
      have ht := List.mem_range.mp ht
      unfold woundF
      rw [Nat.div_eq_of_lt ht, Nat.mod_eq_of_lt ht, z]
      rfl
    · obtain ⟨t, ht, e⟩ := List.mem_map.mp hx
      have ht := List.mem_range.mp ht
      rw [← e]
      unfold woundF strand
      rw [Nat.div_eq_of_lt ht]
      rfl
  · obtain ⟨t, ht, e⟩ := List.mem_map.mp hx
    rw [← e]
    show ((((sizeN ns n + t) / sizeN ns n : Nat) : Int) == 0) = false
    rw [Nat.add_div_left _ S0]
    generalize t / sizeN ns n = q
    exact beq_false_of_ne (by omega)
theorem range_get {α : Type} (l : List α) (d : α) : (List.range l.length).map (fun k => l[k]?.getD d) = l := by
  refine List.ext_getElem? fun i => ?_
  rw [List.getElem?_map]
  rcases Nat.lt_or_ge i l.length with q | q
  · rw [List.getElem?_range q]
    show some (l[i]?.getD d) = _
    rw [List.getElem?_eq_getElem q]
    rfl
  · rw [List.getElem?_eq_none (by simpa using q), List.getElem?_eq_none q]
    rfl
/-- the program's spans are those that are laid -/
theorem span_wound {ns : List Int} {n t : Nat} (sc : Sc ns) (hn : 24 ≤ n) (h : t < (startsL ns (gcdN ns n)).length * sizeN ns n) : hereI ns n t = (woundF ns n (startsL ns (gcdN ns n)) t).1 ∧ thereI ns n t = (woundF ns n (startsL ns (gcdN ns n)) t).2.1 := by
  have S0 := sizeN_pos sc (n := n) (by omega)
  have hm := Nat.mod_lt t S0
  have hd := Nat.div_add_mod t (sizeN ns n)
  have ht : (t : Int) = ((t / sizeN ns n : Nat) : Int) * sizeI ns n + (t % sizeN ns n : Nat) := by
    rw [sizeN_e, ← Int.natCast_mul, Nat.mul_comm]
    omega
  obtain ⟨q1, q2⟩ := here_e (n := n) (loop := ((t / sizeN ns n : Nat) : Int)) (inner := ((t % sizeN ns n : Nat) : Int)) sc (by omega) (by omega) (by rw [sizeN_e]; omega)
  rw [← ht] at q1 q2
  rw [Int.toNat_natCast] at q1
  refine ⟨q1, ?_⟩
  unfold thereI
  rw [q1, q2]
  show _ = hereF ns n _ (t % sizeN ns n + 1)
  rw [hereF_succ sc.l1, ← Int.natCast_emod, Int.toNat_natCast]
  rfl
theorem far_mod {ns : List Int} {n m : Nat} (sc : Sc ns) (hn : 0 < n) : farI ns m % n = farI ns ((m % sizeN ns n : Nat) : Int) % n := by
  have l1 := sc.l1
  have hd := Nat.div_add_mod m (sizeN ns n)
  have hd2 := Nat.div_add_mod (m % sizeN ns n) ns.length
  have hj := Nat.mod_lt (m % sizeN ns n) (show 0 < ns.length by omega)
  generalize m / sizeN ns n = q at hd
  generalize m % sizeN ns n = r at hd hd2 hj ⊢
  generalize r / ns.length = t at hd2
  generalize r % ns.length = j at hd2 hj
  have e1 : m = (q * roundsN ns n + t) * ns.length + j := by
    rw [Nat.add_mul, ← hd, ← hd2]
    unfold sizeN
    rw [Nat.mul_comm (ns.length * roundsN ns n) q, Nat.mul_comm ns.length (roundsN ns n), Nat.mul_assoc, Nat.mul_comm ns.length t]
    omega
  have e2 : r = t * ns.length + j := by
    rw [← hd2, Nat.mul_comm]
  rw [e1, e2, far_at hj, far_at hj, Int.natCast_add, Int.natCast_mul, Int.add_mul]
  have e3 : ((q : Int) * roundsN ns n) * ns.sum = n * (q * (ns.sum / gcdN ns n)) := by
    unfold roundsN
    rw [Int.natCast_ediv, Int.mul_assoc, rounds_sum, Int.mul_left_comm]
  rw [e3, Int.add_assoc, Int.mul_add_emod_self_left]
end Wn

set_option Elab.async false
set_option linter.all false
set_option maxRecDepth 100000
set_option maxHeartbeats 1000000
namespace Wn
open PySem PySem.Spec PyProof.Rows L2
section
variable {A : Str → Addr} {s : Option Addr} {P : D → Prop} {PL : List D → Prop} {EP : Addr → Prop}
theorem enumD_ints (ns : List Int) : enumD (ns.map D.int) = ns.zipIdx.map fun p => D.tup [.int (p.2 : Nat), .int p.1] := by
  unfold enumD
  rw [List.zipIdx_map, List.map_map]
  rfl
/-- a family of spans: loop, step, low end in the first round, length -/
structure Fam where
  l : Nat
  j : Nat
  low : Int
  long : Int
def famD (f : Fam) : D := .tup [.int (f.l : Nat), .int (f.j : Nat), .int f.low, .int f.long]
def famAt (ns : List Int) (l : Nat) (st : Int) (j : Nat) (o : Int) : Fam := ⟨l, j, st + o + min (ns[j]?.getD 0) 0, ((ns[j]?.getD 0).natAbs : Nat)⟩
def famTo (ns : List Int) (ss : List Int) : List Fam := ss.zipIdx.flatMap fun p => (offs ns).zipIdx.map fun q => famAt ns p.2 p.1 q.2 q.1
def famL (ns : List Int) (p : Nat) : List Fam := famTo ns (startsL ns p)
theorem flatMap_take_succ {α β : Type} (f : α → List β) (xs : List α) (i : Nat) (x : α) (h : xs[i]? = some x) : (xs.take (i + 1)).flatMap f = (xs.take i).flatMap f ++ f x := by
  rw [List.take_succ, h, List.flatMap_append]
  simp
theorem zipIdx_get {α : Type} {xs : List α} {i : Nat} {p : α × Nat} (h : xs.zipIdx[i]? = some p) : xs[i]? = some p.1 ∧ p.2 = i := by
  rw [List.getElem?_zipIdx] at h
  obtain ⟨x, h1, h2⟩ := Option.map_eq_some_iff.mp h
  rw [← h2]
  exact ⟨h1, by simp⟩
theorem famTo_len (ns ss : List Int) : (famTo ns ss).length = ss.length * ns.length := by
  have key : ∀ (xs : List (Int × Nat)), (xs.flatMap fun p => (offs ns).zipIdx.map fun q => famAt ns p.2 p.1 q.2 q.1).length = xs.length * ns.length := fun xs => by
    induction xs with
    | nil => simp
    | cons x xs ih =>
      rw [List.flatMap_cons, List.length_append, ih, List.length_map, List.length_zipIdx, offs_len, List.length_cons, Nat.add_mul]
      omega
  unfold famTo
  rw [key, List.length_zipIdx]
def famRow (ns : List Int) (x : Int × Nat) : List Fam := (offs ns).zipIdx.map fun q => famAt ns x.2 x.1 q.2 q.1
def famPre (ns ss : List Int) (i : Nat) : List D := ((ss.zipIdx.take i).flatMap (famRow ns)).map famD
def famIn (ns : List Int) (x : Int × Nat) (k : Nat) : List D := ((offs ns).zipIdx.take k).map fun q => famD (famAt ns x.2 x.1 q.2 q.1)
theorem famRow_len (ns : List Int) (x : Int × Nat) : (famRow ns x).length = ns.length := by
  unfold famRow
  rw [List.length_map, List.length_zipIdx, offs_len]
theorem famPre_zero (ns ss : List Int) : famPre ns ss 0 = [] := rfl
theorem famIn_zero (ns : List Int) (x : Int × Nat) : famIn ns x 0 = [] := rfl
theorem famPre_succ {ns ss : List Int} {i : Nat} {x : Int × Nat} (h : ss.zipIdx[i]? = some x) : famPre ns ss (i + 1) = famPre ns ss i ++ famIn ns x (offs ns).length := by
  unfold famPre famIn
  rw [flatMap_take_succ _ _ _ _ h, List.map_append, show (offs ns).zipIdx.take (offs ns).length = (offs ns).zipIdx from List.take_of_length_le (by simp)]
  unfold famRow
  rw [List.map_map]
  rfl
theorem famIn_succ {ns : List Int} {x : Int × Nat} {k : Nat} {z : Int × Nat} (h : (offs ns).zipIdx[k]? = some z) : famIn ns x (k + 1) = famIn ns x k ++ [famD (famAt ns x.2 x.1 z.2 z.1)] := by
  unfold famIn
  rw [List.take_succ, h, List.map_append]
  rfl
theorem famPre_len (ns ss : List Int) (i : Nat) : (famPre ns ss i).length ≤ i * ns.length := by
  induction i with
  | zero => simp [famPre_zero]
  | succ i ih =>
    cases h : ss.zipIdx[i]? with
    | none =>
      have e : famPre ns ss (i + 1) = famPre ns ss i := by
        unfold famPre
        rw [List.take_succ, h]
        simp
      rw [e, Nat.add_mul]
      omega
    | some x =>
      rw [famPre_succ h, List.length_append, Nat.add_mul]
      have : (famIn ns x (offs ns).length).length ≤ ns.length := by
        unfold famIn
        rw [List.length_map, List.length_take, List.length_zipIdx, offs_len]
        omega
      omega
theorem q_families_by {ns : List Int} {p : Nat} (sc : Sc ns) (hp : 0 < p) (hp2 : p ≤ 1000) (h : PL ((famL ns p).map famD)) : f_families_by A s [.tup (ns.map D.int), .int p] PL EP := by
  have l1 := sc.l1
  have l2 := sc.l2
  have sl := startsL_len ns p
  obtain ⟨v_starts_by, g_starts_by⟩ : ∃ v, v = (f_starts_by A) := ⟨_, rfl⟩
  have h_starts_by := @q_starts_by A
  rw [← g_starts_by] at h_starts_by
  obtain ⟨v_offsets_of, g_offsets_of⟩ : ∃ v, v = (f_offsets_of A) := ⟨_, rfl⟩
  have h_offsets_of := @q_offsets_of A
  rw [← g_offsets_of] at h_offsets_of
  unfold f_families_by t_families_by
  try simp only [← g_starts_by, ← g_offsets_of]
  simp
  refine h_starts_by l2 hp hp2 ?_
  rw [enumD_ints]
  refine loop_ix (fun i : Nat => ⟨s, [.d (.tup (ns.map D.int)), .d (.int p), .ow (famPre ns (startsL ns p) i), .no, .no, .no, .no, .no]⟩) _ _ (by simp [famPre_zero]) ?_ fun i y hy K hK => ?_
  · simp
    have e : famPre ns (startsL ns p) (startsL ns p).length = (famL ns p).map famD := by
      unfold famPre famL famTo
      rw [List.take_of_length_le (by simp)]
      rfl
    rw [e]
    exact h
  · obtain ⟨y1, y2⟩ := zipIdx_get hy
    have il := (List.getElem?_eq_some_iff.mp y1).1
    have pl := famPre_len ns (startsL ns p) i
    have ple : i * ns.length ≤ 1000 * 5 := Nat.mul_le_mul (by omega) l2
    simp
    refine h_offsets_of (by omega) ?_
    rw [enumD_ints]
    refine loop_ix (fun k : Nat => ⟨s, [.d (.tup (ns.map D.int)), .d (.int p), .ow (famPre ns (startsL ns p) i ++ famIn ns y k), .d (.int y.2), .d (.int y.1), .no, .no, .no]⟩) _ _ (by simp [famIn_zero]) ?_ fun k z hz K' hK' => ?_
    · simp
      rw [famPre_succ hy] at hK
      exact hK
    · obtain ⟨z1, z2⟩ := zipIdx_get hz
      have kl := (List.getElem?_eq_some_iff.mp z1).1
      rw [offs_len] at kl
      have il2 : (famIn ns y k).length ≤ 5 := by
        unfold famIn
        rw [List.length_map, List.length_take]
        omega
      rw [famIn_succ hz, ← List.append_assoc] at hK'
      simp
      refine dix_int rfl (by omega) (by omega) ?_
      simp
      have e : famD (famAt ns y.2 y.1 z.2 z.1) = .tup [.int y.2, .int z.2, .int (y.1 + z.1 + min (ns[z.2]?.getD 0) 0), .int ((ns[z.2]?.getD 0).natAbs : Nat)] := rfl
      rw [e] at hK'
      generalize ns[z.2]?.getD 0 = st at hK' ⊢
      by_cases c : st < 0
      · rw [decide_eq_true c]
        rw [show min st 0 = st from by omega] at hK'
        exact ⟨by omega, by simpa using hK'⟩
      · rw [decide_eq_false c]
        rw [show min st 0 = 0 from by omega, Int.add_zero] at hK'
        exact ⟨by omega, by simpa using hK'⟩
def minOf (xs : List Int) : Int := xs.min?.getD 0
theorem minOf_eq {xs : List Int} {m : Int} (h1 : m ∈ xs) (h2 : ∀ y ∈ xs, m ≤ y) : minOf xs = m := by
  unfold minOf
  rw [List.min?_eq_some_iff.mpr ⟨h1, h2⟩]
  rfl
def labSome (ns : List Int) (p : Nat) (lab : List Int) (st : Int) : List Int := (offs ns).map fun o => lab[((st + o) % p).toNat]?.getD 0
def labStep (ns : List Int) (p : Nat) (lab : List Int) (st : Int) : List Int := lab.map fun x => if (labSome ns p lab st).any (· == x) then minOf (labSome ns p lab st) else x
def labTo (ns : List Int) (p : Nat) (ss : List Int) : List Int := ss.foldl (labStep ns p) ((List.range p).map fun (k : Nat) => (k : Int))
/-- for each rest the least one whose pegs hang together with its pegs -/
def labL (ns : List Int) (p : Nat) : List Int := labTo ns p (startsL ns p)
theorem labStep_len (ns : List Int) (p : Nat) (lab : List Int) (st : Int) : (labStep ns p lab st).length = lab.length := by
  unfold labStep
  rw [List.length_map]
theorem labTo_len (ns : List Int) (p : Nat) (ss : List Int) : (labTo ns p ss).length = p := by
  have key : ∀ (ss : List Int) (lab : List Int), lab.length = p → (ss.foldl (labStep ns p) lab).length = p := fun ss => by
    induction ss with
    | nil => exact fun lab h => h
    | cons st ss ih => exact fun lab h => ih _ (by rw [labStep_len, h])
  exact key ss _ (by simp)
theorem q_labels_by {ns : List Int} {p : Nat} (sc : Sc ns) (hp : 0 < p) (hp2 : p ≤ 1000) (h : P (.lst ((labL ns p).map D.int))) : f_labels_by A s [.tup (ns.map D.int), .int p] P EP := by
  have l1 := sc.l1
  have l2 := sc.l2
  obtain ⟨v_starts_by, g_starts_by⟩ : ∃ v, v = (f_starts_by A) := ⟨_, rfl⟩
  have h_starts_by := @q_starts_by A
  rw [← g_starts_by] at h_starts_by
  obtain ⟨v_offsets_of, g_offsets_of⟩ : ∃ v, v = (f_offsets_of A) := ⟨_, rfl⟩
  have h_offsets_of := @q_offsets_of A
  rw [← g_offsets_of] at h_offsets_of
  unfold f_labels_by t_labels_by
  try simp only [← g_starts_by, ← g_offsets_of]
  simp
  refine ⟨by omega, h_starts_by l2 hp hp2 ?_⟩
  refine loop_ix (fun i : Nat => ⟨s, [.d (.tup (ns.map D.int)), .d (.int p), .d (.lst ((labTo ns p ((startsL ns p).take i)).map D.int)), .no, .no, .no, .no, .no]⟩) D.int _ ?_ ?_ fun i y hy K hK => ?_
  · have e : rgD 0 p = ((List.range p).map fun (k : Nat) => (k : Int)).map D.int := by
      unfold rgD
      rw [List.map_map]
      refine List.map_congr_left fun k _ => ?_
      simp
    simp [labTo]
    rw [e, List.map_map]
  · simp
    exact h
  · have e : labTo ns p ((startsL ns p).take (i + 1)) = labStep ns p (labTo ns p ((startsL ns p).take i)) y := by
      unfold labTo
      rw [List.take_succ, hy, List.foldl_append]
      rfl
    rw [e] at hK
    have ll := labTo_len ns p ((startsL ns p).take i)
    generalize labTo ns p ((startsL ns p).take i) = lab at hK ll ⊢
    simp
    refine h_offsets_of (by omega) ⟨by rw [List.length_map, offs_len]; omega, comp_mapT D.int (fun o => D.int (lab[((y + o) % p).toNat]?.getD 0)) _ (fun o _ Q hQ => ?_) ?_⟩
    · obtain ⟨m0, m1⟩ := md (y + o) p (by omega)
      simp
      exact ⟨hp, dix_int rfl m0 (by omega) hQ⟩
    rw [List.nil_append, show ((offs ns).map fun o => D.int (lab[((y + o) % p).toNat]?.getD 0)) = (labSome ns p lab y).map D.int from by unfold labSome; rw [List.map_map]; rfl]
    have sl : (labSome ns p lab y).length = ns.length := by
      unfold labSome
      rw [List.length_map, offs_len]
    have eK : labStep ns p lab y = lab.map fun x => if (labSome ns p lab y).any (· == x) then minOf (labSome ns p lab y) else x := rfl
    rw [eK] at hK
    generalize labSome ns p lab y = some at sl hK ⊢
    refine ⟨by rw [List.length_map]; omega, comp_mapT D.int (fun x => D.int x) _ (fun o _ Q hQ => ?_) ?_⟩
    · simp
      exact hQ
    rw [List.nil_append]
    rw [show some.map (fun x => D.int x) = some.map D.int from rfl]
    unfold fMin
    refine onInts_mk (intsOf_map some) ⟨by omega, fun m m1 m2 => ?_⟩
    rw [minOf_eq m1 m2] at hK
    refine ⟨by omega, comp_mapT D.int (fun x => D.int (if some.any (· == x) then m else x)) _ (fun x _ Q hQ => ?_) ?_⟩
    · simp
      cases q : some.any (· == x) with
      | true =>
        rw [q] at hQ
        exact hQ
      | false =>
        rw [q] at hQ
        exact hQ
    · rw [List.nil_append]
      rw [List.map_map] at hK
      exact hK
theorem nodup_le : ∀ (l m : List Int), l.Nodup → (∀ x ∈ l, x ∈ m) → l.length ≤ m.length
  | [], _, _, _ => Nat.zero_le _
  | x :: l, m, h, hs => by
    have hx := hs x List.mem_cons_self
    obtain ⟨h1, h2⟩ := List.nodup_cons.mp h
    have := nodup_le l (m.erase x) h2 fun y hy => (List.mem_erase_of_ne (fun z => by
      rw [z] at hy
      exact h1 hy)).mpr (hs y (List.mem_cons_of_mem _ hy))
    rw [List.length_erase_of_mem hx] at this
    have pos := List.length_pos_of_mem hx
    rw [List.length_cons]
    omega
theorem peg_of {n : Int} {v : D} (h : whole v 0 (n - 1) = true) : ∃ i : Int, v = .int i ∧ 0 ≤ i ∧ i < n := by
  obtain ⟨e, h1, h2⟩ := whole_int h
  exact ⟨_, e, h1, by omega⟩
end
end Wn

set_option Elab.async false
set_option linter.all false
set_option maxRecDepth 100000
set_option maxHeartbeats 1000000
namespace Wn
open PySem PySem.Spec PyProof.Rows L2
/-! counting.py -/
section
variable {A : Str → Addr} {s : Option Addr} {P : D → Prop} {PL : List D → Prop} {EP : Addr → Prop}
theorem foldl_add {β : Type} (F : β → Nat) : ∀ (ys : List β) (a : Nat), ys.foldl (fun a y => a + F y) a = a + (ys.map F).sum
  | [], a => by simp
  | y :: ys, a => by
    rw [List.foldl_cons, foldl_add F ys, List.map_cons, List.sum_cons]
    omega
theorem loop_sum {β : Type} {g : TGD} {b : TDS} {Z : DEnds} {δ0 : DE} (S : Nat → DE) (F : β → Nat) (e : β → D) (ys : List β) (a0 : Nat) (e0 : δ0 = S a0) (hz : Z.nx (S (a0 + (ys.map F).sum))) (ht : ∀ y ∈ ys, ∀ a (K : DE → Prop), K (S (a + F y)) → g (e y) (S a) fun δ' => b δ' { Z with nx := K, ct := K, bk := Z.nx }) : loopD g b Z (ys.map e) δ0 := by
  rw [e0]
  exact loop_fold S (fun a y => a + F y) e ys a0 (by rw [foldl_add]; exact hz) fun i y hy K hK => ht y (List.mem_of_getElem? hy) _ K hK
theorem sum_ite {α : Type} (b : α → Bool) : ∀ xs : List α, (xs.map fun x => if b x then 1 else 0).sum = xs.countP b
  | [] => rfl
  | x :: xs => by
    rw [List.map_cons, List.sum_cons, sum_ite b xs, List.countP_cons]
    omega
def crossB (long ol gap : Int) : Bool := decide (gap < long) && decide (long < gap + ol)
theorem q_crosses_behind {l o g : Int} (h : P (.bl (crossB l o g))) : f_crosses_behind A s [.int l, .int o, .int g] P EP := by
  unfold f_crosses_behind t_crosses_behind
  simp
  unfold crossB at h
  by_cases c : g < l
  · rw [decide_eq_true c] at h ⊢
    simpa using h
  · rw [decide_eq_false c] at h ⊢
    simpa using h
def hitB (p : Nat) (f g : Fam) (gap : Int) : Bool := (f.low + gap - g.low) % p == 0 && crossB f.long g.long gap
/-- how often the spans of one family cross those of another that begin behind -/
def hits (p : Nat) (f g : Fam) : Nat := (List.range (f.long.toNat - 1)).countP fun k : Nat => hitB p f g (1 + k)
def crossN (ns : List Int) (p : Nat) : Nat := ((famL ns p).map fun f => ((famL ns p).map fun g => hits p f g).sum).sum
theorem famD_e (f : Fam) : famD f = .tup [.int (f.l : Nat), .int (f.j : Nat), .int f.low, .int f.long] := rfl
theorem famTo_mem {ns ss : List Int} {f : Fam} (h : f ∈ famTo ns ss) : ∃ i j s o, ss[i]? = some s ∧ (offs ns)[j]? = some o ∧ j < ns.length ∧ f = famAt ns i s j o := by
  unfold famTo at h
  obtain ⟨x, hx, h⟩ := List.mem_flatMap.mp h
  obtain ⟨y, hy, e⟩ := List.mem_map.mp h
  obtain ⟨i, hi⟩ := List.mem_iff_getElem?.mp hx
  obtain ⟨j, hj⟩ := List.mem_iff_getElem?.mp hy
  obtain ⟨i1, i2⟩ := zipIdx_get hi
  obtain ⟨j1, j2⟩ := zipIdx_get hj
  refine ⟨i, j, x.1, y.1, i1, j1, ?_, by rw [← e, i2, j2]⟩
  have := (List.getElem?_eq_some_iff.mp j1).1
  rw [offs_len] at this
  exact this
theorem fam_long {ns : List Int} {p : Nat} (sc : Sc ns) {f : Fam} (h : f ∈ famL ns p) : 1 ≤ f.long ∧ f.long ≤ 11 := by
  obtain ⟨i, j, s, o, _, _, hj, rfl⟩ := famTo_mem h
  have q := sc.st _ (List.getElem_mem hj)
  show 1 ≤ (((ns[j]?.getD 0).natAbs : Nat) : Int) ∧ (((ns[j]?.getD 0).natAbs : Nat) : Int) ≤ 11
  rw [List.getElem?_eq_getElem hj, Option.getD_some]
  omega
theorem q_crossings_by {ns : List Int} {p : Nat} (sc : Sc ns) (hp : 0 < p) (hp2 : p ≤ 1000) (h : P (.int (crossN ns p : Nat))) : f_crossings_by A s [.tup (ns.map D.int), .int p] P EP := by
  obtain ⟨v_families_by, g_families_by⟩ : ∃ v, v = (f_families_by A) := ⟨_, rfl⟩
  have h_families_by := @q_families_by A
  rw [← g_families_by] at h_families_by
  obtain ⟨v_crosses_behind, g_crosses_behind⟩ : ∃ v, v = (f_crosses_behind A) := ⟨_, rfl⟩
  have h_crosses_behind := @q_crosses_behind A
  rw [← g_crosses_behind] at h_crosses_behind
  unfold f_crossings_by t_crossings_by
  try simp only [← g_families_by, ← g_crosses_behind]
  simp
  refine h_families_by sc hp hp2 ?_
  refine loop_sum (fun a : Nat => ⟨s, [.no, .d (.int p), .d (.int a), .d (.lst ((famL ns p).map famD)), .no, .no, .no, .no, .no, .no, .no, .no, .no]⟩) (fun f => ((famL ns p).map fun g => hits p f g).sum) famD (famL ns p) 0 rfl ?_ fun f hf a K hK => ?_
  · simp
    simpa [crossN] using h
  · rw [famD_e]
    simp
    refine loop_sum (fun a : Nat => ⟨s, [.no, .d (.int p), .d (.int a), .d (.lst ((famL ns p).map famD)), .d (.int (f.l : Nat)), .d (.int (f.j : Nat)), .d (.int f.low), .d (.int f.long), .no, .no, .no, .no, .no]⟩) (fun g => hits p f g) famD (famL ns p) a rfl ?_ fun g hg a K hK => ?_
    · simpa using hK
    · rw [famD_e]
      have fl := fam_long sc hf
      simp
      refine ⟨by omega, loop_ints (loop_sum (fun a : Nat => ⟨s, [.no, .d (.int p), .d (.int a), .d (.lst ((famL ns p).map famD)), .d (.int (f.l : Nat)), .d (.int (f.j : Nat)), .d (.int f.low), .d (.int f.long), .d (.int (g.l : Nat)), .d (.int (g.j : Nat)), .d (.int g.low), .d (.int g.long), .no]⟩) (fun k : Nat => if hitB p f g (1 + k) then 1 else 0) _ _ a rfl ?_ fun k hk a K hK => ?_)⟩
      · rw [sum_ite]
        unfold hits at hK
        simpa using hK
      · simp
        refine ⟨by omega, ?_⟩
        unfold hitB at hK
        by_cases c : (f.low + (1 + (k : Int)) - g.low) % p = 0
        · simp [c] at hK ⊢
          refine h_crosses_behind ?_
          cases q : crossB f.long g.long (1 + k) with
          | true => simpa [q] using hK
          | false => simpa [q] using hK
        · have c' : ((f.low + (1 + (k : Int)) - g.low) % p == 0) = false := beq_false_of_ne c
          simp [c'] at hK ⊢
          exact hK
/-! ### different ones -/
section
variable {α : Type} [DecidableEq α]
def ddL : List α → List α
  | [] => []
  | x :: r => if x ∈ r then ddL r else x :: ddL r
theorem mem_ddL {k : α} : ∀ {xs : List α}, k ∈ ddL xs ↔ k ∈ xs
  | [] => Iff.rfl
  | x :: r => by
    unfold ddL
    by_cases c : x ∈ r
    · rw [if_pos c, mem_ddL, List.mem_cons]
      exact ⟨.inr, fun h => h.elim (fun e => e ▸ c) id⟩
    · rw [if_neg c, List.mem_cons, List.mem_cons, mem_ddL]
theorem nodup_ddL : ∀ xs : List α, (ddL xs).Nodup
  | [] => List.nodup_nil
  | x :: r => by
    unfold ddL
    by_cases c : x ∈ r
    · rw [if_pos c]
      exact nodup_ddL r
    · rw [if_neg c]
      exact List.nodup_cons.mpr ⟨fun z => c (mem_ddL.mp z), nodup_ddL r⟩
theorem ddL_le : ∀ xs : List α, (ddL xs).length ≤ xs.length
  | [] => Nat.le_refl _
  | x :: r => by
    unfold ddL
    have := ddL_le r
    by_cases c : x ∈ r
    · rw [if_pos c, List.length_cons]
      omega
    · rw [if_neg c, List.length_cons, List.length_cons]
      omega
theorem sub_len : ∀ (l m : List α), l.Nodup → (∀ x ∈ l, x ∈ m) → l.length ≤ m.length
  | [], _, _, _ => Nat.zero_le _
  | x :: l, m, hn, hs => by
    obtain ⟨h1, h2⟩ := List.nodup_cons.mp hn
    have hx := hs x List.mem_cons_self
    have ih := sub_len l (m.erase x) h2 fun y hy => (List.mem_erase_of_ne fun e => h1 (by rw [← e]; exact hy)).mpr (hs y (List.mem_cons_of_mem _ hy))
    have := List.length_erase_of_mem hx
    have := List.length_pos_of_mem hx
    rw [List.length_cons]
    omega
theorem differ_n {xs : List α} {n : Nat} (h : Differ xs n) : n = (ddL xs).length := by
  obtain ⟨ms, h1, h2, rfl⟩ := h
  exact Nat.le_antisymm (sub_len _ _ h1 fun x hx => mem_ddL.mpr ((h2 x).mp hx)) (sub_len _ _ (nodup_ddL xs) fun x hx => (h2 x).mpr (mem_ddL.mp hx))
end
/-! ### words -/
theorem eqv_str {x y : Str} {neg : Bool} (hx : PyData.canLay0 (.str x) = true) (hy : PyData.canLay0 (.str y) = true) (h : P (.bl (if neg then !(x == y) else x == y))) : dEq neg (.str x) (.str y) P := by
  refine dEq_ok (show D.ok 64 (.str x) = true from hx) (show D.ok 64 (.str y) = true from hy) ?_
  rw [show D.eqB (.str x) (.str y) = (x == y) from by unfold D.eqB D.py PyData.eqv; rfl]
  exact h
def wordB (ws : List Str) : D → Bool
  | .str w => ws.any (· == w)
  | _ => false
theorem flats_strs : ∀ ws : List Str, flatsOf (ws.map D.str) = some (ws.map V.str)
  | [] => rfl
  | w :: r => by
    rw [List.map_cons, List.map_cons]
    unfold flatsOf
    rw [flats_strs r]
    rfl
theorem dIn_word {neg : Bool} {w : Str} {y : D} {ws : List Str} (hy : itemsX y = some (ws.map D.str)) (h : P (.bl (if neg then !(wordB ws (.str w)) else wordB ws (.str w)))) : dIn neg (.str w) y P := by
  show (match some (V.str w), (itemsX y).bind flatsOf with | some v, some vs => P (.bl (if neg then !inV v vs else inV v vs)) | _, _ => False)
  rw [hy, Option.bind_some, flats_strs]
  have e : inV (V.str w) (ws.map V.str) = wordB ws (.str w) := by
    unfold inV wordB
    rw [List.any_map]
    rfl
  dsimp only
  rw [e]
  exact h
theorem q_need_word {v y : D} {ws : List Str} (hv : v.ty.isSome = true) (hy : itemsX y = some (ws.map D.str)) (h1 : wordB ws v = true → P .non) (h2 : wordB ws v = false → EP (A "InvalidWord")) : f_need_word A s [v, y] P EP := by
  unfold f_need_word t_need_word
  simp
  cases v with
  | str w =>
    simp [isTy]
    refine dIn_word hy ?_
    cases q : wordB ws (.str w) with
    | true => exact h1 q
    | false => exact h2 q
  | _ => first
    | (simp [D.ty] at hv; done)
    | (simp [isTy]; exact h2 rfl)
def chordK (ns : List Int) (p : Nat) : List (List Int) := (famL ns p).map fun f => [f.low % p, f.long]
def chordN (ns : List Int) (p : Nat) : Nat := (ddL (chordK ns p)).length
theorem famL_len' (ns : List Int) (p : Nat) : (famL ns p).length = (startsL ns p).length * ns.length := famTo_len ns _
theorem famL_le {ns : List Int} {p : Nat} (sc : Sc ns) : (famL ns p).length ≤ 5 * p := by
  rw [famL_len', Nat.mul_comm]
  exact Nat.mul_le_mul sc.l2 (startsL_len ns p)
theorem q_chords_by {ns : List Int} {p : Nat} (sc : Sc ns) (hp : 0 < p) (hp2 : p ≤ 55) (h : P (.int (chordN ns p : Nat))) : f_chords_by A s [.tup (ns.map D.int), .int p] P EP := by
  have fl := famL_le (p := p) sc
  obtain ⟨v_families_by, g_families_by⟩ : ∃ v, v = (f_families_by A) := ⟨_, rfl⟩
  have h_families_by := @q_families_by A
  rw [← g_families_by] at h_families_by
  unfold f_chords_by t_chords_by
  try simp only [← g_families_by]
  simp
  refine h_families_by sc hp (by omega) ⟨by rw [List.length_map]; omega, comp_mapT famD (fun f => tupD [f.low % p, f.long]) _ (fun f hf Q hQ => ?_) ?_⟩
  · rw [famD_e]
    simp
    refine ⟨by omega, ?_⟩
    exact hQ
  · rw [List.nil_append, show (famL ns p).map (fun f => tupD [f.low % p, f.long]) = (chordK ns p).map tupD from by unfold chordK; rw [List.map_map]; rfl, u_dLenSetT]
    refine ⟨by unfold chordK; rw [List.length_map]; omega, fun n hn => ?_⟩
    rw [differ_n hn]
    exact h
def plainN (ns : List Int) (p : Nat) (w : Str) : Nat := if w == "loops" then (startsL ns p).length else (ddL (labL ns p)).length
theorem q_plain_by {ns : List Int} {p : Nat} {w : Str} (sc : Sc ns) (hp : 0 < p) (hp2 : p ≤ 55) (hw : PyData.canLay0 (.str w) = true) (h : P (.int (plainN ns p w : Nat))) : f_plain_by A s [.tup (ns.map D.int), .int p, .str w] P EP := by
  obtain ⟨v_starts_by, g_starts_by⟩ : ∃ v, v = (f_starts_by A) := ⟨_, rfl⟩
  have h_starts_by := @q_starts_by A
  rw [← g_starts_by] at h_starts_by
  obtain ⟨v_labels_by, g_labels_by⟩ : ∃ v, v = (f_labels_by A) := ⟨_, rfl⟩
  have h_labels_by := @q_labels_by A
  rw [← g_labels_by] at h_labels_by
  unfold f_plain_by t_plain_by
  try simp only [← g_starts_by, ← g_labels_by]
  simp
  refine eqv_str hw (by decide +kernel) ?_
  unfold plainN at h
  cases c : w == "loops" with
  | true =>
    rw [c] at h
    simp
    refine h_starts_by sc.l2 hp (by omega) ?_
    simpa using h
  | false =>
    rw [c] at h
    simp
    refine h_labels_by sc hp (by omega) ?_
    simp
    refine ⟨by unfold labL; rw [labTo_len]; omega, fun n hn => ?_⟩
    rw [differ_n hn]
    simpa using h
def topN (ns : List Int) (p : Nat) (w : Str) : Nat := if w == "rounds" then 1 else if w == "spans" then ns.length * (startsL ns p).length else if w == "chords" then chordN ns p else crossN ns p
theorem q_top_by {ns : List Int} {p : Nat} {w : Str} (sc : Sc ns) (hp : 0 < p) (hp2 : p ≤ 55) (hw : PyData.canLay0 (.str w) = true) (h : P (.int (topN ns p w : Nat))) : f_top_by A s [.tup (ns.map D.int), .int p, .str w] P EP := by
  have l2 := sc.l2
  obtain ⟨v_starts_by, g_starts_by⟩ : ∃ v, v = (f_starts_by A) := ⟨_, rfl⟩
  have h_starts_by := @q_starts_by A
  rw [← g_starts_by] at h_starts_by
  obtain ⟨v_chords_by, g_chords_by⟩ : ∃ v, v = (f_chords_by A) := ⟨_, rfl⟩
  have h_chords_by := @q_chords_by A
  rw [← g_chords_by] at h_chords_by
  obtain ⟨v_crossings_by, g_crossings_by⟩ : ∃ v, v = (f_crossings_by A) := ⟨_, rfl⟩
  have h_crossings_by := @q_crossings_by A
  rw [← g_crossings_by] at h_crossings_by
  unfold f_top_by t_top_by
  try simp only [← g_starts_by, ← g_chords_by, ← g_crossings_by]
  simp
  refine eqv_str hw (by decide +kernel) ?_
  unfold topN at h
  cases c : w == "rounds" with
  | true =>
    rw [c] at h
    simpa using h
  | false =>
    rw [c] at h
    simp
    refine eqv_str hw (by decide +kernel) ?_
    cases c : w == "spans" with
    | true =>
      rw [c] at h
      simp
      refine h_starts_by sc.l2 hp (by omega) ?_
      simp
      exact ⟨cmul_l (by omega) (by omega), by simpa using h⟩
    | false =>
      rw [c] at h
      simp
      refine eqv_str hw (by decide +kernel) ?_
      cases c : w == "chords" with
      | true =>
        rw [c] at h
        simp
        exact h_chords_by sc hp hp2 (by simpa using h)
      | false =>
        rw [c] at h
        simp
        exact h_crossings_by sc hp (by omega) (by simpa using h)
abbrev plainW : List Str := ["loops", "parts"]
abbrev growW : List Str := ["chords", "crossings", "rounds", "spans"]
theorem wordB_lay {ws : List Str} {w : Str} (h : wordB ws (.str w) = true) (hs : ws.all (fun w => PyData.canLay0 (.str w)) = true) : PyData.canLay0 (.str w) = true := by
  obtain ⟨x, hx, e⟩ := List.any_eq_true.mp (show ws.any (· == w) = true from h)
  have e' : x = w := by simpa using e
  rw [← e']
  exact List.all_eq_true.mp hs x hx
theorem sum_le {α : Type} (F : α → Nat) (c : Nat) : ∀ xs : List α, (∀ x ∈ xs, F x ≤ c) → (xs.map F).sum ≤ xs.length * c
  | [], _ => by simp
  | x :: xs, h => by
    have h1 := h x List.mem_cons_self
    have h2 := sum_le F c xs fun y hy => h y (List.mem_cons_of_mem _ hy)
    rw [List.map_cons, List.sum_cons, List.length_cons, Nat.succ_mul]
    omega
theorem topN_le {ns : List Int} {p : Nat} (sc : Sc ns) (hp2 : p ≤ 55) (w : Str) : topN ns p w ≤ 1000000 := by
  have fl := famL_le (p := p) sc
  have l2 := sc.l2
  have sl := startsL_len ns p
  unfold topN
  split
  · omega
  · split
    · have := Nat.mul_le_mul l2 sl
      omega
    · split
      · have q := ddL_le (chordK ns p)
        have e : (chordK ns p).length = (famL ns p).length := by unfold chordK; rw [List.length_map]
        unfold chordN
        omega
      · have h1 : ∀ f ∈ famL ns p, ∀ g, hits p f g ≤ 10 := fun f hf g => by
          have := fam_long sc hf
          have q := List.countP_le_length (p := fun k : Nat => hitB p f g (1 + k)) (l := List.range (f.long.toNat - 1))
          rw [List.length_range] at q
          unfold hits
          omega
        have h2 : crossN ns p ≤ (famL ns p).length * ((famL ns p).length * 10) := sum_le _ _ _ fun f hf => sum_le _ _ _ fun g _ => h1 f hf g
        have h3 : (famL ns p).length * ((famL ns p).length * 10) ≤ 275 * (275 * 10) := Nat.mul_le_mul (by omega) (Nat.mul_le_mul_right _ (by omega))
        omega
def countW (ns : List Int) (n : Int) (w : Str) : Int := if wordB plainW (.str w) then (plainN ns (gcdN ns n) w : Nat) else (topN ns (gcdN ns n) w : Nat) * (n / gcdN ns n)
theorem q_count {v w x : D} (hv : D.ok 64 v = true) (hw : w.ty.isSome = true) (hx : x.ty.isSome = true) (h1 : ∀ ns n u, Scr v ns → w = .int n → 24 ≤ n → n ≤ 1000000000000000000000000000000 → x = .str u → wordB (plainW ++ growW) x = true → P (.int (countW ns n u)))
    (h2 : scriptB v = false → EP (A "InvalidScript")) (h3 : scriptB v = true → whole w 24 1000000000000000000000000000000 = false → EP (A "InvalidRing")) (h4 : scriptB v = true → whole w 24 1000000000000000000000000000000 = true → wordB (plainW ++ growW) x = false → EP (A "InvalidWord")) : f_count A s [v, w, x] P EP := by
  obtain ⟨v_need_script, g_need_script⟩ : ∃ v, v = (f_need_script A) := ⟨_, rfl⟩
  have h_need_script := @q_need_script A
  rw [← g_need_script] at h_need_script
  obtain ⟨v_need_ring, g_need_ring⟩ : ∃ v, v = (f_need_ring A) := ⟨_, rfl⟩
  have h_need_ring := @q_need_ring A
  rw [← g_need_ring] at h_need_ring
  obtain ⟨v_need_word, g_need_word⟩ : ∃ v, v = (f_need_word A) := ⟨_, rfl⟩
  have h_need_word := @q_need_word A
  rw [← g_need_word] at h_need_word
  obtain ⟨v_part_of, g_part_of⟩ : ∃ v, v = (f_part_of A) := ⟨_, rfl⟩
  have h_part_of := @q_part_of A
  rw [← g_part_of] at h_part_of
  obtain ⟨v_plain_by, g_plain_by⟩ : ∃ v, v = (f_plain_by A) := ⟨_, rfl⟩
  have h_plain_by := @q_plain_by A
  rw [← g_plain_by] at h_plain_by
  obtain ⟨v_top_by, g_top_by⟩ : ∃ v, v = (f_top_by A) := ⟨_, rfl⟩
  have h_top_by := @q_top_by A
  rw [← g_top_by] at h_top_by
  unfold f_count t_count
  try simp only [← g_need_script, ← g_need_ring, ← g_need_word, ← g_part_of, ← g_plain_by, ← g_top_by]
  simp
  refine h_need_script hv (fun q => ?_) h2
  refine h_need_ring hw (fun q2 => ?_) (h3 q)
  refine h_need_word (ws := plainW ++ growW) hx (by rfl) (fun q3 => ?_) (h4 q q2)
  obtain ⟨ns, sc⟩ := scriptB_scr q
  obtain ⟨n, en, n1, n2⟩ := ring_of q2
  have hs := sc.sc
  have g1 := hs.g1 n
  have g2 := hs.g2 n
  obtain ⟨u, eu⟩ : ∃ u, x = .str u := by
    cases x with
    | str u => exact ⟨u, rfl⟩
    | _ => cases q3
  have hq := h1 ns n u sc en n1 n2 eu q3
  have lay : PyData.canLay0 (.str u) = true := wordB_lay (by rw [← eu]; exact q3) (by decide +kernel)
  rw [sc.e]
  subst en eu
  refine h_part_of ?_
  simp
  unfold countW at hq
  refine dIn_word (ws := plainW) (by rfl) ?_
  cases c : wordB plainW (.str u) with
  | true =>
    rw [c] at hq
    simp
    exact h_plain_by hs g1 g2 lay (by simpa using hq)
  | false =>
    rw [c] at hq
    simp
    have tl := topN_le (p := gcdN ns n) hs g2 u
    refine h_top_by hs g1 g2 lay ?_
    simp
    exact ⟨cdivw (by omega) (by omega), cmul_l (by omega) (by omega), by simpa using hq⟩
end
end Wn

set_option Elab.async false
set_option linter.all false
set_option maxRecDepth 100000
set_option maxHeartbeats 1000000
namespace Wn
open PySem PySem.Spec PyProof.Rows L2
theorem countP_swap (p : Nat → Bool) (L : Nat) : ∀ R, (List.range (R * L)).countP p = ((List.range L).map fun j => (List.range R).countP fun t => p (t * L + j)).sum
  | 0 => by
    rw [Nat.zero_mul]
    have : ∀ l : List Nat, (l.map fun j => (List.range 0).countP fun t => p (t * L + j)).sum = 0 := by
      intro l
      induction l with
      | nil => rfl
      | cons a l ih => rw [List.map_cons, List.sum_cons, ih]; rfl
    rw [this]
    rfl
  | R + 1 => by
    rw [Nat.add_mul, Nat.one_mul, List.range_add, List.countP_append, countP_swap p L R, List.countP_map]
    have : ∀ l : List Nat, (l.map fun j => (List.range (R + 1)).countP fun t => p (t * L + j)).sum = (l.map fun j => (List.range R).countP fun t => p (t * L + j)).sum + l.countP (p ∘ fun x => R * L + x) := by
      intro l
      induction l with
      | nil => rfl
      | cons a l ih =>
        rw [List.map_cons, List.sum_cons, ih, List.map_cons, List.sum_cons, List.range_succ, List.countP_append, List.countP_cons, List.countP_cons, List.countP_nil]
        simp only [Function.comp]
        omega
    rw [this]
theorem countP_one {q : Nat → Bool} {R t : Nat} (ht : t < R) (h1 : q t = true) (h2 : ∀ t', t' < R → q t' = true → t' = t) : (List.range R).countP q = 1 := by
  induction R with
  | zero => omega
  | succ R ih =>
    rw [List.range_succ, List.countP_append, List.countP_cons, List.countP_nil]
    by_cases e : t = R
    · subst e
      rw [h1, show (List.range t).countP q = 0 from List.countP_eq_zero.mpr fun a ha hq => by
        have := h2 a (by have := List.mem_range.mp ha; omega) hq
        have := List.mem_range.mp ha
        omega]
      rfl
    · rw [ih (by omega) fun t' l q' => h2 t' (by omega) q']
      have : q R = false := by
        cases c : q R with
        | false => rfl
        | true => exact absurd (h2 R (by omega) c).symm e
      rw [this]
      rfl
theorem sum_ind (b : Nat → Bool) : ∀ l : List Nat, (l.map fun j => if b j then 1 else 0).sum = l.countP b
  | [] => rfl
  | a :: l => by
    rw [List.map_cons, List.sum_cons, sum_ind b l, List.countP_cons]
    omega
theorem offs_range (ns : List Int) : offs ns = (List.range ns.length).map fun j => (ns.take j).sum := by
  apply List.ext_getElem?
  intro i
  rw [List.getElem?_map]
  by_cases h : i < ns.length
  · have e := offs_get h
    have l : (offs ns).length = ns.length := offs_len ns
    rw [List.getElem?_eq_getElem (by omega)] at e ⊢
    rw [List.getElem?_range h]
    exact congrArg some e
  · rw [List.getElem?_eq_none (by rw [offs_len]; omega), List.getElem?_eq_none (by rw [List.length_range]; omega)]
    rfl
/-- in how many rounds one place of a script comes to a peg -/
theorem vis_at {ns : List Int} {n : Nat} (sc : Sc ns) (hn : 0 < n) {s z : Int} (z0 : 0 ≤ z) (z1 : z < n) {j : Nat} (hj : j < ns.length) :
    (List.range (roundsN ns n)).countP (fun t => hereF ns n s (t * ns.length + j) == z) = if (s + (ns.take j).sum) % gcdN ns n == z % gcdN ns n then 1 else 0 := by
  have g0 : (0 : Int) < gcdN ns n := by
    have := gcdN_pos (n := n) sc.sm
    omega
  have gn : (gcdN ns n : Int) ∣ n := Int.gcd_dvd_left ..
  have gs : (gcdN ns n : Int) ∣ ns.sum := Int.gcd_dvd_right ..
  have key : ∀ t : Nat, (hereF ns n s (t * ns.length + j) == z) = true ↔ (n : Int) ∣ t * ns.sum - (z - s - (ns.take j).sum) := by
    intro t
    unfold hereF
    rw [far_at hj, beq_iff_eq]
    constructor
    · intro e
      have := Int.emod_add_mul_ediv (s + (t * ns.sum + (ns.take j).sum)) n
      exact ⟨(s + (t * ns.sum + (ns.take j).sum)) / n, by omega⟩
    · rintro ⟨k, e⟩
      rw [show s + (t * ns.sum + (ns.take j).sum) = z + n * k by omega, Int.add_mul_emod_self_left, Int.emod_eq_of_lt z0 z1]
  by_cases c : (s + (ns.take j).sum) % gcdN ns n = z % gcdN ns n
  · have d : (gcdN ns n : Int) ∣ z - s - (ns.take j).sum := by
      have := Int.emod_emod_of_dvd
      have := (Int.emod_eq_emod_iff_emod_sub_eq_zero).mp c.symm
      have := Int.dvd_of_emod_eq_zero this
      rwa [show z - (s + (ns.take j).sum) = z - s - (ns.take j).sum by omega] at this
    obtain ⟨t, ht, hd⟩ := reach sc.sm (show (0 : Int) < n by omega) d
    have er : ((roundsN ns n : Nat) : Int) = n / gcdN ns n := by
      unfold roundsN
      rw [Int.natCast_ediv]
    rw [countP_one (t := t) (by omega) ((key t).mpr hd) fun t' l q' => ?_]
    · rw [if_pos]
      simp only [beq_iff_eq]
      exact c
    · have h1 := (key t').mp q'
      have h2 := Int.dvd_sub h1 hd
      rw [show (t' * ns.sum - (z - s - (ns.take j).sum)) - (t * ns.sum - (z - s - (ns.take j).sum)) = ((t' : Int) - t) * ns.sum by rw [Int.sub_mul]; omega] at h2
      obtain ⟨k, hk⟩ := (back_iff sc.sm).mp h2
      rw [← er] at hk
      by_cases k0 : k = 0
      · subst k0
        omega
      · exfalso
        by_cases kp : 0 < k
        · have := Int.mul_le_mul_of_nonneg_left (show (1 : Int) ≤ k by omega) (show (0 : Int) ≤ roundsN ns n by omega)
          omega
        · have := Int.mul_le_mul_of_nonneg_left (show k ≤ (-1 : Int) by omega) (show (0 : Int) ≤ roundsN ns n by omega)
          omega
  · rw [if_neg]
    · refine List.countP_eq_zero.mpr fun t _ q' => c ?_
      have h1 := Int.dvd_trans gn ((key t).mp q')
      have h2 : (gcdN ns n : Int) ∣ t * ns.sum := Int.dvd_trans gs (Int.dvd_mul_left ..)
      have h3 := Int.dvd_sub h2 h1
      rw [show t * ns.sum - (t * ns.sum - (z - s - (ns.take j).sum)) = z - (s + (ns.take j).sum) by omega] at h3
      exact (Int.emod_eq_emod_iff_emod_sub_eq_zero.mpr (Int.emod_eq_zero_of_dvd h3)).symm
    · simp only [beq_iff_eq]
      exact c
/-- how many times a strand comes to a peg -/
theorem vis_count {ns : List Int} {n : Nat} (sc : Sc ns) (hn : 0 < n) {s z : Int} (z0 : 0 ≤ z) (z1 : z < n) :
    (List.range (sizeN ns n)).countP (fun i => hereF ns n s i == z) = (offs ns).countP fun o => (s + o) % gcdN ns n == z % gcdN ns n := by
  have e1 : sizeN ns n = roundsN ns n * ns.length := Nat.mul_comm ..
  rw [e1, countP_swap, offs_range, List.countP_map, ← sum_ind]
  refine congrArg List.sum (List.map_congr_left fun j hj => ?_)
  rw [vis_at sc hn z0 z1 (List.mem_range.mp hj)]
  rfl
theorem vis_count' {ns : List Int} {n : Nat} (sc : Sc ns) (hn : 0 < n) {s z : Int} (z0 : 0 ≤ z) (z1 : z < n) :
    (List.range (sizeN ns n)).countP (fun i => hereF ns n s (i + 1) == z) = (offs ns).countP fun o => (s + o) % gcdN ns n == z % gcdN ns n := by
  rw [← vis_count sc hn z0 z1]
  have l1 := sc.l1
  have e := hereF_size (n := n) l1 s
  have e0 : hereF ns n s 0 = s % n := by
    unfold hereF
    have := far_at (ns := ns) (t := 0) (j := 0) (by omega)
    rw [Nat.zero_mul, Nat.add_zero] at this
    rw [this]
    simp
  have a : (List.range (sizeN ns n + 1)).countP (fun i => hereF ns n s i == z) = (List.range (sizeN ns n)).countP (fun i => hereF ns n s i == z) + (if hereF ns n s (sizeN ns n) == z then 1 else 0) := by
    rw [List.range_succ, List.countP_append, List.countP_cons, List.countP_nil]
    omega
  have b : (List.range (sizeN ns n + 1)).countP (fun i => hereF ns n s i == z) = (List.range (sizeN ns n)).countP (fun i => hereF ns n s (i + 1) == z) + (if hereF ns n s 0 == z then 1 else 0) := by
    rw [List.range_succ_eq_map, List.countP_cons, List.countP_map]
    rfl
  rw [e] at a
  rw [e0] at b
  omega
end Wn

set_option Elab.async false
set_option linter.all false
set_option maxRecDepth 100000
set_option maxHeartbeats 1000000
namespace Wn
open PySem PySem.Spec PyProof.Rows L2
theorem countP_major (p : Nat → Bool) (L : Nat) : ∀ R, (List.range (R * L)).countP p = ((List.range R).map fun t => (List.range L).countP fun j => p (t * L + j)).sum
  | 0 => by rw [Nat.zero_mul]; rfl
  | R + 1 => by
    rw [Nat.add_mul, Nat.one_mul, List.range_add, List.countP_append, countP_major p L R, List.countP_map, List.range_succ, List.map_append, List.sum_append, List.map_cons, List.map_nil, List.sum_cons, List.sum_nil, Nat.add_zero]
    rfl
theorem sum_range_get {α : Type} (f : α → Nat) (l : List α) (d : α) : ((List.range l.length).map fun t => f (l[t]?.getD d)).sum = (l.map f).sum := by
  conv => rhs; rw [← range_get l d]
  rw [List.map_map]
  rfl
theorem woundF_at {ns : List Int} {n : Nat} {ss : List Int} {t j : Nat} (h : j < sizeN ns n) : woundF ns n ss (t * sizeN ns n + j) = strand ns n (ss[t]?.getD 0) t j := by
  unfold woundF
  rw [Nat.mul_comm t, Nat.mul_add_div (by omega), Nat.div_eq_of_lt h, Nat.mul_add_mod, Nat.mod_eq_of_lt h, Nat.add_zero]
/-- how many spans have a mark that only looks at the strand -/
theorem wound_countP (ns : List Int) (n : Nat) (q : Int × Int × Int → Bool) (c : Int → Nat) (h : ∀ st t, (List.range (sizeN ns n)).countP (fun j => q (strand ns n st t j)) = c st) : (woundL ns n).countP q = ((startsL ns (gcdN ns n)).map c).sum := by
  unfold woundL woundTo
  rw [List.countP_map, countP_major, ← sum_range_get c _ 0]
  refine congrArg List.sum (List.map_congr_left fun t _ => ?_)
  rw [← h _ t]
  refine List.countP_congr fun j hj => ?_
  simp only [Function.comp]
  rw [woundF_at (List.mem_range.mp hj)]
theorem asc_ext : ∀ {l m : List Int}, l.Pairwise (· < ·) → m.Pairwise (· < ·) → (∀ k, k ∈ l ↔ k ∈ m) → l = m
  | [], [], _, _, _ => rfl
  | [], b :: m, _, _, h => absurd ((h b).mpr (List.mem_cons_self ..)) (List.not_mem_nil)
  | a :: l, [], _, _, h => absurd ((h a).mp (List.mem_cons_self ..)) (List.not_mem_nil)
  | a :: l, b :: m, hl, hm, h => by
    have l1 := List.pairwise_cons.mp hl
    have m1 := List.pairwise_cons.mp hm
    have e : a = b := by
      have ha := (h a).mp (List.mem_cons_self ..)
      have hb := (h b).mpr (List.mem_cons_self ..)
      rcases List.mem_cons.mp ha with e | e
      · exact e
      · rcases List.mem_cons.mp hb with e2 | e2
        · exact e2.symm
        · have := l1.1 b e2
          have := m1.1 a e
          omega
    subst e
    refine congrArg (a :: ·) (asc_ext l1.2 m1.2 fun k => ?_)
    constructor
    · intro hk
      rcases List.mem_cons.mp ((h k).mp (List.mem_cons_of_mem _ hk)) with e | e
      · have := l1.1 k hk
        omega
      · exact e
    · intro hk
      rcases List.mem_cons.mp ((h k).mpr (List.mem_cons_of_mem _ hk)) with e | e
      · have := m1.1 k hk
        omega
      · exact e
end Wn

set_option Elab.async false
set_option linter.all false
set_option maxRecDepth 100000
set_option maxHeartbeats 1000000
namespace Wn
open PySem PySem.Spec PyProof.Rows L2
section
variable {A : Str → Addr} {s : Option Addr} {P : D → Prop} {PL : List D → Prop} {EP : Addr → Prop}
/-- what hangs together by spans -/
inductive Conn (E : List (Int × Int × Int)) : Int → Int → Prop where
  | refl (a) : Conn E a a
  | edge (x) : x ∈ E → Conn E x.1 x.2.1
  | symm {a b} : Conn E a b → Conn E b a
  | trans {a b c} : Conn E a b → Conn E b c → Conn E a c
theorem lkK_map (f : Nat → D) {k : Nat} : ∀ l : List Nat, k ∈ l → lkK (l.map fun k => Sum.inl ((k : Nat) : Int)) (l.map f) (.inl (k : Int)) = some (f k)
  | [], h => nomatch h
  | x :: l, h => by
    rw [List.map_cons, List.map_cons]
    unfold lkK
    by_cases c : x = k
    · rw [if_pos (by rw [c]), c]
    · rw [if_neg (fun z => c (by have := Sum.inl.inj z; omega))]
      rcases List.mem_cons.mp h with e | e
      · exact absurd e.symm c
      · exact lkK_map f l e
theorem lk_near {n k : Nat} (es : List Edge) (h : k < n) : lkK (keysN n) (lstsN es n) (.inl (k : Int)) = some (.lst ((adjL es k).map D.int)) := lkK_map (fun k => .lst ((adjL es k).map D.int)) _ (List.mem_range.mpr h)
def edgesL (laid : List (Int × Int × Int)) : List Edge := laid.map fun x => (x.1.toNat, x.2.1.toNat, x.2.2)
abbrev InRing (n : Nat) (laid : List (Int × Int × Int)) : Prop := ∀ x ∈ laid, 0 ≤ x.1 ∧ x.1 < n ∧ 0 ≤ x.2.1 ∧ x.2.1 < n
theorem edges_e {n : Nat} {laid : List (Int × Int × Int)} (hr : InRing n laid) : (edgesL laid).map edgeD = laid.map tripD := by
  unfold edgesL
  rw [List.map_map]
  refine List.map_congr_left fun x hx => ?_
  obtain ⟨h1, h2, h3, h4⟩ := hr x hx
  show D.tup [.int (x.1.toNat : Nat), .int (x.2.1.toNat : Nat), .int x.2.2] = .tup [.int x.1, .int x.2.1, .int x.2.2]
  rw [Int.toNat_of_nonneg h1, Int.toNat_of_nonneg h3]
theorem adj_mem {n : Nat} {laid : List (Int × Int × Int)} (hr : InRing n laid) {k : Nat} {y : Int} : y ∈ adjL (edgesL laid) k ↔ ∃ x ∈ laid, (x.1 = k ∧ y = x.2.1) ∨ (x.2.1 = k ∧ y = x.1) := by
  unfold adjL edgesL
  rw [List.mem_flatMap]
  constructor
  · rintro ⟨e, he, hy⟩
    obtain ⟨x, hx, ex⟩ := List.mem_map.mp he
    obtain ⟨h1, h2, h3, h4⟩ := hr x hx
    subst ex
    refine ⟨x, hx, ?_⟩
    rcases List.mem_append.mp hy with q | q
    · by_cases c : x.1.toNat = k
      · rw [if_pos c] at q
        have : y = ((x.2.1.toNat : Nat) : Int) := List.mem_singleton.mp q
        exact .inl ⟨by omega, by omega⟩
      · rw [if_neg c] at q
        cases q
    · by_cases c : x.2.1.toNat = k
      · rw [if_pos c] at q
        have : y = ((x.1.toNat : Nat) : Int) := List.mem_singleton.mp q
        exact .inr ⟨by omega, by omega⟩
      · rw [if_neg c] at q
        cases q
  · rintro ⟨x, hx, h⟩
    obtain ⟨h1, h2, h3, h4⟩ := hr x hx
    refine ⟨_, List.mem_map.mpr ⟨x, hx, rfl⟩, List.mem_append.mpr ?_⟩
    rcases h with ⟨e1, e2⟩ | ⟨e1, e2⟩
    · left
      rw [if_pos (show x.1.toNat = k by omega)]
      exact List.mem_singleton.mpr (by show y = ((x.2.1.toNat : Nat) : Int); omega)
    · right
      rw [if_pos (show x.2.1.toNat = k by omega)]
      exact List.mem_singleton.mpr (by show y = ((x.1.toNat : Nat) : Int); omega)
/-- M is closed under spans, but for what L has -/
def Closed (laid : List (Int × Int × Int)) (M L : List Int) : Prop := ∀ x ∈ M, ∀ e ∈ laid, (e.1 = x → e.2.1 ∈ M ∨ e.2.1 ∈ L) ∧ (e.2.1 = x → e.1 ∈ M ∨ e.1 ∈ L)
theorem closed_conn {laid : List (Int × Int × Int)} {M : List Int} (h : Closed laid M []) {a b : Int} (c : Conn laid a b) : a ∈ M ↔ b ∈ M := by
  induction c with
  | refl => exact Iff.rfl
  | edge x hx => exact ⟨fun z => ((h _ z x hx).1 rfl).resolve_right (fun y => nomatch y), fun z => ((h _ z x hx).2 rfl).resolve_right (fun y => nomatch y)⟩
  | symm _ ih => exact ih.symm
  | trans _ _ ih1 ih2 => exact ih1.trans ih2
theorem any_inl (M : List Int) (z : Int) : M.any ((fun j : Key => decide (j = .inl z)) ∘ fun k => (Sum.inl k : Key)) = M.any (· == z) := by
  congr 1
  funext k
  exact dec_inl k z
theorem nodup_ring {n : Nat} {M : List Int} (hm : M.Nodup) (hr : ∀ x ∈ M, 0 ≤ x ∧ x < n) : M.length ≤ n := by
  have := sub_len M ((List.range n).map fun k : Nat => (k : Int)) hm fun x hx => by
    obtain ⟨h1, h2⟩ := hr x hx
    exact List.mem_map.mpr ⟨x.toNat, List.mem_range.mpr (by omega), by omega⟩
  rw [List.length_map, List.length_range] at this
  exact this
abbrev keysI (M : List Int) : List Key := M.map fun k => Sum.inl k
theorem q_number_of_parts {n : Nat} {laid : List (Int × Int × Int)} (hn : n ≤ 60) (hl : laid.length ≤ 300) (hr : InRing n laid) (lead : Nat → Bool) (hlead : ∀ i, i < n → (lead i = true ↔ ∀ j : Nat, j < i → ¬ Conn laid (j : Int) i)) (h : P (.int ((List.range n).countP lead : Nat))) :
    f__law_number_of_parts A s [.int n, .lst (laid.map tripD)] P EP := by
  unfold f__law_number_of_parts t__law_number_of_parts
  simp
  refine ⟨by simp, n, edgesL laid, rfl, ?_, by omega, by unfold edgesL; rw [List.length_map]; omega, fun e he => ?_, ?_⟩
  · rw [edges_e hr]
    rfl
  · obtain ⟨x, hx, ex⟩ := List.mem_map.mp he
    obtain ⟨h1, h2, h3, h4⟩ := hr x hx
    subst ex
    exact ⟨by show x.1.toNat < n; omega, by show x.2.1.toNat < n; omega⟩
  simp
  have dk := fun (k : Nat) (hk : k < n) => lk_near (edgesL laid) hk
  generalize keysN n = ks0 at dk ⊢
  generalize lstsN (edgesL laid) n = ls0 at dk ⊢
  refine ⟨by omega, loop_ints (loop_acc0 (fun a : List Int × List D × Nat => ⟨s, [.d (.int n), .d (.lst (laid.map tripD)), .oK (keysI a.1) a.2.1, .d (.int (a.2.2 : Nat)), .d (.dK ks0 ls0), .no, .no, .no, .no, .no, .no]⟩)
    (fun i a => a.2.2 = (List.range i).countP lead ∧ Closed laid a.1 [] ∧ (∀ j : Nat, j < i → (j : Int) ∈ a.1) ∧ (∀ x ∈ a.1, 0 ≤ x ∧ x < n ∧ ∃ j : Nat, j < i ∧ Conn laid (j : Int) x) ∧ a.1.Nodup) _ _ ([], [], 0) rfl ⟨rfl, fun x h => (nomatch h), fun j h => absurd h (by omega), fun x h => (nomatch h), List.nodup_nil⟩
    (fun a ⟨h1, _⟩ => ?_) fun i y hy a ⟨h1, h2, h3, h4, h5⟩ K hK => ?_)⟩
  · simp
    rw [List.length_range] at h1
    rw [h1]
    exact h
  obtain ⟨M, vs, found⟩ := a
  have hi := (List.getElem?_eq_some_iff.mp hy).1
  rw [List.getElem?_range (by simpa using hi)] at hy
  cases hy
  rw [List.length_range] at hi
  simp only [] at h1 h2 h3 h4 h5 hK
  have cnt : (List.range (i + 1)).countP lead = (List.range i).countP lead + (if lead i then 1 else 0) := by
    rw [List.range_succ, List.countP_append, List.countP_cons, List.countP_nil]
    simp
  simp
  rw [any_inl]
  cases c : M.any (· == (i : Int)) with
  | true =>
    have im : (i : Int) ∈ M := by
      obtain ⟨x, hx, e⟩ := List.any_eq_true.mp c
      rw [← beq_iff_eq.mp e]
      exact hx
    have nl : lead i = false := by
      obtain ⟨_, _, j, hj, cj⟩ := h4 _ im
      cases q : lead i with
      | false => rfl
      | true => exact absurd cj ((hlead i hi).mp q j hj)
    simp
    refine wh_acc (fun _ : Unit => ⟨s, [.d (.int n), .d (.lst (laid.map tripD)), .oK (keysI M) vs, .d (.int (found : Nat)), .d (.dK ks0 ls0), .no, .no, .no, .no, .ow [], .no]⟩) (fun _ _ => True) 0 () rfl trivial fun _ _ _ K' _ => ?_
    simp
    refine dEq_nil (ns := []) ?_
    simp
    refine hK (M, vs, found) ⟨by rw [cnt, nl, h1]; rfl, h2, fun j hj => ?_, fun x hx => ?_, h5⟩
    · rcases Nat.lt_or_eq_of_le (Nat.lt_succ_iff.mp hj) with z | z
      · exact h3 j z
      · rw [z]
        exact im
    · obtain ⟨a1, a2, j, a3, a4⟩ := h4 x hx
      exact ⟨a1, a2, j, by omega, a4⟩
  | false =>
    have im : (i : Int) ∉ M := fun z => by
      have := List.any_eq_false.mp c _ z
      exact this (beq_self_eq_true _)
    have il : lead i = true := (hlead i hi).mpr fun j hj z => im ((closed_conn h2 z).mp (h3 j hj))
    simp
    refine wh_acc (fun a : List Int × List D × List Int => ⟨s, [.d (.int n), .d (.lst (laid.map tripD)), .oK (keysI a.1) a.2.1, .d (.int ((found : Int) + 1)), .d (.dK ks0 ls0), .no, .no, .no, .no, .ow (a.2.2.map D.int), .no]⟩)
      (fun m a => m = (n - a.1.length) * 601 + a.2.2.length ∧ m ≤ 60 * 601 + 1 ∧ (∀ x ∈ M, x ∈ a.1) ∧ Closed laid a.1 a.2.2 ∧ (∀ x ∈ a.1, 0 ≤ x ∧ x < n ∧ (x ∈ M ∨ Conn laid i x)) ∧ (∀ x ∈ a.2.2, 0 ≤ x ∧ x < n ∧ Conn laid i x) ∧ ((i : Int) ∈ a.1 ∨ (i : Int) ∈ a.2.2) ∧ a.1.Nodup)
      _ (M, vs, [(i : Int)]) rfl ⟨rfl, ?_, fun x hx => hx, fun x hx e he => ?_, fun x hx => ?_, fun x hx => ?_, .inr (by simp), h5⟩ fun m a ⟨w1, w2, w3, w4, w5, w6, w7, w8⟩ K' hK' => ?_
    · simp only [List.length_singleton]
      have := Nat.mul_le_mul_right 601 (show n - M.length ≤ 60 by omega)
      omega
    · exact ⟨fun z => .inl (((h2 x hx e he).1 z).resolve_right fun y => nomatch y), fun z => .inl (((h2 x hx e he).2 z).resolve_right fun y => nomatch y)⟩
    · obtain ⟨a1, a2, _⟩ := h4 x hx
      exact ⟨a1, a2, .inl hx⟩
    · rw [List.mem_singleton.mp hx]
      exact ⟨by omega, by omega, .refl _⟩
    obtain ⟨M', vs', L⟩ := a
    simp only [] at w1 w2 w3 w4 w5 w6 w7 w8 hK'
    have ml := nodup_ring w8 fun x hx => ⟨(w5 x hx).1, (w5 x hx).2.1⟩
    simp
    refine dEq_nil ?_
    rcases List.eq_nil_or_concat L with e | ⟨L0, x, e⟩
    · subst e
      simp
      refine hK (M', vs', found + 1) ⟨by rw [cnt, il, h1]; rfl, w4, fun j hj => ?_, fun x hx => ?_, w8⟩
      · rcases Nat.lt_or_eq_of_le (Nat.lt_succ_iff.mp hj) with z | z
        · exact w3 _ (h3 j z)
        · rw [z]
          exact w7.resolve_right fun y => nomatch y
      · obtain ⟨a1, a2, a3⟩ := w5 x hx
        rcases a3 with z | z
        · obtain ⟨_, _, j, b1, b2⟩ := h4 x z
          exact ⟨a1, a2, j, by omega, b2⟩
        · exact ⟨a1, a2, i, by omega, z⟩
    · subst e
      rw [List.concat_eq_append] at w1 w4 w6 w7
      obtain ⟨x0, x1, xc⟩ := w6 x (by simp)
      rw [List.length_append, List.length_singleton] at w1
      simp
      rw [show (L0 ++ [x]).isEmpty = false from by cases L0 <;> rfl, any_inl]
      cases cx : M'.any (· == x) with
      | true =>
        have xm : x ∈ M' := by
          obtain ⟨z, hz, e⟩ := List.any_eq_true.mp cx
          rw [← beq_iff_eq.mp e]
          exact hz
        have stay : ∀ {y : Int}, y ∈ L0 ++ [x] → y ∈ M' ∨ y ∈ L0 := fun {y} h => by
          rcases List.mem_append.mp h with z | z
          · exact .inr z
          · rw [List.mem_singleton.mp z]
            exact .inl xm
        refine hK' (m - 1) (M', vs', L0) (by omega) ⟨by simp only []; omega, by omega, w3, fun y hy e he => ?_, w5, fun y hy => w6 y (List.mem_append_left _ hy), w7.elim .inl stay, w8⟩
        obtain ⟨c1, c2⟩ := w4 y hy e he
        exact ⟨fun z => (c1 z).elim .inl stay, fun z => (c2 z).elim .inl stay⟩
      | false =>
        have xm : x ∉ M' := fun z => List.any_eq_false.mp cx _ z (beq_self_eq_true _)
        have nd : (M' ++ [x]).Nodup := List.nodup_append.mpr ⟨w8, by simp, fun a ha b hb z => xm (by rw [← show b = x from by simpa using hb, ← z]; exact ha)⟩
        have ml2 := nodup_ring (n := n) nd fun y hy => by
          rcases List.mem_append.mp hy with z | z
          · exact ⟨(w5 y z).1, (w5 y z).2.1⟩
          · rw [List.mem_singleton.mp z]
            exact ⟨x0, x1⟩
        rw [List.length_append, List.length_singleton] at ml2
        have al := adjL_len (edgesL laid) x.toNat
        have el : (edgesL laid).length = laid.length := by unfold edgesL; rw [List.length_map]
        have am := fun y => adj_mem (k := x.toNat) (y := y) hr
        have ex : ((x.toNat : Nat) : Int) = x := by omega
        have dk' := dk x.toNat (by omega)
        rw [ex] at dk' am
        refine ⟨by omega, i_dDgK dk' ?_⟩
        generalize adjL (edgesL laid) x.toNat = ad at al am ⊢
        simp only []
        refine ⟨by rw [List.length_map]; omega, ?_⟩
        have pk : putKs (keysI M') (.inl x) = keysI (M' ++ [x]) := by
          unfold putKs
          rw [show ((keysI M').any fun j => decide (j = .inl x)) = false from by
            unfold keysI
            rw [List.any_map]
            rw [any_inl]
            exact cx]
          show keysI M' ++ [Sum.inl x] = keysI (M' ++ [x])
          unfold keysI
          rw [List.map_append]
          rfl
        rw [pk, ← List.map_append]
        have stay : ∀ {y : Int}, y ∈ L0 ++ [x] → y ∈ M' ++ [x] ∨ y ∈ L0 ++ ad := fun {y} h => by
          rcases List.mem_append.mp h with z | z
          · exact .inr (List.mem_append_left _ z)
          · exact .inl (List.mem_append_right _ z)
        refine hK' ((n - (M' ++ [x]).length) * 601 + (L0 ++ ad).length) (M' ++ [x], putDs (keysI M') vs' (.inl x) (.bl true), L0 ++ ad) ?_ ⟨rfl, ?_, fun y hy => List.mem_append_left _ (w3 y hy), fun y hy e he => ?_, fun y hy => ?_, fun y hy => ?_, ?_, nd⟩
        · rw [List.length_append, List.length_singleton, List.length_append]
          omega
        · rw [List.length_append, List.length_singleton, List.length_append]
          omega
        · rcases List.mem_append.mp hy with z | z
          · obtain ⟨c1, c2⟩ := w4 y z e he
            exact ⟨fun q => (c1 q).elim (fun r => .inl (List.mem_append_left _ r)) stay, fun q => (c2 q).elim (fun r => .inl (List.mem_append_left _ r)) stay⟩
          · rw [List.mem_singleton.mp z]
            exact ⟨fun q => .inr (List.mem_append_right _ ((am _).mpr ⟨e, he, .inl ⟨q, rfl⟩⟩)), fun q => .inr (List.mem_append_right _ ((am _).mpr ⟨e, he, .inr ⟨q, rfl⟩⟩))⟩
        · rcases List.mem_append.mp hy with z | z
          · exact w5 y z
          · rw [List.mem_singleton.mp z]
            exact ⟨x0, x1, .inr xc⟩
        · rcases List.mem_append.mp hy with z | z
          · exact w6 y (List.mem_append_left _ z)
          · obtain ⟨e, he, q⟩ := (am y).mp z
            obtain ⟨r1, r2, r3, r4⟩ := hr e he
            rcases q with ⟨q1, q2⟩ | ⟨q1, q2⟩
            · rw [q2]
              exact ⟨r3, r4, .trans xc (by rw [← q1]; exact .edge e he)⟩
            · rw [q2]
              exact ⟨r1, r2, .trans xc (by rw [← q1]; exact .symm (.edge e he))⟩
        · rcases w7 with z | z
          · exact .inl (List.mem_append_left _ z)
          · exact stay z
end
end Wn

set_option Elab.async false
set_option linter.all false
set_option maxRecDepth 100000
set_option maxHeartbeats 1000000
namespace Wn
open PySem PySem.Spec PyProof.Rows L2
section
variable {A : Str → Addr} {s : Option Addr} {P : D → Prop} {PL : List D → Prop} {EP : Addr → Prop}
theorem mod_near {x n : Int} (h1 : -n ≤ x) (h2 : x < 2 * n) : (x < 0 ∧ x % n = x + n) ∨ (0 ≤ x ∧ x < n ∧ x % n = x) ∨ (n ≤ x ∧ x % n = x - n) := by
  by_cases c : x < 0
  · refine .inl ⟨c, ?_⟩
    rw [← Int.add_emod_right, Int.emod_eq_of_lt (by omega) (by omega)]
  · by_cases c2 : x < n
    · exact .inr (.inl ⟨by omega, c2, Int.emod_eq_of_lt (by omega) c2⟩)
    · refine .inr (.inr ⟨by omega, ?_⟩)
      rw [← Int.sub_emod_right, Int.emod_eq_of_lt (by omega) (by omega)]
theorem zipIdx_range {α : Type} (l : List α) (d : α) : l.zipIdx = (List.range l.length).map fun i => (l[i]?.getD d, i) := by
  apply List.ext_getElem?
  intro i
  rw [List.getElem?_map]
  by_cases h : i < l.length
  · rw [List.getElem?_range h, List.getElem?_eq_getElem (by rw [List.length_zipIdx]; exact h), List.getElem_zipIdx, Option.map_some, List.getElem?_eq_getElem h, Nat.zero_add]
    rfl
  · rw [List.getElem?_eq_none (by rw [List.length_zipIdx]; omega), List.getElem?_eq_none (by rw [List.length_range]; omega)]
    rfl
/-! ### sums over spans -/
theorem sum_major (F : Nat → Nat) (L : Nat) : ∀ R, ((List.range (R * L)).map F).sum = ((List.range R).map fun t => ((List.range L).map fun j => F (t * L + j)).sum).sum
  | 0 => by simp
  | R + 1 => by
    rw [Nat.add_mul, Nat.one_mul, List.range_add, List.map_append, List.sum_append, sum_major F L R, List.map_map, List.range_succ, List.map_append, List.sum_append]
    simp [Function.comp_def]
theorem sum_add {α : Type} (F G : α → Nat) : ∀ l : List α, (l.map fun x => F x + G x).sum = (l.map F).sum + (l.map G).sum
  | [] => rfl
  | x :: l => by
    simp only [List.map_cons, List.sum_cons, sum_add F G l]
    omega
theorem sum_zero {α : Type} : ∀ l : List α, (l.map fun _ => 0).sum = 0
  | [] => rfl
  | x :: l => by simp only [List.map_cons, List.sum_cons, sum_zero l]
theorem sum_comm {α β : Type} (F : α → β → Nat) (m : List β) : ∀ l : List α, (l.map fun x => (m.map fun y => F x y).sum).sum = (m.map fun y => (l.map fun x => F x y).sum).sum
  | [] => by simp [sum_zero]
  | x :: l => by
    rw [List.map_cons, List.sum_cons, sum_comm F m l, ← sum_add]
    simp only [List.map_cons, List.sum_cons]
theorem sum_swap (F : Nat → Nat) (L R : Nat) : ((List.range (R * L)).map F).sum = ((List.range L).map fun j => ((List.range R).map fun t => F (t * L + j)).sum).sum := by
  rw [sum_major, sum_comm]
theorem sum_flat {α β : Type} (F : β → Nat) (f : α → List β) : ∀ l : List α, ((l.flatMap f).map F).sum = (l.map fun x => ((f x).map F).sum).sum
  | [] => rfl
  | x :: l => by rw [List.flatMap_cons, List.map_append, List.sum_append, sum_flat F f l, List.map_cons, List.sum_cons]
theorem wound_sum {ns : List Int} {n : Nat} (F : Int × Int × Int → Nat) (G : Fam → Nat) (h : ∀ st l j, j < ns.length → ((List.range (roundsN ns n)).map fun t => F (strand ns n st l (t * ns.length + j))).sum = G (famAt ns l st j (ns.take j).sum)) : ((woundL ns n).map F).sum = ((famL ns (gcdN ns n)).map G).sum := by
  unfold woundL woundTo famL famTo
  rw [List.map_map, sum_major, sum_flat, zipIdx_range (startsL ns (gcdN ns n)) 0, List.map_map]
  refine congrArg List.sum (List.map_congr_left fun l _ => ?_)
  simp only [Function.comp]
  have e1 : sizeN ns n = roundsN ns n * ns.length := Nat.mul_comm ..
  rw [show ((List.range (sizeN ns n)).map fun j => F (woundF ns n (startsL ns (gcdN ns n)) (l * sizeN ns n + j))) = (List.range (sizeN ns n)).map fun k => F (strand ns n ((startsL ns (gcdN ns n))[l]?.getD 0) l k) from List.map_congr_left fun k hk => by rw [woundF_at (List.mem_range.mp hk)]]
  rw [e1, sum_swap, zipIdx_range (offs ns) 0, List.map_map, List.map_map, offs_len]
  refine congrArg List.sum (List.map_congr_left fun j hj => ?_)
  have hj := List.mem_range.mp hj
  rw [h _ _ _ hj]
  simp only [Function.comp]
  rw [offs_get hj]
/-- the low end in the t-th round -/
def lowT (ns : List Int) (n : Nat) (f : Fam) (t : Nat) : Int := (f.low + t * ns.sum) % n
theorem strand_at {ns : List Int} {n : Nat} (sc : Sc ns) {st : Int} {l t j : Nat} (hj : j < ns.length) : ∃ f, f = famAt ns l st j (ns.take j).sum ∧ 1 ≤ f.long ∧ f.long ≤ 11 ∧
    (strand ns n st l (t * ns.length + j) = (lowT ns n f t, (lowT ns n f t + f.long) % n, (l : Int)) ∨ strand ns n st l (t * ns.length + j) = ((lowT ns n f t + f.long) % n, lowT ns n f t, (l : Int))) := by
  obtain ⟨s1, s2, s3⟩ := sc.st _ (List.getElem_mem hj)
  have eg : ns[j]?.getD 0 = ns[j] := by rw [List.getElem?_eq_getElem hj]; rfl
  have l1 := sc.l1
  refine ⟨_, rfl, ?_, ?_, ?_⟩
  · show 1 ≤ (((ns[j]?.getD 0).natAbs : Nat) : Int)
    rw [eg]
    omega
  · show (((ns[j]?.getD 0).natAbs : Nat) : Int) ≤ 11
    rw [eg]
    omega
  unfold strand lowT
  rw [hereF_succ l1, Nat.mul_comm t, Nat.mul_add_mod, Nat.mod_eq_of_lt hj, Nat.mul_comm _ t]
  unfold hereF
  rw [far_at hj]
  show ((st + (t * ns.sum + (ns.take j).sum)) % n, ((st + (t * ns.sum + (ns.take j).sum)) % n + ns[j]?.getD 0) % n, (l : Int)) = ((st + (ns.take j).sum + min (ns[j]?.getD 0) 0 + t * ns.sum) % n, ((st + (ns.take j).sum + min (ns[j]?.getD 0) 0 + t * ns.sum) % n + ((ns[j]?.getD 0).natAbs : Nat)) % n, (l : Int)) ∨ _ = (((st + (ns.take j).sum + min (ns[j]?.getD 0) 0 + t * ns.sum) % n + ((ns[j]?.getD 0).natAbs : Nat)) % n, (st + (ns.take j).sum + min (ns[j]?.getD 0) 0 + t * ns.sum) % n, (l : Int))
  rw [eg, Int.emod_add_emod, Int.emod_add_emod]
  generalize t * ns.sum = ts
  generalize (ns.take j).sum = o
  rcases Int.lt_or_lt_of_ne s3 with c | c
  · right
    rw [show st + o + min ns[j] 0 + ts = st + (ts + o) + ns[j] from by omega, show st + (ts + o) + ns[j] + (ns[j].natAbs : Nat) = st + (ts + o) from by omega]
  · left
    rw [show st + o + min ns[j] 0 + ts = st + (ts + o) from by omega, show ((ns[j].natAbs : Nat) : Int) = ns[j] from by omega]
theorem low_rng {ns : List Int} {n : Nat} (hn : 0 < n) (f : Fam) (t : Nat) : 0 ≤ lowT ns n f t ∧ lowT ns n f t < n := md _ _ (by omega)
theorem low_mod {ns : List Int} {n : Nat} (f : Fam) (t : Nat) : lowT ns n f t % gcdN ns n = f.low % gcdN ns n := by
  have gn : (gcdN ns n : Int) ∣ n := Int.gcd_dvd_left ..
  obtain ⟨c, hc⟩ : (gcdN ns n : Int) ∣ ns.sum := Int.gcd_dvd_right ..
  unfold lowT
  rw [Int.emod_emod_of_dvd _ gn]
  conv => lhs; rw [hc]
  rw [show f.low + (t : Int) * ((gcdN ns n : Int) * c) = f.low + gcdN ns n * (t * c) from by rw [Int.mul_left_comm], Int.add_mul_emod_self_left]
/-- each peg of the rest is a low end once -/
theorem low_once {ns : List Int} {n : Nat} (sc : Sc ns) (hn : 0 < n) (f : Fam) {x : Int} (x0 : 0 ≤ x) (x1 : x < n) : (List.range (roundsN ns n)).countP (fun t => lowT ns n f t == x) = if (f.low - x) % gcdN ns n == 0 then 1 else 0 := by
  have l1 := sc.l1
  have q := vis_at sc hn (s := f.low) x0 x1 (j := 0) (by omega)
  have e : (fun t : Nat => hereF ns n f.low (t * ns.length + 0) == x) = fun t => lowT ns n f t == x := by
    funext t
    unfold hereF lowT
    rw [far_at (by omega)]
    simp
  rw [e] at q
  rw [q]
  have e2 : ((f.low + (ns.take 0).sum) % gcdN ns n == x % gcdN ns n) = ((f.low - x) % gcdN ns n == 0) := by
    rw [Bool.eq_iff_iff, beq_iff_eq, beq_iff_eq]
    simp only [List.take_zero, List.sum_nil, Int.add_zero]
    exact Int.emod_eq_emod_iff_emod_sub_eq_zero
  rw [e2]
def meetB (n : Int) (x y : Int × Int × Int) : Bool := if (y.1 == x.1 || y.1 == x.2.1) || (y.2.1 == x.1 || y.2.1 == x.2.1) then false else (decide ((y.1 - x.1) % n < (x.2.1 - x.1) % n) != decide ((y.2.1 - x.1) % n < (x.2.1 - x.1) % n))
/-- the second chord begins within the first one and ends behind it -/
def dirB (n a l b m : Int) : Bool := decide (0 < (b - a) % n) && (decide ((b - a) % n < l) && decide (l < (b - a) % n + m))
theorem meet_base {n a l b m i j : Int} (hn : 24 ≤ n) (a0 : 0 ≤ a) (a1 : a < n) (b0 : 0 ≤ b) (b1 : b < n) (l0 : 1 ≤ l) (l1 : l ≤ 11) (m0 : 1 ≤ m) (m1 : m ≤ 11) : meetB n (a, (a + l) % n, i) (b, (b + m) % n, j) = (dirB n a l b m || dirB n b m a l) := by
  have dv := mod_near (x := a + l) (n := n) (by omega) (by omega)
  have dw := mod_near (x := b + m) (n := n) (by omega) (by omega)
  unfold meetB dirB
  simp only []
  generalize (a + l) % n = v at dv ⊢
  generalize (b + m) % n = w at dw ⊢
  have d1 := mod_near (x := b - a) (n := n) (by omega) (by omega)
  have d2 := mod_near (x := v - a) (n := n) (by omega) (by omega)
  have d3 := mod_near (x := w - a) (n := n) (by omega) (by omega)
  have d4 := mod_near (x := a - b) (n := n) (by omega) (by omega)
  generalize (b - a) % n = p at d1 ⊢
  generalize (v - a) % n = q at d2 ⊢
  generalize (w - a) % n = r at d3 ⊢
  generalize (a - b) % n = u at d4 ⊢
  rw [Bool.eq_iff_iff]
  by_cases c : b = a ∨ b = v ∨ w = a ∨ w = v
  · have e : ((b == a || b == v) || (w == a || w == v)) = true := by
      simp only [Bool.or_eq_true, beq_iff_eq]
      omega
    rw [if_pos e]
    simp only [Bool.or_eq_true, Bool.and_eq_true, decide_eq_true_eq, Bool.false_eq_true, false_iff]
    omega
  · have e : ((b == a || b == v) || (w == a || w == v)) = false := by
      rw [Bool.eq_false_iff]
      simp only [ne_eq, Bool.or_eq_true, beq_iff_eq]
      omega
    rw [e]
    simp only [Bool.false_eq_true, if_false, bne_iff_ne, ne_eq, decide_eq_decide, Bool.or_eq_true, Bool.and_eq_true, decide_eq_true_eq]
    omega
theorem meet_turn {n u v : Int} {y : Int × Int × Int} {i j : Int} (u0 : 0 ≤ u) (u1 : u < n) (v0 : 0 ≤ v) (v1 : v < n) (a0 : 0 ≤ y.1) (a1 : y.1 < n) (b0 : 0 ≤ y.2.1) (b1 : y.2.1 < n) (ne : u ≠ v) : meetB n (v, u, i) y = meetB n (u, v, j) y := by
  obtain ⟨a, b, k⟩ := y
  unfold meetB
  simp only [] at a0 a1 b0 b1 ⊢
  have d1 := mod_near (x := a - u) (n := n) (by omega) (by omega)
  have d2 := mod_near (x := b - u) (n := n) (by omega) (by omega)
  have d3 := mod_near (x := a - v) (n := n) (by omega) (by omega)
  have d4 := mod_near (x := b - v) (n := n) (by omega) (by omega)
  have d5 := mod_near (x := v - u) (n := n) (by omega) (by omega)
  have d6 := mod_near (x := u - v) (n := n) (by omega) (by omega)
  generalize (a - u) % n = p1 at d1 ⊢
  generalize (b - u) % n = p2 at d2 ⊢
  generalize (a - v) % n = p3 at d3 ⊢
  generalize (b - v) % n = p4 at d4 ⊢
  generalize (v - u) % n = p5 at d5 ⊢
  generalize (u - v) % n = p6 at d6 ⊢
  have es : ((a == v || a == u) || (b == v || b == u)) = ((a == u || a == v) || (b == u || b == v)) := by
    rw [Bool.or_comm (a == v), Bool.or_comm (b == v)]
  rw [es]
  cases c : ((a == u || a == v) || (b == u || b == v)) with
  | true => rfl
  | false =>
    rw [Bool.eq_false_iff] at c
    simp only [ne_eq, Bool.or_eq_true, beq_iff_eq] at c
    rw [if_neg Bool.false_ne_true, if_neg Bool.false_ne_true, Bool.eq_iff_iff]
    simp only [bne_iff_ne, ne_eq, decide_eq_decide]
    omega
theorem meet_swap {n : Int} {x : Int × Int × Int} {u v i j : Int} : meetB n x (v, u, i) = meetB n x (u, v, j) := by
  unfold meetB
  simp only []
  rw [Bool.or_comm]
  cases (u == x.1 || u == x.2.1) || (v == x.1 || v == x.2.1) with
  | true => rfl
  | false =>
    rw [if_neg Bool.false_ne_true, if_neg Bool.false_ne_true]
    exact bne_comm
end
end Wn

set_option Elab.async false
set_option linter.all false
set_option maxRecDepth 100000
set_option maxHeartbeats 1000000
namespace Wn
open PySem PySem.Spec PyProof.Rows L2
section
variable {A : Str → Addr} {s : Option Addr} {P : D → Prop} {PL : List D → Prop} {EP : Addr → Prop}
/-! ### crossings -/
theorem sum_one {α : Type} (q : α → Bool) : ∀ l : List α, (l.map fun x => if q x then 1 else 0).sum = l.countP q := fun l => sum_ite q l
/-- pairs of places of a list, the first one before the second one -/
def pairN {α : Type} (m : α → α → Bool) : List α → Nat
  | [] => 0
  | x :: l => l.countP (m x) + pairN m l
theorem pair_dir {α : Type} {m d : α → α → Bool} : ∀ l : List α, (∀ x ∈ l, ∀ y ∈ l, m x y = (d x y || d y x)) → (∀ x ∈ l, ∀ y ∈ l, d x y = true → d y x = false) → pairN m l = (l.map fun x => l.countP (d x)).sum
  | [], _, _ => rfl
  | a :: l, h1, h2 => by
    have irr : d a a = false := by
      cases c : d a a with
      | false => rfl
      | true => rw [← c]; exact h2 a (by simp) a (by simp) c
    unfold pairN
    rw [pair_dir l (fun x hx y hy => h1 x (List.mem_cons_of_mem _ hx) y (List.mem_cons_of_mem _ hy)) (fun x hx y hy => h2 x (List.mem_cons_of_mem _ hx) y (List.mem_cons_of_mem _ hy))]
    rw [List.map_cons, List.sum_cons, List.countP_cons, irr]
    have e1 : (l.map fun x => (a :: l).countP (d x)).sum = (l.map fun x => l.countP (d x)).sum + l.countP (fun x => d x a) := by
      rw [← sum_one, ← sum_add]
      refine congrArg List.sum (List.map_congr_left fun x _ => ?_)
      rw [List.countP_cons]
    have e2 : l.countP (m a) = l.countP (d a) + l.countP (fun x => d x a) := by
      rw [← sum_one, ← sum_one, ← sum_one, ← sum_add]
      refine congrArg List.sum (List.map_congr_left fun y hy => ?_)
      have hm := List.mem_cons_of_mem a hy
      rw [h1 a (by simp) y hm]
      cases c : d a y with
      | true => rw [h2 a (by simp) y hm c]; rfl
      | false => cases d y a <;> rfl
    rw [e1, e2]
    simp only [Bool.false_eq_true, if_false]
    omega
/-- a span's low end and its length -/
def loS (n : Int) (x : Int × Int × Int) : Int := if (x.2.1 - x.1) % n ≤ 11 then x.1 else x.2.1
def lnS (n : Int) (x : Int × Int × Int) : Int := if (x.2.1 - x.1) % n ≤ 11 then (x.2.1 - x.1) % n else (x.1 - x.2.1) % n
/-- a span from a low end, of a length, either way -/
structure Arc (n : Int) (a l : Int) (x : Int × Int × Int) : Prop where
  a0 : 0 ≤ a
  a1 : a < n
  l0 : 1 ≤ l
  l1 : l ≤ 11
  e : (x.1 = a ∧ x.2.1 = (a + l) % n) ∨ (x.1 = (a + l) % n ∧ x.2.1 = a)
theorem Arc.lo {n a l : Int} {x : Int × Int × Int} (hn : 24 ≤ n) (h : Arc n a l x) : loS n x = a ∧ lnS n x = l := by
  obtain ⟨a0, a1, l0, l1, e⟩ := h
  have dv := mod_near (x := a + l) (n := n) (by omega) (by omega)
  unfold loS lnS
  rcases e with ⟨e1, e2⟩ | ⟨e1, e2⟩
  · rw [e1, e2]
    generalize (a + l) % n = v at dv ⊢
    have d1 := mod_near (x := v - a) (n := n) (by omega) (by omega)
    generalize (v - a) % n = p at d1 ⊢
    have : p ≤ 11 := by omega
    rw [if_pos this, if_pos this]
    omega
  · rw [e1, e2]
    generalize (a + l) % n = v at dv ⊢
    have d1 := mod_near (x := a - v) (n := n) (by omega) (by omega)
    have d2 := mod_near (x := v - a) (n := n) (by omega) (by omega)
    generalize (a - v) % n = p at d1 ⊢
    generalize (v - a) % n = q at d2 ⊢
    have : ¬ p ≤ 11 := by omega
    rw [if_neg this, if_neg this]
    omega
def dirS (n : Int) (x y : Int × Int × Int) : Bool := dirB n (loS n x) (lnS n x) (loS n y) (lnS n y)
theorem meet_arc {n a l b m : Int} {x y : Int × Int × Int} (hn : 24 ≤ n) (hx : Arc n a l x) (hy : Arc n b m y) : meetB n x y = (dirS n x y || dirS n y x) := by
  unfold dirS
  rw [(hx.lo hn).1, (hx.lo hn).2, (hy.lo hn).1, (hy.lo hn).2]
  obtain ⟨x1, x2, x3⟩ := x
  obtain ⟨y1, y2, y3⟩ := y
  obtain ⟨a0, a1, l0, l1, ex⟩ := hx
  obtain ⟨b0, b1, m0, m1, ey⟩ := hy
  have dv := mod_near (x := a + l) (n := n) (by omega) (by omega)
  have dw := mod_near (x := b + m) (n := n) (by omega) (by omega)
  have base := meet_base (i := x3) (j := y3) hn a0 a1 b0 b1 l0 l1 m0 m1
  simp only [] at ex ey
  rcases ex with ⟨e1, e2⟩ | ⟨e1, e2⟩ <;> rcases ey with ⟨e3, e4⟩ | ⟨e3, e4⟩ <;> rw [e1, e2, e3, e4]
  · exact base
  · rw [meet_swap]
    exact base
  · rw [meet_turn (j := x3) a0 a1 (by omega) (by omega) b0 b1 (by simp only []; omega) (by simp only []; omega) (by omega)]
    exact base
  · rw [meet_swap (j := y3), meet_turn (j := x3) a0 a1 (by omega) (by omega) b0 b1 (by simp only []; omega) (by simp only []; omega) (by omega)]
    exact base
theorem dir_one {n a l b m : Int} {x y : Int × Int × Int} (hn : 24 ≤ n) (hx : Arc n a l x) (hy : Arc n b m y) (h : dirS n x y = true) : dirS n y x = false := by
  unfold dirS at h ⊢
  rw [(hx.lo hn).1, (hx.lo hn).2, (hy.lo hn).1, (hy.lo hn).2] at h ⊢
  obtain ⟨a0, a1, l0, l1, ex⟩ := hx
  obtain ⟨b0, b1, m0, m1, ey⟩ := hy
  unfold dirB at h ⊢
  have d1 := mod_near (x := b - a) (n := n) (by omega) (by omega)
  have d4 := mod_near (x := a - b) (n := n) (by omega) (by omega)
  generalize (b - a) % n = p at d1 h ⊢
  generalize (a - b) % n = u at d4 ⊢
  simp only [Bool.and_eq_true, decide_eq_true_eq] at h
  rw [Bool.eq_false_iff]
  simp only [ne_eq, Bool.and_eq_true, decide_eq_true_eq]
  omega
theorem dir_gaps {n a l b m : Int} (hn : 24 ≤ n) (a0 : 0 ≤ a) (a1 : a < n) (b0 : 0 ≤ b) (b1 : b < n) (l1 : l ≤ 11) : (List.range (l.toNat - 1)).countP (fun k : Nat => (b == (a + (1 + k)) % n) && crossB l m (1 + k)) = if dirB n a l b m then 1 else 0 := by
  unfold dirB crossB
  have d1 := mod_near (x := b - a) (n := n) (by omega) (by omega)
  generalize (b - a) % n = p at d1 ⊢
  cases c : (decide (0 < p) && (decide (p < l) && decide (l < p + m))) with
  | true =>
    simp only [Bool.and_eq_true, decide_eq_true_eq] at c
    rw [if_pos rfl]
    refine countP_one (t := (p - 1).toNat) (by omega) ?_ fun t' ht h => ?_
    · have d2 := mod_near (x := a + (1 + ((p - 1).toNat : Nat))) (n := n) (by omega) (by omega)
      simp only [Bool.and_eq_true, decide_eq_true_eq, beq_iff_eq]
      generalize (a + (1 + ((p - 1).toNat : Int))) % n = q at d2 ⊢
      omega
    · have d2 := mod_near (x := a + (1 + (t' : Int))) (n := n) (by omega) (by omega)
      simp only [Bool.and_eq_true, decide_eq_true_eq, beq_iff_eq] at h
      generalize (a + (1 + (t' : Int))) % n = q at d2 h
      omega
  | false =>
    rw [if_neg Bool.false_ne_true]
    refine List.countP_eq_zero.mpr fun k hk h => ?_
    have hk := List.mem_range.mp hk
    rw [Bool.eq_false_iff] at c
    have d2 := mod_near (x := a + (1 + (k : Int))) (n := n) (by omega) (by omega)
    simp only [Bool.and_eq_true, decide_eq_true_eq, beq_iff_eq, ne_eq] at h c
    generalize (a + (1 + (k : Int))) % n = q at d2 h
    omega
theorem sum_const {α : Type} (c : Nat) : ∀ l : List α, (l.map fun _ => c).sum = l.length * c
  | [] => by simp
  | x :: l => by
    rw [List.map_cons, List.sum_cons, sum_const c l, List.length_cons, Nat.succ_mul]
    omega
theorem sum_mul {α : Type} (f : α → Nat) (c : Nat) : ∀ l : List α, (l.map fun x => c * f x).sum = c * (l.map f).sum
  | [] => by simp
  | x :: l => by
    rw [List.map_cons, List.sum_cons, sum_mul f c l, List.map_cons, List.sum_cons, Nat.mul_add]
theorem strand_arc {ns : List Int} {n : Nat} (sc : Sc ns) (hn : 0 < n) {st : Int} {l t j : Nat} (hj : j < ns.length) : Arc n (lowT ns n (famAt ns l st j (ns.take j).sum) t) (famAt ns l st j (ns.take j).sum).long (strand ns n st l (t * ns.length + j)) := by
  obtain ⟨f, ef, l0, l1, h⟩ := strand_at (n := n) (st := st) (l := l) (t := t) sc hj
  subst ef
  obtain ⟨r0, r1⟩ := low_rng (ns := ns) (n := n) hn (famAt ns l st j (ns.take j).sum) t
  refine ⟨r0, r1, l0, l1, ?_⟩
  rcases h with h | h
  · rw [h]
    exact .inl ⟨rfl, rfl⟩
  · rw [h]
    exact .inr ⟨rfl, rfl⟩
theorem wound_arc {ns : List Int} {n : Nat} (sc : Sc ns) (hn : 0 < n) {x : Int × Int × Int} (hx : x ∈ woundL ns n) : ∃ a l, Arc n a l x := by
  unfold woundL woundTo at hx
  obtain ⟨i, _, e⟩ := List.mem_map.mp hx
  have l1 := sc.l1
  have q := strand_arc (l := i / sizeN ns n) (st := (startsL ns (gcdN ns n))[i / sizeN ns n]?.getD 0) (t := (i % sizeN ns n) / ns.length) sc hn (Nat.mod_lt (i % sizeN ns n) l1)
  rw [Nat.div_add_mod'] at q
  subst e
  exact ⟨_, _, q⟩
/-- the spans of a family that one span crosses, the other one's low end behind its own -/
theorem cross_fam {ns : List Int} {n : Nat} (sc : Sc ns) (hn : 24 ≤ n) {a l : Int} {x : Int × Int × Int} (hx : Arc n a l x) {st : Int} {i j : Nat} (hj : j < ns.length) : ((List.range (roundsN ns n)).map fun t => if dirS n x (strand ns n st i (t * ns.length + j)) then 1 else 0).sum = (List.range (l.toNat - 1)).countP fun k : Nat => (a + (1 + k) - (famAt ns i st j (ns.take j).sum).low) % gcdN ns n == 0 && crossB l (famAt ns i st j (ns.take j).sum).long (1 + k) := by
  have e1 : ∀ t, (if dirS n x (strand ns n st i (t * ns.length + j)) then 1 else 0) = ((List.range (l.toNat - 1)).map fun k : Nat => if (lowT ns n (famAt ns i st j (ns.take j).sum) t == (a + (1 + k)) % n) && crossB l (famAt ns i st j (ns.take j).sum).long (1 + k) then 1 else 0).sum := by
    intro t
    have q := strand_arc (st := st) (l := i) (t := t) sc (show 0 < n by omega) hj
    rw [sum_one, dir_gaps (by omega) hx.a0 hx.a1 q.a0 q.a1 hx.l1]
    unfold dirS
    rw [(hx.lo (by omega)).1, (hx.lo (by omega)).2, (q.lo (by omega)).1, (q.lo (by omega)).2]
  rw [List.map_congr_left fun t _ => e1 t, sum_comm, ← sum_one]
  refine congrArg List.sum (List.map_congr_left fun k _ => ?_)
  generalize famAt ns i st j (ns.take j).sum = f
  cases crossB l f.long (1 + k) with
  | false =>
    simp only [Bool.and_false, Bool.false_eq_true, if_false]
    rw [sum_const, Nat.mul_zero]
  | true =>
    simp only [Bool.and_true]
    obtain ⟨m0, m1⟩ := md (a + (1 + (k : Int))) n (by omega)
    rw [sum_one, low_once sc (by omega) f m0 m1]
    have gn : (gcdN ns n : Int) ∣ n := Int.gcd_dvd_left ..
    have e : ((f.low - (a + (1 + (k : Int))) % n) % gcdN ns n == 0) = ((a + (1 + (k : Int)) - f.low) % gcdN ns n == 0) := by
      rw [Bool.eq_iff_iff, beq_iff_eq, beq_iff_eq, ← Int.emod_eq_emod_iff_emod_sub_eq_zero, ← Int.emod_eq_emod_iff_emod_sub_eq_zero, Int.emod_emod_of_dvd _ gn]
      exact ⟨Eq.symm, Eq.symm⟩
    rw [e]
theorem cross_total {ns : List Int} {n : Nat} (sc : Sc ns) (hn : 24 ≤ n) : pairN (meetB n) (woundL ns n) = crossN ns (gcdN ns n) * (n / gcdN ns n) := by
  rw [pair_dir (d := dirS n) (woundL ns n) (fun x hx y hy => ?_) fun x hx y hy => ?_]
  · have e : ∀ {a l : Int} {x : Int × Int × Int}, Arc n a l x → (woundL ns n).countP (dirS n x) = ((famL ns (gcdN ns n)).map fun g => (List.range (l.toNat - 1)).countP fun k : Nat => (a + (1 + k) - g.low) % gcdN ns n == 0 && crossB l g.long (1 + k)).sum := by
      intro a l x hx
      rw [← sum_one]
      exact wound_sum (fun y => if dirS n x y then 1 else 0) _ fun st l j hj => cross_fam sc hn hx hj
    rw [wound_sum (ns := ns) (n := n) (fun x => (woundL ns n).countP (dirS n x)) (fun f => roundsN ns n * ((famL ns (gcdN ns n)).map fun g => hits (gcdN ns n) f g).sum) fun st l j hj => ?_]
    · rw [sum_mul, Nat.mul_comm]
      rfl
    · rw [List.map_congr_left (g := fun _ => ((famL ns (gcdN ns n)).map fun g => hits (gcdN ns n) (famAt ns l st j (ns.take j).sum) g).sum) fun t _ => ?_]
      · rw [sum_const, List.length_range]
      · rw [e (strand_arc sc (by omega) hj)]
        refine congrArg List.sum (List.map_congr_left fun g _ => ?_)
        unfold hits hitB
        refine congrArg (fun q => List.countP q _) (funext fun k => ?_)
        have m := low_mod (ns := ns) (n := n) (famAt ns l st j (ns.take j).sum) t
        congr 2
        rw [Int.sub_emod, Int.add_emod, m, ← Int.add_emod, ← Int.sub_emod]
  · obtain ⟨a, l, ax⟩ := wound_arc sc (by omega) hx
    obtain ⟨b, m, ay⟩ := wound_arc sc (by omega) hy
    exact meet_arc (by omega) ax ay
  · obtain ⟨a, l, ax⟩ := wound_arc sc (by omega) hx
    obtain ⟨b, m, ay⟩ := wound_arc sc (by omega) hy
    exact dir_one (by omega) ax ay
end
end Wn

set_option Elab.async false
set_option linter.all false
set_option maxRecDepth 100000
set_option maxHeartbeats 1000000
namespace Wn
open PySem PySem.Spec PyProof.Rows L2
theorem minOf_mem {xs : List Int} (h : xs ≠ []) : minOf xs ∈ xs := by
  unfold minOf
  cases e : xs.min? with
  | none => exact absurd (List.min?_eq_none_iff.mp e) h
  | some m => exact (List.min?_eq_some_iff.mp e).1
def gl (lab : List Int) (r : Nat) : Int := lab[r]?.getD 0
theorem gl_step {ns : List Int} {p : Nat} {lab : List Int} {st : Int} {r : Nat} (hr : r < lab.length) : gl (labStep ns p lab st) r = if (labSome ns p lab st).any (· == gl lab r) then minOf (labSome ns p lab st) else gl lab r := by
  unfold gl labStep
  rw [List.getElem?_map, List.getElem?_eq_getElem hr]
  rfl
theorem gl_keep (ns : List Int) (p : Nat) {r q : Nat} : ∀ (ss lab : List Int), r < lab.length → q < lab.length → gl lab r = gl lab q → gl (ss.foldl (labStep ns p) lab) r = gl (ss.foldl (labStep ns p) lab) q
  | [], _, _, _, h => h
  | st :: ss, lab, hr, hq, h => by
    rw [List.foldl_cons]
    exact gl_keep ns p ss _ (by rw [labStep_len]; exact hr) (by rw [labStep_len]; exact hq) (by rw [gl_step hr, gl_step hq, h])
theorem any_eq {xs : List Int} {m : Int} (h : m ∈ xs) : (xs.any fun x => x == m) = true := List.any_eq_true.mpr ⟨m, h, beq_self_eq_true m⟩
theorem some_mem {ns : List Int} {p : Nat} {lab : List Int} {st o : Int} (ho : o ∈ offs ns) : gl lab ((st + o) % p).toNat ∈ labSome ns p lab st := List.mem_map.mpr ⟨o, ho, rfl⟩
theorem gl_row (ns : List Int) {p : Nat} (hp : 0 < p) {st o o' : Int} (ho : o ∈ offs ns) (ho' : o' ∈ offs ns) : ∀ (ss lab : List Int), lab.length = p → st ∈ ss → gl (ss.foldl (labStep ns p) lab) ((st + o) % p).toNat = gl (ss.foldl (labStep ns p) lab) ((st + o') % p).toNat
  | [], _, _, h => absurd h List.not_mem_nil
  | a :: ss, lab, hl, h => by
    rw [List.foldl_cons]
    obtain ⟨m0, m1⟩ := md (st + o) p (by omega)
    obtain ⟨k0, k1⟩ := md (st + o') p (by omega)
    rcases List.mem_cons.mp h with e | e
    · subst e
      refine gl_keep ns p ss _ (by rw [labStep_len]; omega) (by rw [labStep_len]; omega) ?_
      rw [gl_step (by omega), gl_step (by omega), any_eq (some_mem ho), any_eq (some_mem ho')]
      rfl
    · exact gl_row ns hp ho ho' ss _ (by rw [labStep_len]; exact hl) e
theorem wound_mem {ns : List Int} {n : Nat} (hS : 0 < sizeN ns n) {x : Int × Int × Int} : x ∈ woundL ns n ↔ ∃ t k, t < (startsL ns (gcdN ns n)).length ∧ k < sizeN ns n ∧ x = strand ns n ((startsL ns (gcdN ns n))[t]?.getD 0) t k := by
  unfold woundL woundTo
  rw [List.mem_map]
  constructor
  · rintro ⟨i, hi, e⟩
    have hi := List.mem_range.mp hi
    exact ⟨i / sizeN ns n, i % sizeN ns n, (Nat.div_lt_iff_lt_mul hS).mpr hi, Nat.mod_lt _ hS, e.symm⟩
  · rintro ⟨t, k, ht, hk, e⟩
    refine ⟨t * sizeN ns n + k, List.mem_range.mpr ?_, by rw [woundF_at hk, e]⟩
    have := Nat.mul_le_mul_right (sizeN ns n) (show t + 1 ≤ (startsL ns (gcdN ns n)).length by omega)
    rw [Nat.add_mul] at this
    omega
theorem start_at {ns : List Int} {p : Nat} {st : Int} (h : st ∈ startsL ns p) : ∃ t, t < (startsL ns p).length ∧ (startsL ns p)[t]?.getD 0 = st := by
  obtain ⟨t, ht, e⟩ := List.mem_iff_getElem.mp h
  exact ⟨t, ht, by rw [List.getElem?_eq_getElem ht]; exact e⟩
/-- a strand holds together -/
theorem conn_row {ns : List Int} {n : Nat} (sc : Sc ns) (hn : 0 < n) {st z : Int} (hs : st ∈ startsL ns (gcdN ns n)) (z0 : 0 ≤ z) (z1 : z < n) (h : ∃ o ∈ offs ns, (st + o) % gcdN ns n = z % gcdN ns n) : Conn (woundL ns n) st z := by
  have S0 := sizeN_pos sc hn
  have gn := gcd_le_n (ns := ns) (n := n) (by omega)
  obtain ⟨t, ht, e⟩ := start_at hs
  obtain ⟨k, hk, ek⟩ := startsL_get ht
  have key : ∀ i, i ≤ sizeN ns n → Conn (woundL ns n) st (hereF ns n st i) := by
    intro i
    induction i with
    | zero =>
      intro _
      rw [← e, ek, hereF_zero sc.l1 (by omega)]
      exact .refl _
    | succ i ih =>
      intro hi
      refine .trans (ih (by omega)) (.edge (strand ns n st t i) ?_)
      rw [← e]
      exact (wound_mem S0).mpr ⟨t, i, ht, by omega, rfl⟩
  obtain ⟨o, ho, eo⟩ := h
  obtain ⟨i, hi, ei⟩ := (vis sc hn (s := st) z0 z1).mpr (List.any_eq_true.mpr ⟨o, ho, by rw [eo]; exact beq_self_eq_true _⟩)
  rw [← ei]
  exact key (i + 1) (by omega)
/-- where a strand comes to, by rests -/
theorem row_of {ns : List Int} {n : Nat} (sc : Sc ns) (hn : 0 < n) {st : Int} {k : Nat} (hk : k ≤ sizeN ns n) : ∃ o ∈ offs ns, (st + o) % gcdN ns n = hereF ns n st k % gcdN ns n := by
  have S0 := sizeN_pos sc hn
  obtain ⟨r0, r1⟩ := hereF_rng (ns := ns) hn st k
  have : ∃ i, i < sizeN ns n ∧ hereF ns n st (i + 1) = hereF ns n st k := by
    cases k with
    | zero =>
      refine ⟨sizeN ns n - 1, by omega, ?_⟩
      rw [show sizeN ns n - 1 + 1 = sizeN ns n from by omega, hereF_size sc.l1]
      unfold hereF
      have l1 := sc.l1
      have := far_at (ns := ns) (t := 0) (j := 0) (by omega)
      rw [Nat.zero_mul, Nat.add_zero] at this
      rw [this]
      simp
    | succ k => exact ⟨k, by omega, rfl⟩
  obtain ⟨o, ho, e⟩ := List.any_eq_true.mp ((vis sc hn r0 r1).mp this)
  exact ⟨o, ho, beq_iff_eq.mp e⟩
theorem start_cov {ns : List Int} {p : Nat} (l1 : 1 ≤ ns.length) {z : Int} (hp : 0 < p) : ∃ st ∈ startsL ns p, ∃ o ∈ offs ns, (st + o) % p = z % p := by
  obtain ⟨m0, m1⟩ := md z p (by omega)
  have := cov_full (ns := ns) (p := p) l1 (k := (z % p).toNat) (by omega)
  unfold cov at this
  obtain ⟨st, hs, h⟩ := List.any_eq_true.mp this
  obtain ⟨o, ho, e⟩ := List.any_eq_true.mp h
  exact ⟨st, hs, o, ho, by rw [beq_iff_eq.mp e]; omega⟩
/-- pegs with these rests hang together -/
def RestConn (ns : List Int) (n : Nat) (r q : Nat) : Prop := ∀ y z : Int, 0 ≤ y → y < n → 0 ≤ z → z < n → (y % gcdN ns n).toNat = r → (z % gcdN ns n).toNat = q → Conn (woundL ns n) y z
theorem RestConn.symm {ns : List Int} {n r q : Nat} (h : RestConn ns n r q) : RestConn ns n q r := fun y z a b c d e f => .symm (h z y c d a b f e)
theorem RestConn.trans {ns : List Int} {n r q u : Nat} (hq : q < gcdN ns n) (gn : (gcdN ns n : Int) ≤ n) (h : RestConn ns n r q) (h2 : RestConn ns n q u) : RestConn ns n r u := fun y z a b c d e f =>
  have m : ((q : Int) % (gcdN ns n : Int)).toNat = q := by rw [Int.emod_eq_of_lt (by omega) (by omega)]; omega
  .trans (h y q a b (by omega) (by omega) e m) (h2 q z (by omega) (by omega) c d m f)
theorem rest_row {ns : List Int} {n : Nat} (sc : Sc ns) (hn : 0 < n) {st o o' : Int} (hs : st ∈ startsL ns (gcdN ns n)) (ho : o ∈ offs ns) (ho' : o' ∈ offs ns) : RestConn ns n ((st + o) % gcdN ns n).toNat ((st + o') % gcdN ns n).toNat := fun y z a b c d e f => by
  have g0 := sc.g1 n
  have m1 := md (st + o) (gcdN ns n) (by omega)
  have m2 := md (st + o') (gcdN ns n) (by omega)
  have m3 := md y (gcdN ns n) (by omega)
  have m4 := md z (gcdN ns n) (by omega)
  exact .trans (.symm (conn_row sc hn hs a b ⟨o, ho, by omega⟩)) (conn_row sc hn hs c d ⟨o', ho', by omega⟩)
theorem rest_same {ns : List Int} {n : Nat} (sc : Sc ns) (hn : 0 < n) (r : Nat) : RestConn ns n r r := fun y z a b c d e f => by
  have g0 := sc.g1 n
  obtain ⟨st, hs, o, ho, q⟩ := start_cov (ns := ns) (p := gcdN ns n) sc.l1 (z := y) (by omega)
  have m3 := md y (gcdN ns n) (by omega)
  have m4 := md z (gcdN ns n) (by omega)
  exact .trans (.symm (conn_row sc hn hs a b ⟨o, ho, q⟩)) (conn_row sc hn hs c d ⟨o, ho, by omega⟩)
theorem lab_conn {ns : List Int} {n : Nat} (sc : Sc ns) (hn : 0 < n) : ∀ (ss lab : List Int), (∀ st ∈ ss, st ∈ startsL ns (gcdN ns n)) → lab.length = gcdN ns n → (∀ r q, r < gcdN ns n → q < gcdN ns n → gl lab r = gl lab q → RestConn ns n r q) → ∀ r q, r < gcdN ns n → q < gcdN ns n → gl (ss.foldl (labStep ns (gcdN ns n)) lab) r = gl (ss.foldl (labStep ns (gcdN ns n)) lab) q → RestConn ns n r q
  | [], _, _, _, h => h
  | st :: ss, lab, hs, hl, h => by
    rw [List.foldl_cons]
    refine lab_conn sc hn ss _ (fun x hx => hs x (List.mem_cons_of_mem _ hx)) (by rw [labStep_len]; exact hl) fun r q hr hq e => ?_
    rw [gl_step (by omega), gl_step (by omega)] at e
    have gn := gcd_le_n (ns := ns) (n := n) (by omega)
    have hst := hs st (List.mem_cons_self ..)
    have ne : labSome ns (gcdN ns n) lab st ≠ [] := by
      intro z
      have : (labSome ns (gcdN ns n) lab st).length = ns.length := by unfold labSome; rw [List.length_map, offs_len]
      rw [z] at this
      have := sc.l1
      simp at *
      omega
    have mm := minOf_mem ne
    have to : ∀ u, u < gcdN ns n → (labSome ns (gcdN ns n) lab st).any (· == gl lab u) = true → ∃ o ∈ offs ns, RestConn ns n u ((st + o) % gcdN ns n).toNat := by
      intro u hu hy
      obtain ⟨w, hw, ew⟩ := List.any_eq_true.mp hy
      obtain ⟨o, ho, eo⟩ := List.mem_map.mp hw
      have m1 := md (st + o) (gcdN ns n) (by omega)
      exact ⟨o, ho, h u _ hu (by omega) (by rw [← beq_iff_eq.mp ew, ← eo]; rfl)⟩
    cases c1 : (labSome ns (gcdN ns n) lab st).any (· == gl lab r) with
    | true =>
      cases c2 : (labSome ns (gcdN ns n) lab st).any (· == gl lab q) with
      | true =>
        obtain ⟨o, ho, h1⟩ := to r hr c1
        obtain ⟨o', ho', h2⟩ := to q hq c2
        have m1 := md (st + o) (gcdN ns n) (by omega)
        have m2 := md (st + o') (gcdN ns n) (by omega)
        exact .trans (by omega) gn h1 (.trans (by omega) gn (rest_row sc hn hst ho ho') h2.symm)
      | false =>
        rw [c1, c2] at e
        have e : minOf (labSome ns (gcdN ns n) lab st) = gl lab q := e
        rw [e] at mm
        exact absurd (any_eq mm) (by rw [c2]; decide)
    | false =>
      cases c2 : (labSome ns (gcdN ns n) lab st).any (· == gl lab q) with
      | true =>
        rw [c1, c2] at e
        have e : gl lab r = minOf (labSome ns (gcdN ns n) lab st) := e
        rw [← e] at mm
        exact absurd (any_eq mm) (by rw [c1]; decide)
      | false =>
        rw [c1, c2] at e
        exact h r q hr hq e
def sameB (ns : List Int) (p : Nat) (i j : Int) : Bool := (labL ns p)[(i % p).toNat]?.getD 0 == (labL ns p)[(j % p).toNat]?.getD 0
theorem same_conn {ns : List Int} {n : Nat} (sc : Sc ns) (hn : 0 < n) {i j : Int} (i0 : 0 ≤ i) (i1 : i < n) (j0 : 0 ≤ j) (j1 : j < n) (h : sameB ns (gcdN ns n) i j = true) : Conn (woundL ns n) i j := by
  have g0 := sc.g1 n
  have m3 := md i (gcdN ns n) (by omega)
  have m4 := md j (gcdN ns n) (by omega)
  refine lab_conn sc hn (startsL ns (gcdN ns n)) ((List.range (gcdN ns n)).map fun (k : Nat) => (k : Int)) (fun _ h => h) (by simp) (fun r q hr hq e => ?_) (i % gcdN ns n).toNat (j % gcdN ns n).toNat (by omega) (by omega) (beq_iff_eq.mp h) i j i0 i1 j0 j1 rfl rfl
  unfold gl at e
  rw [List.getElem?_map, List.getElem?_map, List.getElem?_range hr, List.getElem?_range hq] at e
  have e : (r : Int) = q := e
  have e : r = q := by omega
  subst e
  exact rest_same sc hn r
theorem conn_same {ns : List Int} {n : Nat} (sc : Sc ns) (hn : 0 < n) {i j : Int} (h : Conn (woundL ns n) i j) : sameB ns (gcdN ns n) i j = true := by
  have g0 := sc.g1 n
  have S0 := sizeN_pos sc hn
  refine beq_iff_eq.mpr ?_
  induction h with
  | refl a => rfl
  | symm _ ih => exact ih.symm
  | trans _ _ ih1 ih2 => exact ih1.trans ih2
  | edge x hx =>
    obtain ⟨t, k, ht, hk, e⟩ := (wound_mem S0).mp hx
    subst e
    generalize es : (startsL ns (gcdN ns n))[t]?.getD 0 = st
    have hs : st ∈ startsL ns (gcdN ns n) := by
      rw [← es, List.getElem?_eq_getElem ht]
      exact List.getElem_mem ht
    obtain ⟨o, ho, e1⟩ := row_of sc hn (st := st) (k := k) (by omega)
    obtain ⟨o', ho', e2⟩ := row_of sc hn (st := st) (k := k + 1) (by omega)
    unfold strand
    simp only []
    rw [← e1, ← e2]
    exact gl_row ns g0 ho ho' (startsL ns (gcdN ns n)) ((List.range (gcdN ns n)).map fun (k : Nat) => (k : Int)) (by simp) hs
end Wn

set_option Elab.async false
set_option linter.all false
set_option maxRecDepth 100000
set_option maxHeartbeats 1000000
namespace Wn
open PySem PySem.Spec PyProof.Rows L2
section
variable {A : Str → Addr} {s : Option Addr} {P : D → Prop} {PL : List D → Prop} {EP : Addr → Prop}
/-! ### chords, parts, lengths -/
def endsI (x : Int × Int × Int) : List Int := if x.1 < x.2.1 then [x.1, x.2.1] else [x.2.1, x.1]
def arcE (n a l : Int) : List Int := if a < (a + l) % n then [a, (a + l) % n] else [(a + l) % n, a]
theorem Arc.ends {n a l : Int} {x : Int × Int × Int} (hn : 24 ≤ n) (h : Arc n a l x) : endsI x = arcE n a l := by
  obtain ⟨a0, a1, l0, l1, e⟩ := h
  have dv := mod_near (x := a + l) (n := n) (by omega) (by omega)
  unfold endsI arcE
  rcases e with ⟨e1, e2⟩ | ⟨e1, e2⟩
  · rw [e1, e2]
  · rw [e1, e2]
    generalize (a + l) % n = v at dv ⊢
    by_cases c : a < v
    · rw [if_pos c, if_neg (by omega)]
    · rw [if_neg c, if_pos (by omega)]
theorem arc_inj {n a l b m : Int} (hn : 24 ≤ n) (a0 : 0 ≤ a) (a1 : a < n) (b0 : 0 ≤ b) (b1 : b < n) (l0 : 1 ≤ l) (l1 : l ≤ 11) (m0 : 1 ≤ m) (m1 : m ≤ 11) (h : arcE n a l = arcE n b m) : a = b ∧ l = m := by
  have dv := mod_near (x := a + l) (n := n) (by omega) (by omega)
  have dw := mod_near (x := b + m) (n := n) (by omega) (by omega)
  unfold arcE at h
  generalize (a + l) % n = v at dv h
  generalize (b + m) % n = w at dw h
  by_cases c : a < v <;> by_cases d : b < w
  · rw [if_pos c, if_pos d] at h
    simp only [List.cons.injEq, and_true] at h
    omega
  · rw [if_pos c, if_neg d] at h
    simp only [List.cons.injEq, and_true] at h
    omega
  · rw [if_neg c, if_pos d] at h
    simp only [List.cons.injEq, and_true] at h
    omega
  · rw [if_neg c, if_neg d] at h
    simp only [List.cons.injEq, and_true] at h
    omega
def endsL (ns : List Int) (n : Nat) : List (List Int) := (woundL ns n).map endsI
def chordM (ns : List Int) (n : Nat) : List (List Int) := (ddL (chordK ns (gcdN ns n))).flatMap fun c => (List.range (n / gcdN ns n)).map fun t : Nat => arcE n (c[0]?.getD 0 + (gcdN ns n : Int) * (t : Int)) (c[1]?.getD 0)
theorem famL_span {ns : List Int} {p : Nat} {f : Fam} (h : f ∈ famL ns p) : ∃ i j : Nat, i < (startsL ns p).length ∧ j < ns.length ∧ f = famAt ns i ((startsL ns p)[i]?.getD 0) j (ns.take j).sum := by
  obtain ⟨i, j, s, o, hi, ho, hj, e⟩ := famTo_mem h
  have ei : (startsL ns p)[i]?.getD 0 = s := by rw [hi]; rfl
  have eo : o = (ns.take j).sum := by rw [← offs_get hj, ho]; rfl
  exact ⟨i, j, (List.getElem?_eq_some_iff.mp hi).1, hj, by rw [ei, ← eo]; exact e⟩
theorem famL_mem {ns : List Int} {p i j : Nat} (hi : i < (startsL ns p).length) (hj : j < ns.length) : famAt ns i ((startsL ns p)[i]?.getD 0) j (ns.take j).sum ∈ famL ns p := by
  unfold famL famTo
  refine List.mem_flatMap.mpr ⟨((startsL ns p)[i]?.getD 0, i), ?_, List.mem_map.mpr ⟨((ns.take j).sum, j), ?_, rfl⟩⟩
  · refine List.mem_iff_getElem?.mpr ⟨i, ?_⟩
    rw [List.getElem?_zipIdx, List.getElem?_eq_getElem hi]
    simp
  · refine List.mem_iff_getElem?.mpr ⟨j, ?_⟩
    have e := offs_get hj
    have hj' : j < (offs ns).length := by rw [offs_len]; exact hj
    rw [List.getElem?_eq_getElem hj'] at e
    rw [List.getElem?_zipIdx, List.getElem?_eq_getElem hj']
    simp only [Option.getD_some] at e
    simp [e]
/-- a span's place: which loop, which round, which step -/
theorem wound_place {ns : List Int} {n : Nat} (sc : Sc ns) (hn : 0 < n) {x : Int × Int × Int} : x ∈ woundL ns n ↔ ∃ i t j, i < (startsL ns (gcdN ns n)).length ∧ t < roundsN ns n ∧ j < ns.length ∧ x = strand ns n ((startsL ns (gcdN ns n))[i]?.getD 0) i (t * ns.length + j) := by
  have l1 := sc.l1
  rw [wound_mem (sizeN_pos sc hn)]
  have e1 : sizeN ns n = roundsN ns n * ns.length := Nat.mul_comm ..
  constructor
  · rintro ⟨i, k, hi, hk, e⟩
    refine ⟨i, k / ns.length, k % ns.length, hi, (Nat.div_lt_iff_lt_mul (by omega)).mpr (by omega), Nat.mod_lt _ (by omega), ?_⟩
    rw [Nat.div_add_mod']
    exact e
  · rintro ⟨i, t, j, hi, ht, hj, e⟩
    refine ⟨i, t * ns.length + j, hi, ?_, e⟩
    have := Nat.mul_le_mul_right ns.length (show t + 1 ≤ roundsN ns n by omega)
    rw [Nat.add_mul] at this
    omega
theorem chordK_mem {ns : List Int} {p : Nat} {c : List Int} : c ∈ chordK ns p ↔ ∃ f ∈ famL ns p, c = [f.low % p, f.long] := by
  unfold chordK
  rw [List.mem_map]
  exact ⟨fun ⟨f, h, e⟩ => ⟨f, h, e.symm⟩, fun ⟨f, h, e⟩ => ⟨f, h, e.symm⟩⟩
theorem ends_mem {ns : List Int} {n : Nat} (sc : Sc ns) (hn : 24 ≤ n) (y : List Int) : y ∈ endsL ns n ↔ y ∈ chordM ns n := by
  have g0 := sc.g1 n
  have gd : gcdN ns n ∣ n := Int.natCast_dvd_natCast.mp (Int.gcd_dvd_left ..)
  have er : n / gcdN ns n * gcdN ns n = n := Nat.div_mul_cancel gd
  unfold endsL chordM
  rw [List.mem_map, List.mem_flatMap]
  constructor
  · rintro ⟨x, hx, e⟩
    obtain ⟨i, t, j, hi, ht, hj, ex⟩ := (wound_place sc (by omega)).mp hx
    have q := strand_arc (n := n) (st := (startsL ns (gcdN ns n))[i]?.getD 0) (l := i) (t := t) sc (by omega) hj
    rw [← ex] at q
    have m := low_mod (ns := ns) (n := n) (famAt ns i ((startsL ns (gcdN ns n))[i]?.getD 0) j (ns.take j).sum) t
    have hf := famL_mem (ns := ns) hi hj
    generalize famAt ns i ((startsL ns (gcdN ns n))[i]?.getD 0) j (ns.take j).sum = f at q m hf
    refine ⟨[f.low % gcdN ns n, f.long], mem_ddL.mpr (chordK_mem.mpr ⟨f, hf, rfl⟩), List.mem_map.mpr ⟨((lowT ns n f t) / gcdN ns n).toNat, List.mem_range.mpr ?_, ?_⟩⟩
    · have a0 := q.a0
      have a1 := q.a1
      have d0 := Int.ediv_nonneg a0 (show (0 : Int) ≤ gcdN ns n by omega)
      have d1 : lowT ns n f t / gcdN ns n < (n / gcdN ns n : Nat) := Int.ediv_lt_of_lt_mul (by omega) (by rw [← Int.natCast_mul, er]; exact a1)
      omega
    · have a0 := q.a0
      have d0 := Int.ediv_nonneg a0 (show (0 : Int) ≤ gcdN ns n by omega)
      rw [← e, q.ends (by omega), Int.toNat_of_nonneg d0]
      show arcE n (f.low % gcdN ns n + gcdN ns n * (lowT ns n f t / gcdN ns n)) f.long = _
      rw [← m, Int.emod_add_mul_ediv]
  · rintro ⟨c, hc, hy⟩
    obtain ⟨f, hf, ec⟩ := chordK_mem.mp (mem_ddL.mp hc)
    obtain ⟨t, ht, e⟩ := List.mem_map.mp hy
    have ht := List.mem_range.mp ht
    subst ec
    obtain ⟨i, j, hi, hj, ef⟩ := famL_span hf
    obtain ⟨m0, m1⟩ := md f.low (gcdN ns n) (by omega)
    have tr : (gcdN ns n : Int) * ((t : Int) + 1) ≤ n := by
      have := Nat.mul_le_mul_left (gcdN ns n) (show t + 1 ≤ n / gcdN ns n by omega)
      rw [Nat.mul_comm _ (n / gcdN ns n), er] at this
      have h2 : ((gcdN ns n * (t + 1) : Nat) : Int) ≤ n := by omega
      rwa [Int.natCast_mul] at h2
    have tn : (0 : Int) ≤ (gcdN ns n : Int) * t := Int.mul_nonneg (by omega) (by omega)
    rw [Int.mul_add, Int.mul_one] at tr
    have e' : arcE n (f.low % gcdN ns n + gcdN ns n * t) f.long = y := e
    have lo := low_once (ns := ns) (n := n) sc (by omega) f (x := f.low % gcdN ns n + gcdN ns n * t) (by omega) (by omega)
    rw [show (f.low - (f.low % gcdN ns n + gcdN ns n * t)) % gcdN ns n == 0 from by
      rw [beq_iff_eq, ← Int.emod_eq_emod_iff_emod_sub_eq_zero, Int.add_mul_emod_self_left, Int.emod_emod]] at lo
    obtain ⟨t', ht', et⟩ := List.countP_pos_iff.mp (show 0 < (List.range (roundsN ns n)).countP fun t' => lowT ns n f t' == f.low % gcdN ns n + gcdN ns n * t by rw [lo]; decide)
    have et := beq_iff_eq.mp et
    have q := strand_arc (n := n) (st := (startsL ns (gcdN ns n))[i]?.getD 0) (l := i) (t := t') sc (by omega) hj
    rw [← ef, et] at q
    exact ⟨_, (wound_place sc (by omega)).mpr ⟨i, t', j, hi, List.mem_range.mp ht', hj, rfl⟩, by rw [q.ends (by omega)]; exact e'⟩
theorem chordM_nodup {ns : List Int} {n : Nat} (sc : Sc ns) (hn : 24 ≤ n) : (chordM ns n).Nodup := by
  have g0 := sc.g1 n
  have gd : gcdN ns n ∣ n := Int.natCast_dvd_natCast.mp (Int.gcd_dvd_left ..)
  have er : n / gcdN ns n * gcdN ns n = n := Nat.div_mul_cancel gd
  have good : ∀ c ∈ ddL (chordK ns (gcdN ns n)), ∀ t : Nat, t < n / gcdN ns n → ∃ r l : Int, c = [r, l] ∧ 0 ≤ r ∧ r < gcdN ns n ∧ 1 ≤ l ∧ l ≤ 11 ∧ 0 ≤ r + gcdN ns n * (t : Int) ∧ r + gcdN ns n * (t : Int) < n := by
    intro c hc t ht
    obtain ⟨f, hf, ec⟩ := chordK_mem.mp (mem_ddL.mp hc)
    obtain ⟨m0, m1⟩ := md f.low (gcdN ns n) (by omega)
    obtain ⟨l0, l1⟩ := fam_long sc hf
    have tr : (gcdN ns n : Int) * ((t : Int) + 1) ≤ n := by
      have := Nat.mul_le_mul_left (gcdN ns n) (show t + 1 ≤ n / gcdN ns n by omega)
      rw [Nat.mul_comm _ (n / gcdN ns n), er] at this
      have h2 : ((gcdN ns n * (t + 1) : Nat) : Int) ≤ n := by omega
      rwa [Int.natCast_mul] at h2
    have tn : (0 : Int) ≤ (gcdN ns n : Int) * t := Int.mul_nonneg (by omega) (by omega)
    rw [Int.mul_add, Int.mul_one] at tr
    exact ⟨_, _, ec, m0, m1, l0, l1, by omega, by omega⟩
  have key : ∀ c ∈ ddL (chordK ns (gcdN ns n)), ∀ d ∈ ddL (chordK ns (gcdN ns n)), ∀ t u : Nat, t < n / gcdN ns n → u < n / gcdN ns n → arcE n (c[0]?.getD 0 + (gcdN ns n : Int) * (t : Int)) (c[1]?.getD 0) = arcE n (d[0]?.getD 0 + (gcdN ns n : Int) * (u : Int)) (d[1]?.getD 0) → c = d ∧ t = u := by
    intro c hc d hd t u ht hu e
    obtain ⟨r, l, ec, r0, r1, l0, l1, x0, x1⟩ := good c hc t ht
    obtain ⟨q, m, ed, q0, q1, m0, m1, y0, y1⟩ := good d hd u hu
    subst ec ed
    obtain ⟨e1, e2⟩ := arc_inj (show (24 : Int) ≤ n by omega) x0 x1 y0 y1 l0 l1 m0 m1 e
    have er : r = q := by
      have := congrArg (· % (gcdN ns n : Int)) e1
      simp only [Int.add_mul_emod_self_left] at this
      rw [Int.emod_eq_of_lt r0 r1, Int.emod_eq_of_lt q0 q1] at this
      exact this
    subst er
    have : (gcdN ns n : Int) * t = gcdN ns n * u := by omega
    have := Int.eq_of_mul_eq_mul_left (show (gcdN ns n : Int) ≠ 0 by omega) this
    exact ⟨by rw [e2], by omega⟩
  unfold chordM List.Nodup
  rw [List.pairwise_flatMap]
  constructor
  · intro c hc
    rw [List.pairwise_map]
    refine List.Pairwise.imp_of_mem ?_ (List.nodup_range (n := n / gcdN ns n))
    intro t u ht hu ne e
    exact ne (key c hc c hc t u (List.mem_range.mp ht) (List.mem_range.mp hu) e).2
  · refine List.Pairwise.imp_of_mem ?_ (nodup_ddL (chordK ns (gcdN ns n)))
    intro c d hc hd ne x hx y hy e
    obtain ⟨t, ht, ex⟩ := List.mem_map.mp hx
    obtain ⟨u, hu, ey⟩ := List.mem_map.mp hy
    exact ne (key c hc d hd t u (List.mem_range.mp ht) (List.mem_range.mp hu) (by rw [ex, ey]; exact e)).1
theorem flat_len {α β : Type} (f : α → List β) (c : Nat) : ∀ l : List α, (∀ x ∈ l, (f x).length = c) → (l.flatMap f).length = l.length * c
  | [], _ => by simp
  | x :: l, h => by
    rw [List.flatMap_cons, List.length_append, flat_len f c l fun y hy => h y (List.mem_cons_of_mem _ hy), h x (by simp), List.length_cons, Nat.succ_mul]
    omega
theorem chord_total {ns : List Int} {n : Nat} (sc : Sc ns) (hn : 24 ≤ n) : (ddL (endsL ns n)).length = chordN ns (gcdN ns n) * (n / gcdN ns n) := by
  have e : (chordM ns n).length = chordN ns (gcdN ns n) * (n / gcdN ns n) := by
    unfold chordM chordN
    rw [flat_len _ (n / gcdN ns n) _ fun c _ => by rw [List.length_map, List.length_range]]
  rw [← e]
  exact Nat.le_antisymm (sub_len _ _ (nodup_ddL _) fun x hx => (ends_mem sc hn x).mp (mem_ddL.mp hx)) (sub_len _ _ (chordM_nodup sc hn) fun x hx => mem_ddL.mpr ((ends_mem sc hn x).mpr hx))
end
end Wn

set_option Elab.async false
set_option linter.all false
set_option maxRecDepth 100000
set_option maxHeartbeats 1000000
namespace Wn
open PySem PySem.Spec PyProof.Rows L2
section
variable {A : Str → Addr} {s : Option Addr} {P : D → Prop} {PL : List D → Prop} {EP : Addr → Prop}
/-! ### parts -/
theorem ddL_snoc {α : Type} [DecidableEq α] (xs : List α) (x : α) : (ddL (xs ++ [x])).length = (ddL xs).length + if x ∈ xs then 0 else 1 := by
  by_cases c : x ∈ xs
  · rw [if_pos c]
    refine Nat.le_antisymm (sub_len _ _ (nodup_ddL _) fun y hy => mem_ddL.mpr ?_) (sub_len _ _ (nodup_ddL _) fun y hy => mem_ddL.mpr (List.mem_append_left _ (mem_ddL.mp hy)))
    rcases List.mem_append.mp (mem_ddL.mp hy) with h | h
    · exact h
    · rw [List.mem_singleton.mp h]
      exact c
  · rw [if_neg c]
    have nd : (ddL xs ++ [x]).Nodup := List.nodup_append.mpr ⟨nodup_ddL _, by simp, fun a ha b hb z => c (by rw [← List.mem_singleton.mp hb, ← z]; exact mem_ddL.mp ha)⟩
    rw [show (ddL xs).length + 1 = (ddL xs ++ [x]).length by simp]
    refine Nat.le_antisymm (sub_len _ _ (nodup_ddL _) fun y hy => ?_) (sub_len _ _ nd fun y hy => ?_)
    · rcases List.mem_append.mp (mem_ddL.mp hy) with h | h
      · exact List.mem_append_left _ (mem_ddL.mpr h)
      · exact List.mem_append_right _ h
    · refine mem_ddL.mpr ?_
      rcases List.mem_append.mp hy with h | h
      · exact List.mem_append_left _ (mem_ddL.mp h)
      · exact List.mem_append_right _ h
theorem first_count (f : Nat → Int) : ∀ k, (List.range k).countP (fun i => (List.range i).all fun j => !(f j == f i)) = (ddL ((List.range k).map f)).length
  | 0 => rfl
  | k + 1 => by
    rw [List.range_succ, List.countP_append, first_count f k, List.map_append, List.map_cons, List.map_nil, ddL_snoc, List.countP_cons, List.countP_nil, Nat.zero_add]
    congr 1
    by_cases c : f k ∈ (List.range k).map f
    · rw [if_pos c, if_neg]
      obtain ⟨j, hj, e⟩ := List.mem_map.mp c
      intro h
      have := List.all_eq_true.mp h j hj
      rw [e] at this
      simp at this
    · rw [if_neg c, if_pos]
      refine List.all_eq_true.mpr fun j hj => ?_
      cases q : f j == f k with
      | false => rfl
      | true => exact absurd (List.mem_map.mpr ⟨j, hj, beq_iff_eq.mp q⟩) c
def leadB (ns : List Int) (n : Nat) (i : Nat) : Bool := (List.range i).all fun j => !(sameB ns (gcdN ns n) j i)
theorem lead_iff {ns : List Int} {n : Nat} (sc : Sc ns) {i : Nat} (hi : i < n) : leadB ns n i = true ↔ ∀ j : Nat, j < i → ¬ Conn (woundL ns n) (j : Int) i := by
  unfold leadB
  rw [List.all_eq_true]
  constructor
  · intro h j hj c
    have := h j (List.mem_range.mpr hj)
    rw [conn_same sc (by omega) c] at this
    cases this
  · intro h j hj
    have hj := List.mem_range.mp hj
    cases q : sameB ns (gcdN ns n) j i with
    | false => rfl
    | true => exact absurd (same_conn sc (by omega) (by omega) (by omega) (by omega) (by omega) q) (h j hj)
theorem lead_count {ns : List Int} {n : Nat} (sc : Sc ns) (hn : 0 < n) : (List.range n).countP (leadB ns n) = (ddL (labL ns (gcdN ns n))).length := by
  have g0 := sc.g1 n
  have gn := gcd_le_n (ns := ns) (n := n) (by omega)
  have ll : (labL ns (gcdN ns n)).length = gcdN ns n := labTo_len ..
  obtain ⟨r, hr⟩ : ∃ r, n = gcdN ns n + r := ⟨n - gcdN ns n, by omega⟩
  have e1 : (List.range n).countP (leadB ns n) = (List.range (gcdN ns n)).countP (leadB ns n) := by
    conv => lhs; rw [hr, List.range_add, ← hr]
    rw [List.countP_append, List.countP_map]
    suffices z : (List.range r).countP (leadB ns n ∘ fun x => gcdN ns n + x) = 0 by rw [z, Nat.add_zero]
    refine List.countP_eq_zero.mpr fun t _ h => ?_
    have h := List.all_eq_true.mp (show ((List.range (gcdN ns n + t)).all fun j => !(sameB ns (gcdN ns n) j ((gcdN ns n + t : Nat) : Int))) = true from h) t (List.mem_range.mpr (by omega))
    have : sameB ns (gcdN ns n) (t : Int) ((gcdN ns n + t : Nat) : Int) = true := by
      unfold sameB
      rw [show (((gcdN ns n + t : Nat) : Int)) % (gcdN ns n : Int) = (t : Int) % gcdN ns n from by rw [Int.natCast_add, Int.add_emod_left]]
      exact beq_self_eq_true _
    rw [this] at h
    cases h
  rw [e1]
  have e2 : (List.range (gcdN ns n)).countP (leadB ns n) = (List.range (gcdN ns n)).countP (fun i => (List.range i).all fun j => !((labL ns (gcdN ns n))[j]?.getD 0 == (labL ns (gcdN ns n))[i]?.getD 0)) := by
    refine List.countP_congr fun i hi => ?_
    have hi := List.mem_range.mp hi
    unfold leadB
    rw [Bool.eq_iff_iff.mp (show ((List.range i).all fun j => !(sameB ns (gcdN ns n) j i)) = ((List.range i).all fun j => !((labL ns (gcdN ns n))[j]?.getD 0 == (labL ns (gcdN ns n))[i]?.getD 0)) from ?_)]
    rw [Bool.eq_iff_iff, List.all_eq_true, List.all_eq_true]
    refine forall_congr' fun j => imp_congr_right fun hj => ?_
    have hj := List.mem_range.mp hj
    unfold sameB
    rw [Int.emod_eq_of_lt (by omega) (by omega), Int.emod_eq_of_lt (by omega) (by omega), Int.toNat_natCast, Int.toNat_natCast]
  rw [e2, first_count (fun i => (labL ns (gcdN ns n))[i]?.getD 0)]
  have e3 : (List.range (gcdN ns n)).map (fun i => (labL ns (gcdN ns n))[i]?.getD 0) = labL ns (gcdN ns n) := by
    have q := range_get (labL ns (gcdN ns n)) 0
    rw [ll] at q
    exact q
  rw [e3]
/-! ### lengths -/
def shortI (n : Int) (x : Int × Int × Int) : Int := min ((x.2.1 - x.1) % n) ((x.1 - x.2.1) % n)
theorem Arc.short {n a l : Int} {x : Int × Int × Int} (hn : 24 ≤ n) (h : Arc n a l x) : shortI n x = l := by
  obtain ⟨a0, a1, l0, l1, e⟩ := h
  have dv := mod_near (x := a + l) (n := n) (by omega) (by omega)
  unfold shortI
  rcases e with ⟨e1, e2⟩ | ⟨e1, e2⟩
  · rw [e1, e2]
    generalize (a + l) % n = v at dv ⊢
    have d1 := mod_near (x := v - a) (n := n) (by omega) (by omega)
    have d2 := mod_near (x := a - v) (n := n) (by omega) (by omega)
    generalize (v - a) % n = p at d1 ⊢
    generalize (a - v) % n = q at d2 ⊢
    omega
  · rw [e1, e2]
    generalize (a + l) % n = v at dv ⊢
    have d1 := mod_near (x := v - a) (n := n) (by omega) (by omega)
    have d2 := mod_near (x := a - v) (n := n) (by omega) (by omega)
    generalize (v - a) % n = p at d1 ⊢
    generalize (a - v) % n = q at d2 ⊢
    omega
def longB (l : Int) (x : Int) : Bool := ((x.natAbs : Nat) : Int) == l
theorem fam_longs (ns : List Int) (l : Int) : ∀ ss : List Int, (famTo ns ss).countP (fun f => f.long == l) = ss.length * ns.countP (longB l) := by
  have inner : ∀ (i : Nat) (st : Int), ((offs ns).zipIdx.map fun q => famAt ns i st q.2 q.1).countP (fun f => f.long == l) = ns.countP (longB l) := by
    intro i st
    rw [zipIdx_range (offs ns) 0, List.map_map, List.countP_map, offs_len]
    conv => rhs; rw [← range_get ns 0]
    rw [List.countP_map]
    rfl
  have key : ∀ zs : List (Int × Nat), (zs.flatMap fun p => (offs ns).zipIdx.map fun q => famAt ns p.2 p.1 q.2 q.1).countP (fun f => f.long == l) = zs.length * ns.countP (longB l) := by
    intro zs
    induction zs with
    | nil => simp
    | cons z zs ih =>
      rw [List.flatMap_cons, List.countP_append, ih, inner, List.length_cons, Nat.succ_mul]
      omega
  intro ss
  unfold famTo
  rw [key, List.length_zipIdx]
theorem long_total {ns : List Int} {n : Nat} (sc : Sc ns) (hn : 24 ≤ n) (l : Int) : (woundL ns n).countP (fun x => shortI n x == l) = (startsL ns (gcdN ns n)).length * roundsN ns n * ns.countP (longB l) := by
  rw [← sum_one, wound_sum (ns := ns) (n := n) (fun x => if shortI n x == l then 1 else 0) (fun f => roundsN ns n * if f.long == l then 1 else 0) fun st i j hj => ?_]
  · rw [sum_mul, sum_one]
    unfold famL
    rw [fam_longs, Nat.mul_comm (startsL ns (gcdN ns n)).length (roundsN ns n), Nat.mul_assoc]
  · rw [List.map_congr_left (g := fun _ => if (famAt ns i st j (ns.take j).sum).long == l then 1 else 0) fun t _ => by rw [(strand_arc sc (by omega) hj).short (by omega)], sum_const, List.length_range]
def longN (ns : List Int) (n l : Int) : Int := countI ns n / ns.length * (ns.countP (longB l) : Nat)
theorem q_count_long {v w x : D} (hv : D.ok 64 v = true) (hw : w.ty.isSome = true) (hx : x.ty.isSome = true) (h1 : ∀ ns n l, Scr v ns → w = .int n → 24 ≤ n → n ≤ 1000000000000000000000000000000 → x = .int l → 1 ≤ l → l ≤ 11 → P (.int (longN ns n l)))
    (h2 : scriptB v = false → EP (A "InvalidScript")) (h3 : scriptB v = true → whole w 24 1000000000000000000000000000000 = false → EP (A "InvalidRing")) (h4 : scriptB v = true → whole w 24 1000000000000000000000000000000 = true → whole x 1 11 = false → EP (A "InvalidLength")) : f_count_long A s [v, w, x] P EP := by
  obtain ⟨v_need_script, g_need_script⟩ : ∃ v, v = (f_need_script A) := ⟨_, rfl⟩
  have h_need_script := @q_need_script A
  rw [← g_need_script] at h_need_script
  obtain ⟨v_need_ring, g_need_ring⟩ : ∃ v, v = (f_need_ring A) := ⟨_, rfl⟩
  have h_need_ring := @q_need_ring A
  rw [← g_need_ring] at h_need_ring
  obtain ⟨v_is_within, g_is_within⟩ : ∃ v, v = (f_is_within A) := ⟨_, rfl⟩
  have h_is_within := @q_is_within A
  rw [← g_is_within] at h_is_within
  obtain ⟨v_count_of, g_count_of⟩ : ∃ v, v = (f_count_of A) := ⟨_, rfl⟩
  have h_count_of := @q_count_of A
  rw [← g_count_of] at h_count_of
  unfold f_count_long t_count_long
  try simp only [← g_need_script, ← g_need_ring, ← g_is_within, ← g_count_of]
  simp
  refine h_need_script hv (fun q => ?_) h2
  refine h_need_ring hw (fun q2 => ?_) (h3 q)
  obtain ⟨ns, sc⟩ := scriptB_scr q
  obtain ⟨n, en, n1, n2⟩ := ring_of q2
  have l1 := sc.sc.l1
  have l2 := sc.sc.l2
  have rest : whole x 1 11 = false → EP (A "InvalidLength") := h4 q q2
  rw [sc.e, en]
  refine h_is_within hx ?_
  cases q3 : whole x 1 11 with
  | false =>
    simp
    exact rest q3
  | true =>
    obtain ⟨ex, x1, x2⟩ := whole_int q3
    have fin := h1 ns n (toI x) sc en n1 n2 ex x1 x2
    generalize toI x = l at ex x1 x2 fin
    subst ex
    have cp : ns.countP (longB l) ≤ ns.length := List.countP_le_length
    simp
    refine h_count_of sc.sc ?_
    simp
    refine ⟨cdivw (by omega) (by omega), by omega, comp_filI (longB l) D.int D.int ns (fun y _ Q hQ => ?_) (fun y _ _ Q hQ => ?_) ?_⟩
    · simp
      exact hQ
    · simp
      exact hQ
    · rw [List.nil_append]
      simp
      rw [← List.countP_eq_length_filter]
      exact ⟨cmul_r (by omega) (by omega), fin⟩
end
end Wn

set_option Elab.async false
set_option linter.all false
set_option maxRecDepth 100000
set_option maxHeartbeats 1000000
namespace Wn
open PySem PySem.Spec PyProof.Rows L2
section
variable {A : Str → Addr} {s : Option Addr} {P : D → Prop} {PL : List D → Prop} {EP : Addr → Prop}
theorem trip0 {x : Int × Int × Int} {P : D → Prop} (h : P (.int x.1)) : dIx (tripD x) (.int 0) P := u_dIx rfl (by omega) rfl h
theorem trip1 {x : Int × Int × Int} {P : D → Prop} (h : P (.int x.2.1)) : dIx (tripD x) (.int 1) P := u_dIx rfl (by omega) rfl h
theorem trip2 {x : Int × Int × Int} {P : D → Prop} (h : P (.int x.2.2)) : dIx (tripD x) (.int 2) P := u_dIx rfl (by omega) rfl h
theorem in_two {i a b : Int} {P : D → Prop} (h : P (.bl (i == a || i == b))) : dIn false (.int i) (.tup [.int a, .int b]) P := by
  rw [show dIn false (.int i) (.tup [.int a, .int b]) P = P (.bl (if false then !(([a, b] : List Int).any (· == i)) else ([a, b] : List Int).any (· == i))) from u_in_intsT false i [a, b] P]
  have e : ([a, b] : List Int).any (· == i) = (i == a || i == b) := by
    rw [List.any_cons, List.any_cons, List.any_nil, Bool.or_false, Bool.beq_comm, Bool.beq_comm (a := b)]
  rw [e]
  exact h
theorem q_meet {n : Int} {x y : Int × Int × Int} (hn : 0 < n) (h : P (.bl (meetB n x y))) : f__law_meet A s [.int n, tripD x, tripD y] P EP := by
  unfold f__law_meet t__law_meet
  simp
  refine trip0 (trip1 (trip0 (in_two ?_)))
  unfold meetB at h
  cases c1 : (y.1 == x.1 || y.1 == x.2.1) with
  | true =>
    rw [c1] at h
    exact h
  | false =>
    rw [c1] at h
    refine trip1 (in_two ?_)
    cases c2 : (y.2.1 == x.1 || y.2.1 == x.2.1) with
    | true =>
      rw [c2] at h
      exact h
    | false =>
      rw [c2] at h
      simp
      refine ⟨hn, trip0 ?_⟩
      simp
      refine ⟨hn, trip1 ?_⟩
      simp
      exact ⟨hn, h⟩
theorem pairN_e {α : Type} (m : α → α → Bool) (d : α) : ∀ l : List α, pairN m l = ((List.range l.length).map fun k => (l.drop (k + 1)).countP (m (l[k]?.getD d))).sum
  | [] => rfl
  | x :: l => by
    unfold pairN
    rw [pairN_e m d l, List.length_cons, List.range_succ_eq_map, List.map_cons, List.sum_cons, List.map_map]
    rfl
theorem q_crossings_of {n : Int} {laid : List (Int × Int × Int)} (hn : 0 < n) (hl : laid.length ≤ 1000) (h : P (.int (pairN (meetB n) laid : Nat))) : f__law_crossings_of A s [.int n, .lst (laid.map tripD)] P EP := by
  rw [pairN_e _ (0, 0, 0)] at h
  obtain ⟨v_meet, g_meet⟩ : ∃ v, v = (f__law_meet A) := ⟨_, rfl⟩
  have h_meet := @q_meet A
  rw [← g_meet] at h_meet
  unfold f__law_crossings_of t__law_crossings_of
  try simp only [← g_meet]
  simp
  refine ⟨by omega, loop_ints (loop_sum (fun a : Nat => ⟨s, [.d (.int n), .d (.lst (laid.map tripD)), .d (.int a), .no, .no]⟩) (fun k => (laid.drop (k + 1)).countP (meetB n (laid[k]?.getD (0, 0, 0)))) _ _ 0 rfl ?_ fun k hk a K hK => ?_)⟩
  · simpa using h
  · have hk := List.mem_range.mp hk
    simp
    rw [show (some ((k : Int) + 1) : Option Int) = some ((k + 1 : Nat) : Int) from rfl, cut_drop, ← List.map_drop]
    refine ⟨by rw [List.length_map, List.length_drop]; omega, ?_⟩
    refine comp_filI (meetB n (laid[k]?.getD (0, 0, 0))) tripD (fun _ => D.int 1) (laid.drop (k + 1)) (fun y _ Q hQ => ?_) (fun y _ _ Q hQ => ?_) ?_
    · simp
      refine u_dIx rfl (by omega) (d := tripD (laid[k]?.getD (0, 0, 0))) ?_ (h_meet hn hQ)
      rw [Int.toNat_natCast, List.getElem?_map, List.getElem?_eq_getElem hk]
      rfl
    · simp
      exact hQ
    · rw [List.nil_append, List.countP_eq_length_filter] at *
      simp
      simpa using hK
end
end Wn

set_option Elab.async false
set_option linter.all false
set_option maxRecDepth 100000
set_option maxHeartbeats 1000000
namespace Wn
open PySem PySem.Spec PyProof.Rows L2
section
variable {A : Str → Addr} {K : PySem.W.Frag} {Φ : Addr → Nat → Option Fn} {s : Option Addr} {P : D → Prop} {PL : List D → Prop} {EP : Addr → Prop}
theorem u_dIxL {x : D} {xs : List D} {d : D} {P : D → Prop} (hx : itemsX x = some xs) (hl : 0 < xs.length) (hi : xs[xs.length - 1]? = some d) (h : P d) : dIx x (.int (-1)) P := by
  unfold dIx
  rw [hx]
  have e : L2.atI xs (-1) = some d := by
    unfold L2.atI L2.ixN
    rw [if_neg (by omega), if_pos (by omega)]
    rw [show (-1 + (xs.length : Int)).toNat = xs.length - 1 from by omega]
    exact hi
  dsimp only
  rw [e]
  exact h
theorem wordB_str {ws : List Str} {w : Str} (h : w ∈ ws) : wordB ws (.str w) = true := List.any_eq_true.mpr ⟨w, h, by simp⟩
theorem q_g_count {ns : List Int} {n : Int} {w : Str} (sc : Sc ns) (n1 : 24 ≤ n) (n2 : n ≤ 1000000000000000000000000000000) (hw : w ∈ plainW ++ growW) (h : P (.int (countW ns n w))) : f_count A s [.tup (ns.map D.int), .int n, .str w] P EP :=
  q_count sc.scr.ok rfl rfl (fun ms m u sc' e _ _ e2 _ => by
    cases e
    cases e2
    rw [sc.scr.inj sc']
    exact h) (fun z => no_script sc z) (fun _ z => no_ring n1 n2 z) fun _ _ z => by
    rw [wordB_str hw] at z
    cases z
theorem q_g_count_long {ns : List Int} {n l : Int} (sc : Sc ns) (n1 : 24 ≤ n) (n2 : n ≤ 1000000000000000000000000000000) (l1 : 1 ≤ l) (l2 : l ≤ 11) (h : P (.int (longN ns n l))) : f_count_long A s [.tup (ns.map D.int), .int n, .int l] P EP :=
  q_count_long sc.scr.ok rfl rfl (fun ms m u sc' e _ _ e2 _ _ => by
    cases e
    cases e2
    rw [sc.scr.inj sc']
    exact h) (fun z => no_script sc z) (fun _ z => no_ring n1 n2 z) fun _ _ z => by
    rw [whole_e, decide_eq_true l1, decide_eq_true l2] at z
    cases z
/-- a call that refuses a script, then a ring, then a third value that is none -/
structure Odd3 (A : Str → Addr) (φ : Fn) (bad : D → Bool) (E : Str) : Prop where
  ns : ∀ {s : Option Addr} {P : D → Prop} {EP : Addr → Prop} {v w x : D}, D.ok 64 v = true → w.ty.isSome = true → x.ty.isSome = true → scriptB v = false → EP (A "InvalidScript") → φ s [v, w, x] P EP
  nr : ∀ {s : Option Addr} {P : D → Prop} {EP : Addr → Prop} {ns : List Int} {w x : D}, Sc ns → w.ty.isSome = true → x.ty.isSome = true → whole w 24 1000000000000000000000000000000 = false → EP (A "InvalidRing") → φ s [.tup (ns.map D.int), w, x] P EP
  nx : ∀ {s : Option Addr} {P : D → Prop} {EP : Addr → Prop} {ns : List Int} {n : Int} {x : D}, Sc ns → 24 ≤ n → n ≤ 1000000000000000000000000000000 → x.ty.isSome = true → bad x = true → EP (A E) → φ s [.tup (ns.map D.int), .int n, x] P EP
theorem odd_count : Odd3 A (f_count A) (fun x => !(wordB (plainW ++ growW) x)) "InvalidWord" where
  ns := fun hv hw hx hb h => q_count hv hw hx (fun ms m u s2 _ _ _ _ _ => by
    rw [scr_scriptB s2] at hb
    cases hb) (fun _ => h) (fun z => by
      rw [hb] at z
      cases z) fun z => by
        rw [hb] at z
        cases z
  nr := fun sc hw hx hb h => q_count sc.scr.ok hw hx (fun ms m u s2 e n1 n2 _ _ => by
    rw [e, whole_ring n1 n2] at hb
    cases hb) (no_script sc) (fun _ _ => h) fun _ z => by
      rw [hb] at z
      cases z
  nx := fun sc n1 n2 hx hb h => q_count sc.scr.ok rfl hx (fun ms m u s2 _ _ _ _ z => by
    simp only [z, Bool.not_true] at hb
    cases hb) (no_script sc) (fun _ z => no_ring n1 n2 z) fun _ _ _ => h
theorem odd_count_long : Odd3 A (f_count_long A) (fun x => !(whole x 1 11)) "InvalidLength" where
  ns := fun hv hw hx hb h => q_count_long hv hw hx (fun ms m u s2 _ _ _ _ _ _ => by
    rw [scr_scriptB s2] at hb
    cases hb) (fun _ => h) (fun z => by
      rw [hb] at z
      cases z) fun z => by
        rw [hb] at z
        cases z
  nr := fun sc hw hx hb h => q_count_long sc.scr.ok hw hx (fun ms m u s2 e n1 n2 _ _ _ => by
    rw [e, whole_ring n1 n2] at hb
    cases hb) (no_script sc) (fun _ _ => h) fun _ z => by
      rw [hb] at z
      cases z
  nx := fun sc n1 n2 hx hb h => q_count_long sc.scr.ok rfl hx (fun ms m u s2 _ _ _ e l1 l2 => by
    rw [e, whole_e, decide_eq_true l1, decide_eq_true l2] at hb
    cases hb) (no_script sc) (fun _ z => no_ring n1 n2 z) fun _ _ _ => h
theorem gd_n {ns : List Int} {n : Nat} (sc : Sc ns) : n / gcdN ns n * gcdN ns n = n := Nat.div_mul_cancel (Int.natCast_dvd_natCast.mp (Int.gcd_dvd_left ..))
theorem w_chords {ns : List Int} {n : Nat} (sc : Sc ns) (hn : 24 ≤ n) : countW ns n "chords" = ((ddL (endsL ns n)).length : Nat) := by
  rw [chord_total sc hn, Int.natCast_mul, Int.natCast_ediv]
  rfl
theorem w_crossings {ns : List Int} {n : Nat} (sc : Sc ns) (hn : 24 ≤ n) : countW ns n "crossings" = (pairN (meetB n) (woundL ns n) : Nat) := by
  rw [cross_total sc hn, Int.natCast_mul, Int.natCast_ediv]
  rfl
theorem w_loops {ns : List Int} {n : Nat} : countW ns n "loops" = ((startsL ns (gcdN ns n)).length : Nat) := rfl
theorem w_parts {ns : List Int} {n : Nat} (sc : Sc ns) (hn : 0 < n) : countW ns n "parts" = ((List.range n).countP (leadB ns n) : Nat) := by
  rw [lead_count sc hn]
  rfl
theorem w_rounds {ns : List Int} {n : Nat} : countW ns n "rounds" = (roundsN ns n : Nat) := by
  show ((1 : Nat) : Int) * ((n : Int) / gcdN ns n) = _
  unfold roundsN
  rw [Int.natCast_ediv]
  omega
theorem w_spans {ns : List Int} {n : Nat} : countW ns n "spans" = ((woundL ns n).length : Nat) := by
  rw [woundL_len]
  show ((ns.length * (startsL ns (gcdN ns n)).length : Nat) : Int) * ((n : Int) / gcdN ns n) = _
  unfold sizeN roundsN
  rw [← Int.natCast_ediv, ← Int.natCast_mul]
  congr 1
  simp only [Nat.mul_assoc, Nat.mul_comm, Nat.mul_left_comm]
theorem long_e {ns : List Int} {n : Nat} (sc : Sc ns) (hn : 24 ≤ n) (l : Int) : longN ns n l = ((woundL ns n).countP (fun x => shortI n x == l) : Nat) := by
  rw [long_total sc hn]
  unfold longN
  have l1 := sc.l1
  have e : countI ns n / ns.length = ((startsL ns (gcdN ns n)).length * roundsN ns n : Nat) := by
    rw [countI_e, sizeN_e]
    unfold sizeN
    rw [Nat.mul_comm ns.length, Int.natCast_mul, ← Int.mul_assoc, Int.mul_ediv_cancel _ (by omega), ← Int.natCast_mul]
  rw [e, ← Int.natCast_mul]
def Call3 (A : Str → Addr) (c : D) : Prop := c = .ref (A "count") ∨ c = .ref (A "count_long")
theorem r_word {ns : List Int} {n : Int} {x : D} (hN : Names K A) (hΦ : PhiOk A Φ) (sc : Sc ns) (n1 : 24 ≤ n) (n2 : n ≤ 1000000000000000000000000000000) (hx : x.ty.isSome = true) (hb : wordB (plainW ++ growW) x = false) (h : P (.str "word")) : f__law_by_three K A Φ s [.ref (A "count"), .tup (ns.map D.int), .int n, x] P EP := q_by_three hΦ.p_count (odd_count.nx sc n1 n2 hx (by rw [hb]; rfl) (e_word hN h))
theorem r_length {ns : List Int} {n : Int} {x : D} (hN : Names K A) (hΦ : PhiOk A Φ) (sc : Sc ns) (n1 : 24 ≤ n) (n2 : n ≤ 1000000000000000000000000000000) (hx : x.ty.isSome = true) (hb : whole x 1 11 = false) (h : P (.str "length")) : f__law_by_three K A Φ s [.ref (A "count_long"), .tup (ns.map D.int), .int n, x] P EP := q_by_three hΦ.p_count_long (odd_count_long.nx sc n1 n2 hx (by rw [hb]; rfl) (e_length hN h))
theorem r_script {c v w x : D} (hN : Names K A) (hΦ : PhiOk A Φ) (hc : Call3 A c) (hv : D.ok 64 v = true) (hw : w.ty.isSome = true) (hx : x.ty.isSome = true) (hb : scriptB v = false) (h : P (.str "script")) : f__law_by_three K A Φ s [c, v, w, x] P EP := by
  rcases hc with e | e <;> subst e
  · exact q_by_three hΦ.p_count (odd_count.ns hv hw hx hb (e_script hN h))
  · exact q_by_three hΦ.p_count_long (odd_count_long.ns hv hw hx hb (e_script hN h))
theorem r_ring {c w x : D} {ns : List Int} (hN : Names K A) (hΦ : PhiOk A Φ) (hc : Call3 A c) (sc : Sc ns) (hw : w.ty.isSome = true) (hx : x.ty.isSome = true) (hb : whole w 24 1000000000000000000000000000000 = false) (h : P (.str "ring")) : f__law_by_three K A Φ s [c, .tup (ns.map D.int), w, x] P EP := by
  rcases hc with e | e <;> subst e
  · exact q_by_three hΦ.p_count (odd_count.nr sc hw hx hb (e_ring hN h))
  · exact q_by_three hΦ.p_count_long (odd_count_long.nr sc hw hx hb (e_ring hN h))
theorem odd31 {a : Addr} {ns : List Int} {n : Int} {o0 : Slot} {Z : DEnds} (hN : Names K A) (hΦ : PhiOk A Φ) (sc : Sc ns) (n1 : 24 ≤ n) (n2 : n ≤ 1000000000000000000000000000000) (hZ : Z.nx ⟨some a, [o0, .no, .sr a, .no, .no, .no, .no, .no, .no, .no, .no, .no, .no, .no, .no, .no, .no, .no, .no]⟩) :
    p2_11_law A K Φ ⟨some a, [o0, .no, .sr a, .d (.tup (ns.map D.int)), .d (.int n), .no, .no, .no, .no, .no, .no, .no, .no, .no, .no, .no, .no, .no, .no]⟩ Z := by
  have h1 := fun {s : Option Addr} {P : D → Prop} {EP : Addr → Prop} {x : D} => @r_word A K Φ s P EP ns n x hN hΦ sc n1 n2
  have h2 := fun {s : Option Addr} {P : D → Prop} {EP : Addr → Prop} {x : D} => @r_length A K Φ s P EP ns n x hN hΦ sc n1 n2
  have h3 := fun {s : Option Addr} {P : D → Prop} {EP : Addr → Prop} {c v w x : D} => @r_script A K Φ s P EP c v w x hN hΦ
  have h4 := fun {s : Option Addr} {P : D → Prop} {EP : Addr → Prop} {c w x : D} (hc : Call3 A c) => @r_ring A K Φ s P EP c w x ns hN hΦ hc sc
  obtain ⟨v_three, g_three⟩ : ∃ v, v = f__law_by_three K A Φ := ⟨_, rfl⟩
  rw [← g_three] at h1 h2 h3 h4
  have ok_word : D.ok 64 (.str "word") = true := by decide +kernel
  have ok_length : D.ok 64 (.str "length") = true := by decide +kernel
  have ok_script : D.ok 64 (.str "script") = true := by decide +kernel
  have ok_ring : D.ok 64 (.str "ring") = true := by decide +kernel
  unfold p2_11_law p4_0_law
  simp only [← g_three]
  simp
  refine loop_same ?_ fun x hx K' hK => ?_
  case refine_2 =>
    simp only [List.mem_cons, List.not_mem_nil, or_false] at hx
    simp
    refine h1 ?_ ?_ (dNe_same rfl ok_word (by simpa using hK)) <;> rcases hx with e | e | e | e | e <;> subst e <;> first | rfl | decide +kernel
  simp
  unfold p2_12_law p5_0_law
  simp only [← g_three]
  simp
  refine loop_same ?_ fun x hx K' hK => ?_
  case refine_2 =>
    simp only [List.mem_cons, List.not_mem_nil, or_false] at hx
    simp
    refine h2 ?_ ?_ (dNe_same rfl ok_length (by simpa using hK)) <;> rcases hx with e | e | e | e | e <;> subst e <;> first | rfl | decide +kernel
  simp
  unfold p2_13_law p6_0_law
  simp only [← g_three]
  simp
  refine loop_same ?_ fun x hx K' hK => ?_
  case refine_2 =>
    have hx : Call3 A x := by simpa [Call3] using hx
    simp
    refine h3 hx (by decide +kernel) rfl rfl (by decide +kernel) (dNe_same rfl ok_script ?_)
    simp
    refine h4 hx rfl rfl (by decide +kernel) (dNe_same rfl ok_ring ?_)
    simpa using hK
  simpa using hZ
theorem body31 {a : Addr} {o0 : Slot} {Z : DEnds} (hN : Names K A) (hΦ : PhiOk A Φ) (hZ : Z.nx ⟨some a, [o0, .no, .sr a, .no, .no, .no, .no, .no, .no, .no, .no, .no, .no, .no, .no, .no, .no, .no, .no]⟩) :
    p2_1_law A K Φ ⟨some a, [o0, .no, .sr a, .no, .no, .no, .no, .no, .no, .no, .no, .no, .no, .no, .no, .no, .no, .no, .no]⟩ Z := by
  have ho := fun {ns : List Int} {n : Int} (sc : Sc ns) (n1 : 24 ≤ n) (n2 : n ≤ 1000000000000000000000000000000) {Z : DEnds} => @odd31 A K Φ a ns n o0 Z hN hΦ sc n1 n2
  obtain ⟨ψ, gψ⟩ : ∃ ψ, ψ = p2_11_law A K Φ := ⟨_, rfl⟩
  rw [← gψ] at ho
  obtain ⟨v_drawn, g_drawn⟩ : ∃ v, v = (f__law_drawn_steps A) := ⟨_, rfl⟩
  have h_drawn := @q_drawn A
  rw [← g_drawn] at h_drawn
  obtain ⟨v_drawn_ring, g_drawn_ring⟩ : ∃ v, v = (f__law_drawn_ring A) := ⟨_, rfl⟩
  have h_drawn_ring := @q_drawn_ring A
  rw [← g_drawn_ring] at h_drawn_ring
  obtain ⟨v_wound, g_wound⟩ : ∃ v, v = (f__law_wound A) := ⟨_, rfl⟩
  have h_wound := @q_wound A
  rw [← g_wound] at h_wound
  obtain ⟨v_g_count, g_g_count⟩ : ∃ v, v = (f_count A) := ⟨_, rfl⟩
  have h_g_count := @q_g_count A
  rw [← g_g_count] at h_g_count
  obtain ⟨v_g_count_long, g_g_count_long⟩ : ∃ v, v = (f_count_long A) := ⟨_, rfl⟩
  have h_g_count_long := @q_g_count_long A
  rw [← g_g_count_long] at h_g_count_long
  obtain ⟨v_crossings_of, g_crossings_of⟩ : ∃ v, v = (f__law_crossings_of A) := ⟨_, rfl⟩
  have h_crossings_of := @q_crossings_of A
  rw [← g_crossings_of] at h_crossings_of
  obtain ⟨v_number_of_parts, g_number_of_parts⟩ : ∃ v, v = (f__law_number_of_parts A) := ⟨_, rfl⟩
  have h_number_of_parts := @q_number_of_parts A
  rw [← g_number_of_parts] at h_number_of_parts
  unfold p2_1_law
  try simp only [← g_drawn, ← g_drawn_ring, ← g_wound, ← g_g_count, ← g_g_count_long, ← g_crossings_of, ← g_number_of_parts]
  simp
  refine h_drawn rfl (by omega) (by omega) fun v ns sc0 => ?_
  have sc := sc0.sc
  have l1 := sc.l1
  have l2 := sc.l2
  rw [sc0.e]
  try simp
  unfold p2_2_law
  try simp only [← g_drawn, ← g_drawn_ring, ← g_wound, ← g_g_count, ← g_g_count_long, ← g_crossings_of, ← g_number_of_parts]
  simp
  refine h_drawn_ring rfl sc (by omega) (by omega) fun n n1 n2 => ?_
  have n2 : n ≤ 50 := by omega
  have S0 := sizeN_pos sc (n := n) (by omega)
  have g1 := sc.g1 n
  have g2 := sc.g2 n
  have L1 := startsL_ne (ns := ns) g1
  have L2 := startsL_len ns (gcdN ns n)
  have tl := total_le (n := n) sc L2
  have wl := woundL_len ns n
  have n1' : (24 : Int) ≤ n := by omega
  have n2' : (n : Int) ≤ 1000000000000000000000000000000 := by omega
  try simp
  unfold p2_3_law
  try simp only [← g_drawn, ← g_drawn_ring, ← g_wound, ← g_g_count, ← g_g_count_long, ← g_crossings_of, ← g_number_of_parts]
  simp
  refine h_wound sc (by omega) (by omega) ?_
  try simp
  unfold p2_4_law
  try simp only [← g_drawn, ← g_drawn_ring, ← g_wound, ← g_g_count, ← g_g_count_long, ← g_crossings_of, ← g_number_of_parts]
  simp
  refine ⟨by omega, comp_filI (fun x : Int × Int × Int => x.2.2 == 0) tripD (fun _ => D.int 1) (woundL ns n) (fun y _ Q hQ => ?_) (fun y _ _ Q hQ => ?_) ?_⟩
  · simp
    refine trip2 ?_
    simp
    exact hQ
  · simp
    exact hQ
  rw [List.nil_append, List.length_map, each_e sc (by omega), List.length_map, List.length_range]
  have er : (sizeN ns n : Int) / ns.length = roundsN ns n := by
    unfold sizeN
    rw [Int.natCast_mul, Int.mul_ediv_cancel_left _ (by omega)]
  try simp
  refine ⟨cdivw (by omega) (by omega), ?_⟩
  rw [er]
  have ll : (woundL ns n).length ≤ 250 := by omega
  have pl : ∀ t, t < (woundL ns n).length → ∃ x ∈ woundL ns n, (woundL ns n)[t]? = some x := fun t ht => ⟨_, List.getElem_mem ht, List.getElem?_eq_getElem ht⟩
  have hrg : InRing n (woundL ns n) := fun x hx => by
    obtain ⟨t, k, _, _, e⟩ := (wound_mem S0).mp hx
    subst e
    obtain ⟨a1, a2⟩ := hereF_rng (ns := ns) (n := n) (by omega) ((startsL ns (gcdN ns n))[t]?.getD 0) k
    obtain ⟨a3, a4⟩ := hereF_rng (ns := ns) (n := n) (by omega) ((startsL ns (gcdN ns n))[t]?.getD 0) (k + 1)
    exact ⟨a1, a2, a3, a4⟩
  unfold p2_5_law
  try simp only [← g_drawn, ← g_drawn_ring, ← g_wound, ← g_g_count, ← g_g_count_long, ← g_crossings_of, ← g_number_of_parts]
  simp
  refine ⟨by omega, comp_mapT tripD (fun x => tupD (endsI x)) (woundL ns n) (fun x hx Q hQ => ?_) ?_⟩
  · obtain ⟨x1, x2, x3⟩ := x
    unfold endsI at hQ
    simp only [] at hQ
    by_cases c : x1 < x2
    · rw [if_pos c] at hQ
      simp [tripD, c]
      simpa [tupD] using hQ
    · rw [if_neg c] at hQ
      simp [tripD, c]
      simpa [tupD] using hQ
  rw [List.nil_append, show (woundL ns n).map (fun x => tupD (endsI x)) = (endsL ns n).map tupD from by unfold endsL; rw [List.map_map]; rfl]
  have el : (endsL ns n).length = (woundL ns n).length := by unfold endsL; rw [List.length_map]
  unfold p2_6_law
  try simp only [← g_drawn, ← g_drawn_ring, ← g_wound, ← g_g_count, ← g_g_count_long, ← g_crossings_of, ← g_number_of_parts]
  simp
  rw [u_dLenSetT]
  refine ⟨by omega, fun k hk => ?_⟩
  rw [differ_n hk, ← w_chords sc n1]
  refine h_crossings_of (by omega) (by omega) ?_
  rw [← w_crossings sc n1]
  have lp : 0 < (woundL ns n).length := by
    rw [wl]
    exact Nat.mul_pos L1 S0
  have hlast : (woundL ns n)[(woundL ns n).length - 1]? = some (woundF ns n (startsL ns (gcdN ns n)) ((woundL ns n).length - 1)) := woundL_get (by omega)
  have eloop : (woundF ns n (startsL ns (gcdN ns n)) ((woundL ns n).length - 1)).2.2 = ((startsL ns (gcdN ns n)).length : Int) - 1 := by
    have e : ((woundL ns n).length - 1) / sizeN ns n = (startsL ns (gcdN ns n)).length - 1 := by
      obtain ⟨M, hM⟩ : ∃ M, (startsL ns (gcdN ns n)).length = M + 1 := ⟨_, (Nat.succ_pred_eq_of_pos L1).symm⟩
      rw [wl, hM, Nat.add_mul, Nat.one_mul, show M * sizeN ns n + sizeN ns n - 1 = M * sizeN ns n + (sizeN ns n - 1) from by omega, Nat.mul_comm, Nat.mul_add_div S0, Nat.div_eq_of_lt (by omega)]
      omega
    show (((((woundL ns n).length - 1) / sizeN ns n : Nat)) : Int) = _
    rw [e]
    omega
  refine u_dIxL rfl (by rw [List.length_map]; omega) (d := tripD (woundF ns n (startsL ns (gcdN ns n)) ((woundL ns n).length - 1))) (by rw [List.length_map, List.getElem?_map, hlast]; rfl) (trip2 ?_)
  rw [eloop]
  simp
  refine h_number_of_parts (by omega) (by omega) hrg (leadB ns n) (fun i hi => lead_iff sc hi) ?_
  rw [← w_parts sc (by omega)]
  try simp
  unfold p2_7_law
  try simp only [← g_drawn, ← g_drawn_ring, ← g_wound, ← g_g_count, ← g_g_count_long, ← g_crossings_of, ← g_number_of_parts]
  simp
  unfold p2_8_law
  try simp only [← g_drawn, ← g_drawn_ring, ← g_wound, ← g_g_count, ← g_g_count_long, ← g_crossings_of, ← g_number_of_parts]
  simp
  unfold p2_9_law
  try simp only [← g_drawn, ← g_drawn_ring, ← g_wound, ← g_g_count, ← g_g_count_long, ← g_crossings_of, ← g_number_of_parts]
  simp
  refine comp_mapT D.str (fun w => D.int (countW ns n w)) ["chords", "crossings", "loops", "parts", "rounds", "spans"] (fun w hw Q hQ => ?_) ?_
  · simp
    refine h_g_count sc n1' n2' ?_ hQ
    simp only [List.mem_cons, List.not_mem_nil, or_false] at hw
    rcases hw with e | e | e | e | e | e <;> subst e <;> simp [plainW, growW]
  refine dNe_same ?_ ?_ ?_
  · simp only [List.nil_append, List.map_cons, List.map_nil]
    rw [w_loops, w_rounds, w_spans]
  · exact ok_lstI ((["chords", "crossings", "loops", "parts", "rounds", "spans"] : List Str).map fun w => countW ns n w)
  simp
  unfold p2_10_law
  try simp only [← g_drawn, ← g_drawn_ring, ← g_wound, ← g_g_count, ← g_g_count_long, ← g_crossings_of, ← g_number_of_parts]
  simp
  refine loop_same ?_ fun y hy K' hK => ?_
  case refine_2 =>
    obtain ⟨k, k1, ey⟩ := rgD_mem hy
    subst ey
    simp
    unfold p3_0_law
    try simp only [← g_drawn, ← g_drawn_ring, ← g_wound, ← g_g_count, ← g_g_count_long, ← g_crossings_of, ← g_number_of_parts]
    simp
    refine ⟨by omega, comp_filI (fun x : Int × Int × Int => shortI n x == 1 + (k : Int)) tripD (fun _ => D.int 1) (woundL ns n) (fun x hx Q hQ => ?_) (fun x hx _ Q hQ => ?_) ?_⟩
    · simp
      refine trip1 (trip0 ?_)
      simp
      refine ⟨by omega, trip0 (trip1 ?_)⟩
      simp
      refine ⟨by omega, ?_⟩
      have e : (if (x.1 - x.2.1) % (n : Int) < (x.2.1 - x.1) % (n : Int) then (x.1 - x.2.1) % (n : Int) else (x.2.1 - x.1) % (n : Int)) = shortI n x := by
        unfold shortI
        omega
      rw [e]
      exact hQ
    · simp
      exact hQ
    try simp
    unfold p3_1_law
    try simp only [← g_drawn, ← g_drawn_ring, ← g_wound, ← g_g_count, ← g_g_count_long, ← g_crossings_of, ← g_number_of_parts]
    simp
    refine h_g_count_long sc n1' n2' (by omega) (by omega) ?_
    rw [long_e sc n1, ← List.countP_eq_length_filter]
    refine dNe_same rfl rfl ?_
    simpa using hK
  simp
  simp only [← gψ]
  exact ho sc n1' n2' hZ
theorem turn31 {ms : List Int} {k : Int} {o2 : Slot} {Z : DEnds} (hN : Names K A) (hΦ : PhiOk A Φ) (hk : 0 ≤ k) (hk2 : k < 100) (ho : SrcIn s o2) (hZ : ∀ a, Z.nx ⟨some a, [.d (.kl (ms.map D.int)), .no, .sr a, .no, .no, .no, .no, .no, .no, .no, .no, .no, .no, .no, .no, .no, .no, .no, .no]⟩) :
    p2_0_law A K Φ ⟨s, [.d (.kl (ms.map D.int)), .d (.int k), o2, .no, .no, .no, .no, .no, .no, .no, .no, .no, .no, .no, .no, .no, .no, .no, .no]⟩ Z := by
  have hsr : srOk 2 ⟨s, [.d (.kl (ms.map D.int)), .d (.int k), o2, .no, .no, .no, .no, .no, .no, .no, .no, .no, .no, .no, .no, .no, .no, .no, .no]⟩ = true := by
    rcases ho with ⟨e1, e2⟩ | ⟨a, e1, e2⟩ <;> subst e1 <;> subst e2 <;> rfl
  have ring : ∀ (a : Addr) (Z : DEnds), Z.nx ⟨some a, [.d (.kl (ms.map D.int)), .no, .sr a, .no, .no, .no, .no, .no, .no, .no, .no, .no, .no, .no, .no, .no, .no, .no, .no]⟩ → p2_1_law A K Φ ⟨some a, [.d (.kl (ms.map D.int)), .no, .sr a, .no, .no, .no, .no, .no, .no, .no, .no, .no, .no, .no, .no, .no, .no, .no, .no]⟩ Z := fun a Z h => body31 hN hΦ h
  obtain ⟨v_source, g_source⟩ : ∃ v, v = (f__law_source A) := ⟨_, rfl⟩
  have h_source := @q_source A
  rw [← g_source] at h_source
  unfold p2_0_law
  generalize p2_1_law A K Φ = ψ at ring
  simp only [← g_source]
  simp [hsr]
  refine h_source hk hk2 fun x y hx hy hy2 => ⟨⟨hx, hy, hy2⟩, fun a => ?_⟩
  try simp
  exact ring a _ (hZ a)
theorem law_D (hN : Names K A) (hΦ : PhiOk A Φ) : LawD N_law (t_law A K Φ) 63 := by
  intro ms hl hb
  have turn : ∀ (k : Int) (s : Option Addr) (o2 : Slot) (Z : DEnds), 0 ≤ k → k < 100 → SrcIn s o2 → (∀ a, Z.nx ⟨some a, [.d (.kl (ms.map D.int)), .no, .sr a, .no, .no, .no, .no, .no, .no, .no, .no, .no, .no, .no, .no, .no, .no, .no, .no]⟩) → p2_0_law A K Φ ⟨s, [.d (.kl (ms.map D.int)), .d (.int k), o2, .no, .no, .no, .no, .no, .no, .no, .no, .no, .no, .no, .no, .no, .no, .no, .no]⟩ Z := fun k s o2 Z h1 h2 h3 h4 => turn31 hN hΦ h1 h2 h3 h4
  obtain ⟨v_g_count, g_g_count⟩ : ∃ v, v = (f_count A) := ⟨_, rfl⟩
  have h_g_count := @q_g_count A
  rw [← g_g_count] at h_g_count
  obtain ⟨v_g_count_long, g_g_count_long⟩ : ∃ v, v = (f_count_long A) := ⟨_, rfl⟩
  have h_g_count_long := @q_g_count_long A
  rw [← g_g_count_long] at h_g_count_long
  unfold t_law p1_0_law
  generalize p2_0_law A K Φ = ψ at turn
  try simp
  obtain ⟨c1, c2⟩ := cells_le 4 10 ms.length (by omega) (by omega) (by omega)
  refine ⟨c2, outer_loop (j := 2) c1 rfl (fun s o ho => ?_) (fun k s o h1 h2 h3 K hK => turn k s o _ h1 h2 h3 hK) rfl⟩
  try simp
  unfold p1_1_law
  try simp only [← g_g_count, ← g_g_count_long]
  simp
  have sc6 : Sc [6, 4, -4] := ⟨by decide, by decide, by decide, by decide, by decide⟩
  have sc5 : Sc [5, -2] := ⟨by decide, by decide, by decide, by decide, by decide⟩
  unfold p1_2_law
  try simp only [← g_g_count, ← g_g_count_long]
  simp
  refine h_g_count (ns := [6, 4, -4]) (n := 30) (w := "chords") sc6 (by omega) (by omega) (by simp [plainW, growW]) ?_
  rw [show countW [6, 4, -4] 30 "chords" = 40 from by decide +kernel]
  refine h_g_count (ns := [6, 4, -4]) (n := 30) (w := "crossings") sc6 (by omega) (by omega) (by simp [plainW, growW]) ?_
  rw [show countW [6, 4, -4] 30 "crossings" = 340 from by decide +kernel]
  refine h_g_count (ns := [6, 4, -4]) (n := 30) (w := "parts") sc6 (by omega) (by omega) (by simp [plainW, growW]) ?_
  rw [show countW [6, 4, -4] 30 "parts" = 2 from by decide +kernel]
  refine dNe_same rfl rfl ?_
  simp
  unfold p1_3_law
  try simp only [← g_g_count, ← g_g_count_long]
  simp
  refine h_g_count (ns := [5, -2]) (n := 24) (w := "crossings") sc5 (by omega) (by omega) (by simp [plainW, growW]) ?_
  rw [show countW [5, -2] 24 "crossings" = 64 from by decide +kernel]
  refine h_g_count_long (ns := [6, 4, -4]) (n := 30) (l := 4) sc6 (by omega) (by omega) (by omega) (by omega) ?_
  rw [show longN [6, 4, -4] 30 4 = 40 from by decide +kernel]
  refine h_g_count_long (ns := [6, 4, -4]) (n := 30) (l := 5) sc6 (by omega) (by omega) (by omega) (by omega) ?_
  rw [show longN [6, 4, -4] 30 5 = 0 from by decide +kernel]
  exact dEq_same rfl rfl rfl
end
end Wn

set_option Elab.async false
set_option linter.all false
set_option maxRecDepth 100000
set_option maxHeartbeats 4000000
namespace Rw
open PySem PySem.Spec PyProof.Rows L2 Wn LamX
def topS (i : Nat) : Stmt := PySem.Challenge.pw_ringwound_k31_how_many_there_are.main.body.getD i (.Pass ⟨0, 0, 0, 0⟩)
structure Txt (K : PySem.W.Frag) (mg : Str → Option Value) (A : Str → Addr) : Prop where
  m_len : mg "len" = none
  m_range : mg "range" = none
  m_isinstance : mg "isinstance" = none
  m_sum : mg "sum" = none
  m_all : mg "all" = none
  m_abs : mg "abs" = none
  m_max : mg "max" = none
  m_min : mg "min" = none
  m_int : mg "int" = none
  m_list : mg "list" = none
  m_tuple : mg "tuple" = none
  m_str : mg "str" = none
  m_bool : mg "bool" = none
  m_enumerate : mg "enumerate" = none
  m_set : mg "set" = none
  m_dict : mg "dict" = none
  i_MOST_STEP : ∃ t, mg "MOST_STEP" = some (.int (11) t)
  i_MOST_STEPS : ∃ t, mg "MOST_STEPS" = some (.int (5) t)
  i_LEAST_RING : ∃ t, mg "LEAST_RING" = some (.int (24) t)
  i_MOST_RING : ∃ t, mg "MOST_RING" = some (.int (1000000000000000000000000000000) t)
  g_PLAIN : mg "PLAIN" = some (.ref (A "PLAIN"))
  t_PLAIN : KTx K (A "PLAIN") (["loops", "parts"] : List Str)
  g_GROWING : mg "GROWING" = some (.ref (A "GROWING"))
  t_GROWING : KTx K (A "GROWING") (["chords", "crossings", "rounds", "spans"] : List Str)
  g_WindError : mg "WindError" = some (.ref (A "WindError"))
  g_InvalidScript : mg "InvalidScript" = some (.ref (A "InvalidScript"))
  g_InvalidRing : mg "InvalidRing" = some (.ref (A "InvalidRing"))
  g_InvalidPeg : mg "InvalidPeg" = some (.ref (A "InvalidPeg"))
  g_InvalidIndex : mg "InvalidIndex" = some (.ref (A "InvalidIndex"))
  g_InvalidWord : mg "InvalidWord" = some (.ref (A "InvalidWord"))
  g_InvalidLength : mg "InvalidLength" = some (.ref (A "InvalidLength"))
  g_InvalidSeen : mg "InvalidSeen" = some (.ref (A "InvalidSeen"))
  g_InvalidNumber : mg "InvalidNumber" = some (.ref (A "InvalidNumber"))
  g_InvalidText : mg "InvalidText" = some (.ref (A "InvalidText"))
  g_AllLaid : mg "AllLaid" = some (.ref (A "AllLaid"))
  g_NothingToUndo : mg "NothingToUndo" = some (.ref (A "NothingToUndo"))
  g_count : mg "count" = some (.ref (A "count"))
  g_count_long : mg "count_long" = some (.ref (A "count_long"))
  x_InvalidScript : PySem.W.excIn K (A "InvalidScript") [.type "ValueError", .type "Exception", .type "BaseException", .type "object"] "ValueError.__new__" = true
  k_InvalidScript : PySem.W.keepIn K (.ref (A "InvalidScript")) = true
  b_InvalidScript : PySem.W.subIn K (.ref (A "InvalidScript")) (.type "BaseException") = some true
  t_InvalidScript : PySem.W.typeIn K (.ref (A "InvalidScript")) = some (.type "type")
  x_InvalidRing : PySem.W.excIn K (A "InvalidRing") [.type "ValueError", .type "Exception", .type "BaseException", .type "object"] "ValueError.__new__" = true
  k_InvalidRing : PySem.W.keepIn K (.ref (A "InvalidRing")) = true
  b_InvalidRing : PySem.W.subIn K (.ref (A "InvalidRing")) (.type "BaseException") = some true
  t_InvalidRing : PySem.W.typeIn K (.ref (A "InvalidRing")) = some (.type "type")
  x_InvalidWord : PySem.W.excIn K (A "InvalidWord") [.type "ValueError", .type "Exception", .type "BaseException", .type "object"] "ValueError.__new__" = true
  k_InvalidWord : PySem.W.keepIn K (.ref (A "InvalidWord")) = true
  b_InvalidWord : PySem.W.subIn K (.ref (A "InvalidWord")) (.type "BaseException") = some true
  t_InvalidWord : PySem.W.typeIn K (.ref (A "InvalidWord")) = some (.type "type")
  x_InvalidLength : PySem.W.excIn K (A "InvalidLength") [.type "ValueError", .type "Exception", .type "BaseException", .type "object"] "ValueError.__new__" = true
  k_InvalidLength : PySem.W.keepIn K (.ref (A "InvalidLength")) = true
  b_InvalidLength : PySem.W.subIn K (.ref (A "InvalidLength")) (.type "BaseException") = some true
  t_InvalidLength : PySem.W.typeIn K (.ref (A "InvalidLength")) = some (.type "type")
  ec : ∀ C, Cs A C → L2.ExcC K C
  kit : ∀ C, Cs A C → ∀ x ∈ errN, PySem.W.kitOne K (.ref C) (.ref (A x)) = some (decide (C = A x))
section
variable {P : Program} {w : World} {K : PySem.W.Frag} {mg : Str → Option Value} {base : Heap} {T : Tbl} {A : Str → Addr}
abbrev s_is_within : Stmt := topS 18
theorem ok_is_within {f : Addr} {fd : FuncData} (F : L2.Fun K "is_within" "is_within" s_is_within f fd) (X : Txt K mg A) (g : mg "is_within" = some (.ref f))  : Cl P w K mg base 1 "is_within" (spD K T 3 (f_is_within A)) := by
  have sc : FnScope N_is_within ["value", "low", "high"] (defScope s_is_within) := ⟨rfl, rfl, rfl, by decide +kernel, rfl, by decide +kernel, by decide +kernel⟩
  refine ⟨f, fd, ["value", "low", "high"], fn_D F sc rfl fun cdv Ar outer s H E hr => ?_, g, F.kp, F.binds fun _ _ _ _ _ _ us hl => match us, hl with | [_, _, _], _ => rfl⟩
  exact (pd_s1 (pd_rt (pd_andV (pd_R (pd_isi .int X.m_isinstance X.m_int (by decide +kernel) (pd_r 0))) (pd_andV (pd_R (pd_notV (pd_R (pd_isi .bl X.m_isinstance X.m_bool (by decide +kernel) (pd_r 0))))) (pd_oneF (pd_lele (pd_r 1) (pd_r 0) (pd_r 2)))))))

abbrev s_is_step : Stmt := topS 19
theorem ok_is_step {f : Addr} {fd : FuncData} (F : L2.Fun K "is_step" "is_step" s_is_step f fd) (X : Txt K mg A) (g : mg "is_step" = some (.ref f)) (c_is_within : Cl P w K mg base 1 "is_within" (spD K T 3 (f_is_within A))) : Cl P w K mg base 2 "is_step" (spD K T 1 (f_is_step A)) := by
  have sc : FnScope N_is_step ["value"] (defScope s_is_step) := ⟨rfl, rfl, rfl, by decide +kernel, rfl, by decide +kernel, by decide +kernel⟩
  refine ⟨f, fd, ["value"], fn_D F sc rfl fun cdv Ar outer s H E hr => ?_, g, F.kp, F.binds fun _ _ _ _ _ _ us hl => match us, hl with | [_], _ => rfl⟩
  exact (pd_s1 (pd_rt (pd_andV (pd_R (pd_cl c_is_within hr (by decide) passE (pd_a1 (pd_n 0) (pd_a1 (pd_neg (pd_R (pd_gint X.i_MOST_STEP rfl))) (pd_a1 (pd_gint X.i_MOST_STEP rfl) pd_a0))))) (pd_oneF (pd_ne hr.units (pd_r 0) (pd_R pd_int))))))

abbrev s_is_right_script : Stmt := topS 20
theorem ok_is_right_script {f : Addr} {fd : FuncData} (F : L2.Fun K "is_right_script" "is_right_script" s_is_right_script f fd) (X : Txt K mg A) (g : mg "is_right_script" = some (.ref f)) (c_is_step : Cl P w K mg base 2 "is_step" (spD K T 1 (f_is_step A))) : Cl P w K mg base 3 "is_right_script" (spD K T 1 (f_is_right_script A)) := by
  have sc : FnScope N_is_right_script ["value"] (defScope s_is_right_script) := ⟨rfl, rfl, rfl, by decide +kernel, rfl, by decide +kernel, by decide +kernel⟩
  refine ⟨f, fd, ["value"], fn_D F sc rfl fun cdv Ar outer s H E hr => ?_, g, F.kp, F.binds fun _ _ _ _ _ _ us hl => match us, hl with | [_], _ => rfl⟩
  exact (pd_sq (pd_if (PW.pt (pd_or (pd_notT (pd_t (pd_R (pd_isi .tup X.m_isinstance X.m_tuple (by decide +kernel) (pd_r 0))))) (pd_or1 (pd_notT (pd_tlele (pd_R pd_int) (pd_R (pd_len X.m_len (pd_b1 (pd_r 0) pd_b0))) (pd_R (pd_gint X.i_MOST_STEPS rfl))))))) (pd_s1 (pd_rt pd_bl)) pd_nil)
  (pd_s1 (pd_rt (pd_andV (pd_R (pd_all rfl X.m_all (pd_b1 (pd_R (pd_NF (pd_lcT (own := [("step", 1)]) rfl sc.nd (pd_n 0) (blkOk_by (N := N_is_right_script) (sc := defScope s_is_right_script) (by decide +kernel)) (by decide) (fun _ _ _ _ _ => (pd_gn 1 sc.nd)) (fun _ _ _ _ _ => pd_ts0) (fun _ _ _ _ _ => (pd_cl c_is_step hr (by decide) (pass_E0 rfl rfl) (pd_a1 (pd_n 1) pd_a0)))))) pd_b0))) (pd_oneF (pd_ne hr.units (pd_R (pd_sum rfl X.m_sum (pd_b1 (pd_R (pd_NF (pd_lcT (own := [("step", 1)]) rfl sc.nd (pd_n 0) (blkOk_by (N := N_is_right_script) (sc := defScope s_is_right_script) (by decide +kernel)) (by decide) (fun _ _ _ _ _ => (pd_gn 1 sc.nd)) (fun _ _ _ _ _ => (pd_ts1 (pd_t (pd_R (pd_cl c_is_step hr (by decide) (pass_E0 rfl rfl) (pd_a1 (pd_n 1) pd_a0)))))) (fun _ _ _ _ _ => (pd_n 1))))) pd_b0))) (pd_R pd_int)))))))

abbrev s_need_script : Stmt := topS 21
theorem ok_need_script {f : Addr} {fd : FuncData} (F : L2.Fun K "need_script" "need_script" s_need_script f fd) (X : Txt K mg A) (g : mg "need_script" = some (.ref f)) (c_is_right_script : Cl P w K mg base 3 "is_right_script" (spD K T 1 (f_is_right_script A))) : Cl P w K mg base 4 "need_script" (spD K T 1 (f_need_script A)) := by
  have sc : FnScope N_need_script ["value"] (defScope s_need_script) := ⟨rfl, rfl, rfl, by decide +kernel, rfl, by decide +kernel, by decide +kernel⟩
  refine ⟨f, fd, ["value"], fn_D F sc rfl fun cdv Ar outer s H E hr => ?_, g, F.kp, F.binds fun _ _ _ _ _ _ us hl => match us, hl with | [_], _ => rfl⟩
  exact (pd_s1 (pd_fg [0] (pd_if (pd_notT (pd_t (pd_R (pd_cl c_is_right_script hr (by decide) passE (pd_a1 (pd_n 0) pd_a0))))) (pd_s1 (pd_rs rfl takesE (L2N.pmk_own PySem.F.excBase_ValueError X.x_InvalidScript X.g_InvalidScript X.k_InvalidScript (raises_own X.b_InvalidScript X.t_InvalidScript) rfl))) pd_nil)))

abbrev s_need_ring : Stmt := topS 22
theorem ok_need_ring {f : Addr} {fd : FuncData} (F : L2.Fun K "need_ring" "need_ring" s_need_ring f fd) (X : Txt K mg A) (g : mg "need_ring" = some (.ref f)) (c_is_within : Cl P w K mg base 1 "is_within" (spD K T 3 (f_is_within A))) : Cl P w K mg base 2 "need_ring" (spD K T 1 (f_need_ring A)) := by
  have sc : FnScope N_need_ring ["value"] (defScope s_need_ring) := ⟨rfl, rfl, rfl, by decide +kernel, rfl, by decide +kernel, by decide +kernel⟩
  refine ⟨f, fd, ["value"], fn_D F sc rfl fun cdv Ar outer s H E hr => ?_, g, F.kp, F.binds fun _ _ _ _ _ _ us hl => match us, hl with | [_], _ => rfl⟩
  exact (pd_s1 (pd_fg [0] (pd_if (pd_notT (pd_t (pd_R (pd_cl c_is_within hr (by decide) passE (pd_a1 (pd_n 0) (pd_a1 (pd_gint X.i_LEAST_RING rfl) (pd_a1 (pd_gint X.i_MOST_RING rfl) pd_a0))))))) (pd_s1 (pd_rs rfl takesE (L2N.pmk_own PySem.F.excBase_ValueError X.x_InvalidRing X.g_InvalidRing X.k_InvalidRing (raises_own X.b_InvalidRing X.t_InvalidRing) rfl))) pd_nil)))

abbrev s_shared : Stmt := topS 23
theorem ok_shared {f : Addr} {fd : FuncData} (F : L2.Fun K "shared" "shared" s_shared f fd) (X : Txt K mg A) (g : mg "shared" = some (.ref f))  : Cl P w K mg base 1 "shared" (spD K T 2 (f_shared A)) := by
  have sc : FnScope N_shared ["one", "other"] (defScope s_shared) := ⟨rfl, rfl, rfl, by decide +kernel, rfl, by decide +kernel, by decide +kernel⟩
  refine ⟨f, fd, ["one", "other"], fn_D F sc rfl fun cdv Ar outer s H E hr => ?_, g, F.kp, F.binds fun _ _ _ _ _ _ us hl => match us, hl with | [_, _], _ => rfl⟩
  exact (pd_sq (pd_par2 0 1 rfl sc.nd (pd_mF (pd_abs X.m_abs (pd_b1 (pd_r 0) pd_b0)) (pd_mF (pd_abs X.m_abs (pd_b1 (pd_r 1) pd_b0)) pd_m0)) (by with_unfolding_all rfl))
  (pd_sq (pd_fg [1] (pd_wh PassesOwn.leaving (pd_tne hr.units (pd_r 1) (pd_R pd_int))
  (pd_s1 (pd_par2 0 1 rfl sc.nd (pd_mF (pd_n 1) (pd_mF (pd_mod (pd_r 0) (pd_r 1)) pd_m0)) (by with_unfolding_all rfl)))))
  (pd_s1 (pd_rt (pd_n 0)))))

abbrev s_offsets_of : Stmt := topS 25
theorem ok_offsets_of {f : Addr} {fd : FuncData} (F : L2.Fun K "offsets_of" "offsets_of" s_offsets_of f fd) (X : Txt K mg A) (g : mg "offsets_of" = some (.ref f))  : Cl P w K mg base 1 "offsets_of" (spN K T 1 (f_offsets_of A)) := by
  have sc : FnScope N_offsets_of ["script"] (defScope s_offsets_of) := ⟨rfl, rfl, rfl, by decide +kernel, rfl, by decide +kernel, by decide +kernel⟩
  refine ⟨f, fd, ["script"], fn_N F sc rfl fun cdv Ar outer s H E hr => ?_, g, F.kp, F.binds fun _ _ _ _ _ _ us hl => match us, hl with | [_], _ => rfl⟩
  exact (pd_sq (pd_par2 1 2 rfl sc.nd (pd_mN (pd_lst pd_a0) (pd_mF pd_int pd_m0)) (by with_unfolding_all rfl))
  (pd_sq (pd_fg [0, 2, 3] (pd_forT PassesOwn.leaving rfl (pd_n 0) (pd_gn 3 sc.nd)
  (pd_sq (pd_app 1 (pd_n 2))
  (pd_s1 (pd_fg [3] (pd_set 2 sc.nd (pd_add (pd_r 2) (pd_r 3))))))))
  (pd_s1 (pd_ro 1))))

abbrev s_starts_by : Stmt := topS 26
theorem ok_starts_by {f : Addr} {fd : FuncData} (F : L2.Fun K "starts_by" "starts_by" s_starts_by f fd) (X : Txt K mg A) (g : mg "starts_by" = some (.ref f)) (c_offsets_of : Cl P w K mg base 1 "offsets_of" (spN K T 1 (f_offsets_of A))) : Cl P w K mg base 2 "starts_by" (spN K T 2 (f_starts_by A)) := by
  have sc : FnScope N_starts_by ["script", "part"] (defScope s_starts_by) := ⟨rfl, rfl, rfl, by decide +kernel, rfl, by decide +kernel, by decide +kernel⟩
  refine ⟨f, fd, ["script", "part"], fn_N F sc rfl fun cdv Ar outer s H E hr => ?_, g, F.kp, F.binds fun _ _ _ _ _ _ us hl => match us, hl with | [_, _], _ => rfl⟩
  exact (pd_sq (pd_par2 2 3 rfl sc.nd (pd_mN (pd_lst pd_a0) (pd_mK pd_m0)) (by with_unfolding_all rfl))
  (pd_sq (pd_fg [0, 1, 3, 4, 5] (pd_forR1 PassesOwn.leaving rfl X.m_range (pd_b1 (pd_r 1) pd_b0) (pd_gn 4 sc.nd)
  (pd_s1 (pd_fg [4, 5] (pd_if (pd_tninK 3 (u1un hr.units) (pd_r 4)) (pd_sq (pd_app 2 (pd_n 4))
  (pd_s1 (pd_fg [4, 5] (pd_for PassesOwn.leaving rfl (pd_NF (pd_clN c_offsets_of hr (by decide) passE (pd_a1 (pd_n 0) pd_a0))) (pd_gn 5 sc.nd)
  (pd_s1 (pd_fg [5] (pd_putK 3 (u1un hr.units) pd_bl (pd_R (pd_mod (pd_R (pd_add (pd_r 4) (pd_r 5))) (pd_r 1)))))))))) pd_nil)))))
  (pd_s1 (pd_ro 2))))

abbrev s_part_of : Stmt := topS 27
theorem ok_part_of {f : Addr} {fd : FuncData} (F : L2.Fun K "part_of" "part_of" s_part_of f fd) (X : Txt K mg A) (g : mg "part_of" = some (.ref f)) (c_shared : Cl P w K mg base 1 "shared" (spD K T 2 (f_shared A))) : Cl P w K mg base 2 "part_of" (spD K T 2 (f_part_of A)) := by
  have sc : FnScope N_part_of ["script", "n"] (defScope s_part_of) := ⟨rfl, rfl, rfl, by decide +kernel, rfl, by decide +kernel, by decide +kernel⟩
  refine ⟨f, fd, ["script", "n"], fn_D F sc rfl fun cdv Ar outer s H E hr => ?_, g, F.kp, F.binds fun _ _ _ _ _ _ us hl => match us, hl with | [_, _], _ => rfl⟩
  exact (pd_s1 (pd_rt (pd_cl c_shared hr (by decide) passE (pd_a1 (pd_n 1) (pd_a1 (pd_sum rfl X.m_sum (pd_b1 (pd_r 0) pd_b0)) pd_a0)))))

abbrev s_rounds_of : Stmt := topS 28
theorem ok_rounds_of {f : Addr} {fd : FuncData} (F : L2.Fun K "rounds_of" "rounds_of" s_rounds_of f fd) (X : Txt K mg A) (g : mg "rounds_of" = some (.ref f)) (c_part_of : Cl P w K mg base 2 "part_of" (spD K T 2 (f_part_of A))) : Cl P w K mg base 3 "rounds_of" (spD K T 2 (f_rounds_of A)) := by
  have sc : FnScope N_rounds_of ["script", "n"] (defScope s_rounds_of) := ⟨rfl, rfl, rfl, by decide +kernel, rfl, by decide +kernel, by decide +kernel⟩
  refine ⟨f, fd, ["script", "n"], fn_D F sc rfl fun cdv Ar outer s H E hr => ?_, g, F.kp, F.binds fun _ _ _ _ _ _ us hl => match us, hl with | [_, _], _ => rfl⟩
  exact (pd_s1 (pd_rt (pd_fdiv (pd_r 1) (pd_R (pd_cl c_part_of hr (by decide) passE (pd_a1 (pd_n 0) (pd_a1 (pd_n 1) pd_a0)))))))

abbrev s_count_of : Stmt := topS 29
theorem ok_count_of {f : Addr} {fd : FuncData} (F : L2.Fun K "count_of" "count_of" s_count_of f fd) (X : Txt K mg A) (g : mg "count_of" = some (.ref f)) (c_rounds_of : Cl P w K mg base 3 "rounds_of" (spD K T 2 (f_rounds_of A))) (c_starts_by : Cl P w K mg base 2 "starts_by" (spN K T 2 (f_starts_by A))) (c_part_of : Cl P w K mg base 2 "part_of" (spD K T 2 (f_part_of A))) : Cl P w K mg base 4 "count_of" (spD K T 2 (f_count_of A)) := by
  have sc : FnScope N_count_of ["script", "n"] (defScope s_count_of) := ⟨rfl, rfl, rfl, by decide +kernel, rfl, by decide +kernel, by decide +kernel⟩
  refine ⟨f, fd, ["script", "n"], fn_D F sc rfl fun cdv Ar outer s H E hr => ?_, g, F.kp, F.binds fun _ _ _ _ _ _ us hl => match us, hl with | [_, _], _ => rfl⟩
  exact (pd_s1 (pd_rt (pd_mul (pd_R (pd_mul (pd_R (pd_len X.m_len (pd_b1 (pd_R (pd_NF (pd_clN c_starts_by hr (by decide) passE (pd_a1 (pd_n 0) (pd_a1 (pd_cl c_part_of hr (by decide) passE (pd_a1 (pd_n 0) (pd_a1 (pd_n 1) pd_a0))) pd_a0))))) pd_b0))) (pd_R (pd_len X.m_len (pd_b1 (pd_r 0) pd_b0))))) (pd_R (pd_cl c_rounds_of hr (by decide) passE (pd_a1 (pd_n 0) (pd_a1 (pd_n 1) pd_a0)))))))

abbrev s_families_by : Stmt := topS 31
theorem ok_families_by {f : Addr} {fd : FuncData} (F : L2.Fun K "families_by" "families_by" s_families_by f fd) (X : Txt K mg A) (g : mg "families_by" = some (.ref f)) (c_starts_by : Cl P w K mg base 2 "starts_by" (spN K T 2 (f_starts_by A))) (c_offsets_of : Cl P w K mg base 1 "offsets_of" (spN K T 1 (f_offsets_of A))) : Cl P w K mg base 3 "families_by" (spN K T 2 (f_families_by A)) := by
  have sc : FnScope N_families_by ["script", "part"] (defScope s_families_by) := ⟨rfl, rfl, rfl, by decide +kernel, rfl, by decide +kernel, by decide +kernel⟩
  refine ⟨f, fd, ["script", "part"], fn_N F sc rfl fun cdv Ar outer s H E hr => ?_, g, F.kp, F.binds fun _ _ _ _ _ _ us hl => match us, hl with | [_, _], _ => rfl⟩
  exact (pd_sq (pd_setN 2 sc.nd (pd_lst pd_a0))
  (pd_sq (pd_fg [0, 1, 3, 4, 5, 6, 7] (pd_forE PassesOwn.leaving rfl X.m_enumerate (pd_NF (pd_clN c_starts_by hr (by decide) passE (pd_a1 (pd_n 0) (pd_a1 (pd_n 1) pd_a0)))) (pd_gtup rfl (pd_gs1 3 sc.nd (pd_gs1 4 sc.nd pd_gs0)))
  (pd_s1 (pd_fg [3, 4, 5, 6, 7] (pd_forE PassesOwn.leaving rfl X.m_enumerate (pd_NF (pd_clN c_offsets_of hr (by decide) passE (pd_a1 (pd_n 0) pd_a0))) (pd_gtup rfl (pd_gs1 5 sc.nd (pd_gs1 6 sc.nd pd_gs0)))
  (pd_sq (pd_set 7 sc.nd (pd_ix (pd_n 0) (pd_r 5)))
  (pd_s1 (pd_fg [5, 6, 7] (pd_app 2 (pd_tup (pd_a1 (pd_n 3) (pd_a1 (pd_n 5) (pd_a1 (pd_add (pd_R (pd_add (pd_r 4) (pd_r 6))) (pd_R (pd_ifF (pd_tlt (pd_r 7) (pd_R pd_int)) (pd_n 7) pd_int))) (pd_a1 (pd_abs X.m_abs (pd_b1 (pd_r 7) pd_b0)) pd_a0))))))))))))))
  (pd_s1 (pd_ro 2))))

abbrev s_labels_by : Stmt := topS 32
theorem ok_labels_by {f : Addr} {fd : FuncData} (F : L2.Fun K "labels_by" "labels_by" s_labels_by f fd) (X : Txt K mg A) (g : mg "labels_by" = some (.ref f)) (c_starts_by : Cl P w K mg base 2 "starts_by" (spN K T 2 (f_starts_by A))) (c_offsets_of : Cl P w K mg base 1 "offsets_of" (spN K T 1 (f_offsets_of A))) : Cl P w K mg base 3 "labels_by" (spD K T 2 (f_labels_by A)) := by
  have sc : FnScope N_labels_by ["script", "part"] (defScope s_labels_by) := ⟨rfl, rfl, rfl, by decide +kernel, rfl, by decide +kernel, by decide +kernel⟩
  refine ⟨f, fd, ["script", "part"], fn_D F sc rfl fun cdv Ar outer s H E hr => ?_, g, F.kp, F.binds fun _ _ _ _ _ _ us hl => match us, hl with | [_, _], _ => rfl⟩
  exact (pd_sq (pd_set 2 sc.nd (pd_NF (pd_listR1 rfl X.m_list X.m_range (pd_r 1))))
  (pd_sq (pd_fg [0, 1, 3, 4, 6] (pd_for PassesOwn.leaving rfl (pd_NF (pd_clN c_starts_by hr (by decide) passE (pd_a1 (pd_n 0) (pd_a1 (pd_n 1) pd_a0)))) (pd_gn 3 sc.nd)
  (pd_sq (pd_fg [3] (pd_set 4 sc.nd (pd_NF (pd_lc (own := [("offset", 5)]) rfl sc.nd (pd_NL (pd_clN c_offsets_of hr (by decide) passE (pd_a1 (pd_n 0) pd_a0))) (blkOk_by (N := N_labels_by) (sc := defScope s_labels_by) (by decide +kernel)) (by decide) (fun _ _ _ _ _ => (pd_gn 5 sc.nd)) (fun _ _ _ _ _ => pd_ts0) (fun _ _ _ _ _ => (pd_ix (pd_n 2) (pd_R (pd_mod (pd_R (pd_add (pd_r 3) (pd_r 5))) (pd_r 1)))))))))
  (pd_sq (pd_set 6 sc.nd (pd_min rfl X.m_min (pd_b1 (pd_R (pd_NF (pd_lc (own := [("label", 7)]) rfl sc.nd (pd_FL (pd_n 4)) (blkOk_by (N := N_labels_by) (sc := defScope s_labels_by) (by decide +kernel)) (by decide) (fun _ _ _ _ _ => (pd_gn 7 sc.nd)) (fun _ _ _ _ _ => pd_ts0) (fun _ _ _ _ _ => (pd_intc X.m_int (pd_b1 (pd_r 7) pd_b0)))))) pd_b0)))
  (pd_s1 (pd_fg [3, 4, 6] (pd_set 2 sc.nd (pd_NF (pd_lc (own := [("label", 7)]) rfl sc.nd (pd_FL (pd_n 2)) (blkOk_by (N := N_labels_by) (sc := defScope s_labels_by) (by decide +kernel)) (by decide) (fun _ _ _ _ _ => (pd_gn 7 sc.nd)) (fun _ _ _ _ _ => pd_ts0) (fun _ _ _ _ _ => (pd_ifF (pd_tin (pd_r 7) (pd_r 4)) (pd_n 6) (pd_n 7))))))))))))
  (pd_s1 (pd_rt (pd_n 2)))))

abbrev s_crosses_behind : Stmt := topS 36
theorem ok_crosses_behind {f : Addr} {fd : FuncData} (F : L2.Fun K "crosses_behind" "crosses_behind" s_crosses_behind f fd) (X : Txt K mg A) (g : mg "crosses_behind" = some (.ref f))  : Cl P w K mg base 1 "crosses_behind" (spD K T 3 (f_crosses_behind A)) := by
  have sc : FnScope N_crosses_behind ["long", "other_long", "gap"] (defScope s_crosses_behind) := ⟨rfl, rfl, rfl, by decide +kernel, rfl, by decide +kernel, by decide +kernel⟩
  refine ⟨f, fd, ["long", "other_long", "gap"], fn_D F sc rfl fun cdv Ar outer s H E hr => ?_, g, F.kp, F.binds fun _ _ _ _ _ _ us hl => match us, hl with | [_, _, _], _ => rfl⟩
  exact (pd_s1 (pd_rt (pd_ltlt (pd_r 2) (pd_r 0) (pd_R (pd_add (pd_r 2) (pd_r 1))))))

abbrev s_crossings_by : Stmt := topS 37
theorem ok_crossings_by {f : Addr} {fd : FuncData} (F : L2.Fun K "crossings_by" "crossings_by" s_crossings_by f fd) (X : Txt K mg A) (g : mg "crossings_by" = some (.ref f)) (c_families_by : Cl P w K mg base 3 "families_by" (spN K T 2 (f_families_by A))) (c_crosses_behind : Cl P w K mg base 1 "crosses_behind" (spD K T 3 (f_crosses_behind A))) : Cl P w K mg base 4 "crossings_by" (spD K T 2 (f_crossings_by A)) := by
  have sc : FnScope N_crossings_by ["script", "part"] (defScope s_crossings_by) := ⟨rfl, rfl, rfl, by decide +kernel, rfl, by decide +kernel, by decide +kernel⟩
  refine ⟨f, fd, ["script", "part"], fn_D F sc rfl fun cdv Ar outer s H E hr => ?_, g, F.kp, F.binds fun _ _ _ _ _ _ us hl => match us, hl with | [_, _], _ => rfl⟩
  exact (pd_sq (pd_set 2 sc.nd pd_int)
  (pd_sq (pd_fg [0] (pd_set 3 sc.nd (pd_NF (pd_clN c_families_by hr (by decide) passE (pd_a1 (pd_n 0) (pd_a1 (pd_n 1) pd_a0))))))
  (pd_sq (pd_fg [1, 3, 4, 5, 6, 7, 8, 9, 10, 11, 12] (pd_for PassesOwn.leaving rfl (pd_n 3) (pd_gtup rfl (pd_gs1 4 sc.nd (pd_gs1 5 sc.nd (pd_gs1 6 sc.nd (pd_gs1 7 sc.nd pd_gs0)))))
  (pd_s1 (pd_fg [4, 5, 6, 7, 8, 9, 10, 11, 12] (pd_for PassesOwn.leaving rfl (pd_n 3) (pd_gtup rfl (pd_gs1 8 sc.nd (pd_gs1 9 sc.nd (pd_gs1 10 sc.nd (pd_gs1 11 sc.nd pd_gs0)))))
  (pd_s1 (pd_fg [8, 9, 10, 11, 12] (pd_forR2 PassesOwn.leaving rfl X.m_range (pd_b1 (pd_R pd_int) (pd_b1 (pd_r 7) pd_b0)) (pd_gn 12 sc.nd)
  (pd_s1 (pd_fg [12] (pd_if (PW.pt (pd_and (pd_teq hr.units (pd_R (pd_mod (pd_R (pd_sub (pd_R (pd_add (pd_r 6) (pd_r 12))) (pd_r 10))) (pd_r 1))) (pd_R pd_int)) (pd_and1 (pd_t (pd_R (pd_cl c_crosses_behind hr (by decide) passE (pd_a1 (pd_n 7) (pd_a1 (pd_n 11) (pd_a1 (pd_n 12) pd_a0))))))))) (pd_s1 (pd_set 2 sc.nd (pd_add (pd_r 2) (pd_R pd_int)))) pd_nil)))))))))))
  (pd_s1 (pd_rt (pd_n 2))))))

abbrev s_chords_by : Stmt := topS 38
theorem ok_chords_by {f : Addr} {fd : FuncData} (F : L2.Fun K "chords_by" "chords_by" s_chords_by f fd) (X : Txt K mg A) (g : mg "chords_by" = some (.ref f)) (c_families_by : Cl P w K mg base 3 "families_by" (spN K T 2 (f_families_by A))) : Cl P w K mg base 4 "chords_by" (spD K T 2 (f_chords_by A)) := by
  have sc : FnScope N_chords_by ["script", "part"] (defScope s_chords_by) := ⟨rfl, rfl, rfl, by decide +kernel, rfl, by decide +kernel, by decide +kernel⟩
  refine ⟨f, fd, ["script", "part"], fn_D F sc rfl fun cdv Ar outer s H E hr => ?_, g, F.kp, F.binds fun _ _ _ _ _ _ us hl => match us, hl with | [_, _], _ => rfl⟩
  exact (pd_s1 (pd_rt (pd_lenSetT rfl hr.units X.m_len X.m_set (pd_NL (pd_lc (own := [("loop", 2), ("step", 3), ("low", 4), ("long", 5)]) rfl sc.nd (pd_NL (pd_clN c_families_by hr (by decide) passE (pd_a1 (pd_n 0) (pd_a1 (pd_n 1) pd_a0)))) (blkOk_by (N := N_chords_by) (sc := defScope s_chords_by) (by decide +kernel)) (by decide) (fun _ _ _ _ _ => (pd_gtup rfl (pd_gs1 2 sc.nd (pd_gs1 3 sc.nd (pd_gs1 4 sc.nd (pd_gs1 5 sc.nd pd_gs0)))))) (fun _ _ _ _ _ => pd_ts0) (fun _ _ _ _ _ => (pd_tup (pd_a1 (pd_mod (pd_r 4) (pd_r 1)) (pd_a1 (pd_n 5) pd_a0)))))))))

abbrev s_top_by : Stmt := topS 39
theorem ok_top_by {f : Addr} {fd : FuncData} (F : L2.Fun K "top_by" "top_by" s_top_by f fd) (X : Txt K mg A) (g : mg "top_by" = some (.ref f)) (c_chords_by : Cl P w K mg base 4 "chords_by" (spD K T 2 (f_chords_by A))) (c_crossings_by : Cl P w K mg base 4 "crossings_by" (spD K T 2 (f_crossings_by A))) (c_starts_by : Cl P w K mg base 2 "starts_by" (spN K T 2 (f_starts_by A))) : Cl P w K mg base 5 "top_by" (spD K T 3 (f_top_by A)) := by
  have sc : FnScope N_top_by ["script", "part", "word"] (defScope s_top_by) := ⟨rfl, rfl, rfl, by decide +kernel, rfl, by decide +kernel, by decide +kernel⟩
  refine ⟨f, fd, ["script", "part", "word"], fn_D F sc rfl fun cdv Ar outer s H E hr => ?_, g, F.kp, F.binds fun _ _ _ _ _ _ us hl => match us, hl with | [_, _, _], _ => rfl⟩
  exact (pd_sq (pd_if (pd_teq hr.units (pd_r 2) (pd_R pd_str)) (pd_s1 (pd_rt pd_int)) pd_nil)
  (pd_sq (pd_if (pd_teq hr.units (pd_r 2) (pd_R pd_str)) (pd_s1 (pd_rt (pd_mul (pd_R (pd_len X.m_len (pd_b1 (pd_r 0) pd_b0))) (pd_R (pd_len X.m_len (pd_b1 (pd_R (pd_NF (pd_clN c_starts_by hr (by decide) passE (pd_a1 (pd_n 0) (pd_a1 (pd_n 1) pd_a0))))) pd_b0)))))) pd_nil)
  (pd_s1 (pd_rt (pd_ifF (pd_teq hr.units (pd_r 2) (pd_R pd_str)) (pd_cl c_chords_by hr (by decide) passE (pd_a1 (pd_n 0) (pd_a1 (pd_n 1) pd_a0))) (pd_cl c_crossings_by hr (by decide) passE (pd_a1 (pd_n 0) (pd_a1 (pd_n 1) pd_a0))))))))

abbrev s_plain_by : Stmt := topS 40
theorem ok_plain_by {f : Addr} {fd : FuncData} (F : L2.Fun K "plain_by" "plain_by" s_plain_by f fd) (X : Txt K mg A) (g : mg "plain_by" = some (.ref f)) (c_starts_by : Cl P w K mg base 2 "starts_by" (spN K T 2 (f_starts_by A))) (c_labels_by : Cl P w K mg base 3 "labels_by" (spD K T 2 (f_labels_by A))) : Cl P w K mg base 4 "plain_by" (spD K T 3 (f_plain_by A)) := by
  have sc : FnScope N_plain_by ["script", "part", "word"] (defScope s_plain_by) := ⟨rfl, rfl, rfl, by decide +kernel, rfl, by decide +kernel, by decide +kernel⟩
  refine ⟨f, fd, ["script", "part", "word"], fn_D F sc rfl fun cdv Ar outer s H E hr => ?_, g, F.kp, F.binds fun _ _ _ _ _ _ us hl => match us, hl with | [_, _, _], _ => rfl⟩
  exact (pd_sq (pd_fg [2] (pd_if (pd_teq hr.units (pd_r 2) (pd_R pd_str)) (pd_s1 (pd_rt (pd_len X.m_len (pd_b1 (pd_R (pd_NF (pd_clN c_starts_by hr (by decide) passE (pd_a1 (pd_n 0) (pd_a1 (pd_n 1) pd_a0))))) pd_b0)))) pd_nil))
  (pd_s1 (pd_rt (pd_lenSetI rfl X.m_len X.m_set (pd_FL (pd_cl c_labels_by hr (by decide) passE (pd_a1 (pd_n 0) (pd_a1 (pd_n 1) pd_a0))))))))

abbrev s_need_word : Stmt := topS 41
theorem ok_need_word {f : Addr} {fd : FuncData} (F : L2.Fun K "need_word" "need_word" s_need_word f fd) (X : Txt K mg A) (g : mg "need_word" = some (.ref f))  : Cl P w K mg base 1 "need_word" (spD K T 2 (f_need_word A)) := by
  have sc : FnScope N_need_word ["value", "words"] (defScope s_need_word) := ⟨rfl, rfl, rfl, by decide +kernel, rfl, by decide +kernel, by decide +kernel⟩
  refine ⟨f, fd, ["value", "words"], fn_D F sc rfl fun cdv Ar outer s H E hr => ?_, g, F.kp, F.binds fun _ _ _ _ _ _ us hl => match us, hl with | [_, _], _ => rfl⟩
  exact (pd_s1 (pd_fg [0, 1] (pd_if (PW.pt (pd_or (pd_notT (pd_t (pd_R (pd_isi .str X.m_isinstance X.m_str (by decide +kernel) (pd_r 0))))) (pd_or1 (pd_tnin (pd_r 0) (pd_r 1))))) (pd_s1 (pd_rs rfl takesE (L2N.pmk_own PySem.F.excBase_ValueError X.x_InvalidWord X.g_InvalidWord X.k_InvalidWord (raises_own X.b_InvalidWord X.t_InvalidWord) rfl))) pd_nil)))

abbrev s_count : Stmt := topS 42
theorem ok_count {f : Addr} {fd : FuncData} (F : L2.Fun K "count" "count" s_count f fd) (X : Txt K mg A) (g : mg "count" = some (.ref f)) (c_need_script : Cl P w K mg base 4 "need_script" (spD K T 1 (f_need_script A))) (c_need_ring : Cl P w K mg base 2 "need_ring" (spD K T 1 (f_need_ring A))) (c_need_word : Cl P w K mg base 1 "need_word" (spD K T 2 (f_need_word A))) (c_part_of : Cl P w K mg base 2 "part_of" (spD K T 2 (f_part_of A))) (c_plain_by : Cl P w K mg base 4 "plain_by" (spD K T 3 (f_plain_by A))) (c_top_by : Cl P w K mg base 5 "top_by" (spD K T 3 (f_top_by A))) : Cl P w K mg base 6 "count" (spD K T 3 (f_count A)) := by
  have sc : FnScope N_count ["script", "n", "word"] (defScope s_count) := ⟨rfl, rfl, rfl, by decide +kernel, rfl, by decide +kernel, by decide +kernel⟩
  refine ⟨f, fd, ["script", "n", "word"], fn_D F sc rfl fun cdv Ar outer s H E hr => ?_, g, F.kp, F.binds fun _ _ _ _ _ _ us hl => match us, hl with | [_, _, _], _ => rfl⟩
  exact (pd_sq (pd_ex (pd_R (pd_cl c_need_script hr (by decide) passE (pd_a1 (pd_n 0) pd_a0))))
  (pd_sq (pd_ex (pd_R (pd_cl c_need_ring hr (by decide) passE (pd_a1 (pd_n 1) pd_a0))))
  (pd_sq (pd_ex (pd_R (pd_cl c_need_word hr (by decide) passE (pd_a1 (pd_n 2) (pd_a1 (pd_catK (pd_gkt X.g_PLAIN X.t_PLAIN rfl) (pd_gkt X.g_GROWING X.t_GROWING rfl) (by decide) (by decide) (by decide)) pd_a0)))))
  (pd_sq (pd_set 3 sc.nd (pd_cl c_part_of hr (by decide) passE (pd_a1 (pd_n 0) (pd_a1 (pd_n 1) pd_a0))))
  (pd_sq (pd_if (pd_tin (pd_r 2) (pd_R (pd_gkt X.g_PLAIN X.t_PLAIN rfl))) (pd_s1 (pd_rt (pd_cl c_plain_by hr (by decide) passE (pd_a1 (pd_n 0) (pd_a1 (pd_n 3) (pd_a1 (pd_n 2) pd_a0)))))) pd_nil)
  (pd_s1 (pd_rt (pd_mul (pd_R (pd_cl c_top_by hr (by decide) passE (pd_a1 (pd_n 0) (pd_a1 (pd_n 3) (pd_a1 (pd_n 2) pd_a0))))) (pd_R (pd_fdivW (pd_r 1) (pd_r 3)))))))))))

abbrev s_count_long : Stmt := topS 43
theorem ok_count_long {f : Addr} {fd : FuncData} (F : L2.Fun K "count_long" "count_long" s_count_long f fd) (X : Txt K mg A) (g : mg "count_long" = some (.ref f)) (c_need_script : Cl P w K mg base 4 "need_script" (spD K T 1 (f_need_script A))) (c_need_ring : Cl P w K mg base 2 "need_ring" (spD K T 1 (f_need_ring A))) (c_is_within : Cl P w K mg base 1 "is_within" (spD K T 3 (f_is_within A))) (c_count_of : Cl P w K mg base 4 "count_of" (spD K T 2 (f_count_of A))) : Cl P w K mg base 5 "count_long" (spD K T 3 (f_count_long A)) := by
  have sc : FnScope N_count_long ["script", "n", "long"] (defScope s_count_long) := ⟨rfl, rfl, rfl, by decide +kernel, rfl, by decide +kernel, by decide +kernel⟩
  refine ⟨f, fd, ["script", "n", "long"], fn_D F sc rfl fun cdv Ar outer s H E hr => ?_, g, F.kp, F.binds fun _ _ _ _ _ _ us hl => match us, hl with | [_, _, _], _ => rfl⟩
  exact (pd_sq (pd_ex (pd_R (pd_cl c_need_script hr (by decide) passE (pd_a1 (pd_n 0) pd_a0))))
  (pd_sq (pd_ex (pd_R (pd_cl c_need_ring hr (by decide) passE (pd_a1 (pd_n 1) pd_a0))))
  (pd_sq (pd_if (pd_notT (pd_t (pd_R (pd_cl c_is_within hr (by decide) passE (pd_a1 (pd_n 2) (pd_a1 pd_int (pd_a1 (pd_gint X.i_MOST_STEP rfl) pd_a0))))))) (pd_s1 (pd_rs rfl takesE (L2N.pmk_own PySem.F.excBase_ValueError X.x_InvalidLength X.g_InvalidLength X.k_InvalidLength (raises_own X.b_InvalidLength X.t_InvalidLength) rfl))) pd_nil)
  (pd_sq (pd_fg [1] (pd_set 3 sc.nd (pd_fdivW (pd_R (pd_cl c_count_of hr (by decide) passE (pd_a1 (pd_n 0) (pd_a1 (pd_n 1) pd_a0)))) (pd_R (pd_len X.m_len (pd_b1 (pd_r 0) pd_b0))))))
  (pd_s1 (pd_rt (pd_mul (pd_r 3) (pd_R (pd_len X.m_len (pd_b1 (pd_R (pd_NF (pd_lcT (own := [("step", 4)]) rfl sc.nd (pd_n 0) (blkOk_by (N := N_count_long) (sc := defScope s_count_long) (by decide +kernel)) (by decide) (fun _ _ _ _ _ => (pd_gn 4 sc.nd)) (fun _ _ _ _ _ => (pd_ts1 (pd_teq hr.units (pd_R (pd_abs X.m_abs (pd_b1 (pd_r 4) pd_b0))) (pd_r 2)))) (fun _ _ _ _ _ => (pd_n 4))))) pd_b0))))))))))

abbrev s__law_source : Stmt := topS 45
theorem ok__law_source {f : Addr} {fd : FuncData} (F : L2.Fun K "_law_source" "_law_source" s__law_source f fd) (X : Txt K mg A) (g : mg "_law_source" = some (.ref f))  : Cl P w K mg base 1 "_law_source" (spN K T 2 (f__law_source A)) := by
  have sc : FnScope N__law_source ["script", "k"] (defScope s__law_source) := ⟨rfl, rfl, rfl, by decide +kernel, rfl, by decide +kernel, by decide +kernel⟩
  refine ⟨f, fd, ["script", "k"], fn_N F sc rfl fun cdv Ar outer s H E hr => ?_, g, F.kp, F.binds fun _ _ _ _ _ _ us hl => match us, hl with | [_, _], _ => rfl⟩
  exact (pd_sq (pd_set 2 sc.nd pd_int)
  (pd_sq (pd_fg [0] (pd_if (pd_tgt (pd_R (pd_len X.m_len (pd_b1 (pd_r 0) pd_b0))) (pd_r 1)) (pd_s1 (pd_fg [0] (pd_set 2 sc.nd (pd_intc X.m_int (pd_b1 (pd_R (pd_ix (pd_n 0) (pd_r 1))) pd_b0))))) pd_nil))
  (pd_sq (pd_set 3 sc.nd (pd_mod (pd_R (pd_add (pd_R (pd_add (pd_R (pd_mul (pd_r 2) (pd_R pd_int))) (pd_R (pd_mul (pd_R pd_int) (pd_r 1))))) (pd_R pd_int))) (pd_R pd_int)))
  (pd_sq (pd_fg [1] (pd_set 3 sc.nd (pd_add (pd_R (pd_add (pd_R (pd_mod (pd_R (pd_mul (pd_r 3) (pd_r 3))) (pd_R pd_int))) (pd_R (pd_mul (pd_R pd_int) (pd_r 1))))) (pd_R pd_int))))
  (pd_s1 (pd_rn (pd_lst (pd_a1 (pd_ifF (pd_tge (pd_r 2) (pd_R (pd_pow (pd_R pd_int) (pd_R pd_int)))) (pd_n 2) pd_int) (pd_a1 (pd_n 3) pd_a0)))))))))

abbrev s__law_pick : Stmt := topS 46
theorem ok__law_pick {f : Addr} {fd : FuncData} (F : L2.Fun K "_law_pick" "_law_pick" s__law_pick f fd) (X : Txt K mg A) (g : mg "_law_pick" = some (.ref f))  : Cl P w K mg base 1 "_law_pick" (spD K T 2 (f__law_pick A)) := by
  have sc : FnScope N__law_pick ["source", "many"] (defScope s__law_pick) := ⟨rfl, rfl, rfl, by decide +kernel, rfl, by decide +kernel, by decide +kernel⟩
  refine ⟨f, fd, ["source", "many"], fn_D F sc rfl fun cdv Ar outer s H E hr => ?_, g, F.kp, F.binds fun _ _ _ _ _ _ us hl => match us, hl with | [_, _], _ => rfl⟩
  exact (pd_sq (pd_fg [2] (pd_if (pd_tgt (pd_R (pd_srcI 0 0 (by decide))) (pd_R pd_int)) (pd_sq (pd_set 2 sc.nd (pd_mod (pd_R (pd_intc X.m_int (pd_b1 (pd_R (pd_srcI 0 0 (by decide))) pd_b0))) (pd_r 1)))
  (pd_sq (pd_fg [1] (pd_srcW 0 0 (by decide) (pd_fdivW (pd_R (pd_intc X.m_int (pd_b1 (pd_R (pd_srcI 0 0 (by decide))) pd_b0))) (pd_r 1))))
  (pd_s1 (pd_rt (pd_n 2))))) pd_nil))
  (pd_sq (pd_srcW 0 1 (by decide) (pd_mod (pd_R (pd_intc X.m_int (pd_b1 (pd_R (pd_add (pd_R (pd_mul (pd_R (pd_srcI 0 1 (by decide))) (pd_R pd_int))) (pd_R pd_int))) pd_b0))) (pd_R pd_int)))
  (pd_s1 (pd_rt (pd_mod (pd_R (pd_fdivW (pd_R (pd_mod (pd_R (pd_intc X.m_int (pd_b1 (pd_R (pd_mul (pd_R (pd_srcI 0 1 (by decide))) (pd_R (pd_srcI 0 1 (by decide))))) pd_b0))) (pd_R pd_int))) (pd_R pd_int))) (pd_r 1))))))

abbrev s__law_chosen : Stmt := topS 47
theorem ok__law_chosen {f : Addr} {fd : FuncData} (F : L2.Fun K "_law_chosen" "_law_chosen" s__law_chosen f fd) (X : Txt K mg A) (g : mg "_law_chosen" = some (.ref f)) (c__law_pick : Cl P w K mg base 1 "_law_pick" (spD K T 2 (f__law_pick A))) : Cl P w K mg base 2 "_law_chosen" (spD K T 2 (f__law_chosen A)) := by
  have sc : FnScope N__law_chosen ["source", "things"] (defScope s__law_chosen) := ⟨rfl, rfl, rfl, by decide +kernel, rfl, by decide +kernel, by decide +kernel⟩
  refine ⟨f, fd, ["source", "things"], fn_D F sc rfl fun cdv Ar outer s H E hr => ?_, g, F.kp, F.binds fun _ _ _ _ _ _ us hl => match us, hl with | [_, _], _ => rfl⟩
  exact (pd_s1 (pd_rt (pd_ix (pd_n 1) (pd_R (pd_cl c__law_pick hr (by decide) passE (pd_a1 (pd_n 0) (pd_a1 (pd_len X.m_len (pd_b1 (pd_r 1) pd_b0)) pd_a0)))))))

abbrev s__law_error : Stmt := topS 48
theorem ok__law_error {f : Addr} {fd : FuncData} (F : L2.Fun K "_law_error" "_law_error" s__law_error f fd) (X : Txt K mg A) (g : mg "_law_error" = some (.ref f)) : ClE P w K mg base T 1 "_law_error" (f__law_error A) := by
  have sc : FnScope N__law_error ["e"] (defScope s__law_error) := ⟨rfl, rfl, rfl, by decide +kernel, rfl, by decide +kernel, by decide +kernel⟩
  refine ⟨f, fd, ["e"], fn_E (Cs A) (k := 0) F sc rfl fun cdv Ar outer s H p C hr hot hz hC => ?_, g, F.kp, F.binds fun _ _ _ _ _ _ us hl => match us, hl with | [_], _ => rfl⟩
  have hp : p ∈ [p] := List.mem_singleton.mpr rfl
  exact (pd_sq (pd_setN 1 sc.nd (pd_lst (pd_a1 (pd_tup (pd_a1 pd_str (pd_a1 (pd_isE hp hz (X.ec C hC) (X.kit C hC "InvalidScript" (by decide)) X.m_isinstance X.g_InvalidScript (pd_r 0)) pd_a0))) (pd_a1 (pd_tup (pd_a1 pd_str (pd_a1 (pd_isE hp hz (X.ec C hC) (X.kit C hC "InvalidRing" (by decide)) X.m_isinstance X.g_InvalidRing (pd_r 0)) pd_a0))) pd_a0))))
  (pd_sq (pd_setN 1 sc.nd (pd_catL (pd_o 1) (pd_NL (pd_lst (pd_a1 (pd_tup (pd_a1 pd_str (pd_a1 (pd_isE hp hz (X.ec C hC) (X.kit C hC "InvalidPeg" (by decide)) X.m_isinstance X.g_InvalidPeg (pd_r 0)) pd_a0))) (pd_a1 (pd_tup (pd_a1 pd_str (pd_a1 (pd_isE hp hz (X.ec C hC) (X.kit C hC "InvalidIndex" (by decide)) X.m_isinstance X.g_InvalidIndex (pd_r 0)) pd_a0))) pd_a0))))))
  (pd_sq (pd_setN 1 sc.nd (pd_catL (pd_o 1) (pd_NL (pd_lst (pd_a1 (pd_tup (pd_a1 pd_str (pd_a1 (pd_isE hp hz (X.ec C hC) (X.kit C hC "InvalidWord" (by decide)) X.m_isinstance X.g_InvalidWord (pd_r 0)) pd_a0))) (pd_a1 (pd_tup (pd_a1 pd_str (pd_a1 (pd_isE hp hz (X.ec C hC) (X.kit C hC "InvalidLength" (by decide)) X.m_isinstance X.g_InvalidLength (pd_r 0)) pd_a0))) pd_a0))))))
  (pd_sq (pd_setN 1 sc.nd (pd_catL (pd_o 1) (pd_NL (pd_lst (pd_a1 (pd_tup (pd_a1 pd_str (pd_a1 (pd_isE hp hz (X.ec C hC) (X.kit C hC "InvalidSeen" (by decide)) X.m_isinstance X.g_InvalidSeen (pd_r 0)) pd_a0))) (pd_a1 (pd_tup (pd_a1 pd_str (pd_a1 (pd_isE hp hz (X.ec C hC) (X.kit C hC "InvalidNumber" (by decide)) X.m_isinstance X.g_InvalidNumber (pd_r 0)) pd_a0))) pd_a0))))))
  (pd_sq (pd_setN 1 sc.nd (pd_catL (pd_o 1) (pd_NL (pd_lst (pd_a1 (pd_tup (pd_a1 pd_str (pd_a1 (pd_isE hp hz (X.ec C hC) (X.kit C hC "InvalidText" (by decide)) X.m_isinstance X.g_InvalidText (pd_r 0)) pd_a0))) (pd_a1 (pd_tup (pd_a1 pd_str (pd_a1 (pd_isE hp hz (X.ec C hC) (X.kit C hC "AllLaid" (by decide)) X.m_isinstance X.g_AllLaid (pd_r 0)) pd_a0))) pd_a0))))))
  (pd_sq (pd_fg [0] (pd_app 1 (pd_tup (pd_a1 pd_str (pd_a1 (pd_isE hp hz (X.ec C hC) (X.kit C hC "NothingToUndo" (by decide)) X.m_isinstance X.g_NothingToUndo (pd_r 0)) pd_a0)))))
  (pd_s1 (pd_rt (pd_join (pd_R pd_str) (pd_NL (pd_lcH (own := [("word_so", 2), ("good", 3)]) hot sc.nd (pd_o 1) (blkOk_by (N := N__law_error) (sc := defScope s__law_error) (by decide +kernel)) (by decide) (fun _ _ _ _ _ => (pd_gtupH hot (pd_gs1 2 sc.nd (pd_gs1 3 sc.nd pd_gs0)))) (fun _ _ _ _ _ => (pd_ts1 (pd_t (pd_r 3)))) (fun _ _ _ _ _ => (pd_n 2)))))))))))))

abbrev s__law_refused : Stmt := topS 49
abbrev s__law_by_three : Stmt := topS 50
theorem ok__law_by_three {fd fdr : FuncData} {fr : Addr} {Φ : Addr → Nat → Option Fn} (F : L2.Fun K "_law_by_three" "_law_by_three" s__law_by_three (He.fAd K ("_law_by_three", none)) fd) (X : Txt K mg A) (g : mg "_law_by_three" = some (.ref (He.fAd K ("_law_by_three", none)))) (Fr : L2.Fun K "_law_refused" "_law_refused" s__law_refused fr fdr) (gr : mg "_law_refused" = some (.ref fr)) (ce : ClE P w K mg base T 1 "_law_error" (f__law_error A)) (TB : Tb K base mg T "_law_by_three") (cv : ∀ f n φ, Φ f n = some φ → ClA P w K mg base T 12 f n φ) : Cl P w K mg base 15 "_law_by_three" (spD K T 4 (f__law_by_three K A Φ)) := by
  have sc : FnScope N__law_by_three ["call", "one", "other", "third"] (defScope s__law_by_three) := ⟨rfl, rfl, rfl, by decide +kernel, rfl, by decide +kernel, by decide +kernel⟩
  have sr : FnScope ["call", "e"] ["call"] (defScope s__law_refused) := ⟨rfl, rfl, rfl, by decide +kernel, rfl, by decide +kernel, by decide +kernel⟩
  refine ⟨_, fd, ["call", "one", "other", "third"], fn_Dc F sc rfl fun Ar outer s H E hr => ?_, g, F.kp, F.binds fun _ _ _ _ _ _ us hl => match us, hl with | [_, _, _, _], _ => rfl⟩
  exact (pd_s1 (pd_rt (pd_ref Fr rfl rfl sr rfl rfl rfl rfl (Fr.binds fun _ _ _ _ _ _ us hl => match us, hl with | [_], _ => rfl) gr X.g_WindError ce TB.tb rfl TB.mem TB.un hr (by decide) (lamS_by (sc := defScope s__law_by_three) (by decide +kernel)) (fun A' outer s H E f c' hr2 hpl => pd_clV 0 cv hr2 (Nat.le_refl _) hpl (pd_a1 (pd_n 1) (pd_a1 (pd_n 2) (pd_a1 (pd_n 3) pd_a0)))) rfl (fun _ _ _ _ _ => rfl))))

abbrev s__law_drawn_steps : Stmt := topS 51
theorem ok__law_drawn_steps {f : Addr} {fd : FuncData} (F : L2.Fun K "_law_drawn_steps" "_law_drawn_steps" s__law_drawn_steps f fd) (X : Txt K mg A) (g : mg "_law_drawn_steps" = some (.ref f)) (c__law_pick : Cl P w K mg base 1 "_law_pick" (spD K T 2 (f__law_pick A))) (c__law_chosen : Cl P w K mg base 2 "_law_chosen" (spD K T 2 (f__law_chosen A))) : Cl P w K mg base 3 "_law_drawn_steps" (spD K T 2 (f__law_drawn_steps A)) := by
  have sc : FnScope N__law_drawn_steps ["source", "most"] (defScope s__law_drawn_steps) := ⟨rfl, rfl, rfl, by decide +kernel, rfl, by decide +kernel, by decide +kernel⟩
  refine ⟨f, fd, ["source", "most"], fn_D F sc rfl fun cdv Ar outer s H E hr => ?_, g, F.kp, F.binds fun _ _ _ _ _ _ us hl => match us, hl with | [_, _], _ => rfl⟩
  exact (pd_sq (pd_set 2 sc.nd (pd_tup pd_a0))
  (pd_sq (pd_fg [0, 1, 3, 4] (pd_forR1 PassesOwn.leaving rfl X.m_range (pd_b1 (pd_R (pd_add (pd_R pd_int) (pd_R (pd_cl c__law_pick hr (by decide) passE (pd_a1 (pd_n 0) (pd_a1 (pd_n 1) pd_a0)))))) pd_b0) (pd_gn 3 sc.nd)
  (pd_sq (pd_set 4 sc.nd (pd_add (pd_R pd_int) (pd_R (pd_cl c__law_pick hr (by decide) passE (pd_a1 (pd_n 0) (pd_a1 (pd_cl c__law_chosen hr (by decide) passE (pd_a1 (pd_n 0) (pd_a1 (pd_NF (pd_lst (pd_a1 pd_int (pd_a1 pd_int (pd_a1 pd_int pd_a0))))) pd_a0))) pd_a0))))))
  (pd_s1 (pd_fg [3, 4] (pd_set 2 sc.nd (pd_catT (pd_n 2) (pd_tup (pd_a1 (pd_mul (pd_r 4) (pd_R (pd_cl c__law_chosen hr (by decide) passE (pd_a1 (pd_n 0) (pd_a1 (pd_NF (pd_lst (pd_a1 pd_int (pd_a1 pd_int (pd_a1 (pd_neg (pd_R pd_int)) pd_a0))))) pd_a0))))) pd_a0)))))))))
  (pd_s1 (pd_rt (pd_ifF (pd_tne hr.units (pd_R (pd_sum rfl X.m_sum (pd_b1 (pd_r 2) pd_b0))) (pd_R pd_int)) (pd_n 2) (pd_slT (pd_n 2) pd_o0 (pd_o1 (pd_R pd_int))))))))

abbrev s__law_drawn_ring : Stmt := topS 52
theorem ok__law_drawn_ring {f : Addr} {fd : FuncData} (F : L2.Fun K "_law_drawn_ring" "_law_drawn_ring" s__law_drawn_ring f fd) (X : Txt K mg A) (g : mg "_law_drawn_ring" = some (.ref f)) (c__law_pick : Cl P w K mg base 1 "_law_pick" (spD K T 2 (f__law_pick A))) : Cl P w K mg base 2 "_law_drawn_ring" (spD K T 3 (f__law_drawn_ring A)) := by
  have sc : FnScope N__law_drawn_ring ["source", "script_so", "most"] (defScope s__law_drawn_ring) := ⟨rfl, rfl, rfl, by decide +kernel, rfl, by decide +kernel, by decide +kernel⟩
  refine ⟨f, fd, ["source", "script_so", "most"], fn_D F sc rfl fun cdv Ar outer s H E hr => ?_, g, F.kp, F.binds fun _ _ _ _ _ _ us hl => match us, hl with | [_, _, _], _ => rfl⟩
  exact (pd_sq (pd_fg [1] (pd_set 3 sc.nd (pd_abs X.m_abs (pd_b1 (pd_R (pd_sum rfl X.m_sum (pd_b1 (pd_r 1) pd_b0))) pd_b0))))
  (pd_sq (pd_fg [3] (pd_if (PW.pt (pd_and (pd_teq hr.units (pd_R (pd_cl c__law_pick hr (by decide) passE (pd_a1 (pd_n 0) (pd_a1 pd_int pd_a0)))) (pd_R pd_int)) (pd_and1 (pd_tlt (pd_r 3) (pd_R (pd_fdivW (pd_r 2) (pd_R pd_int))))))) (pd_s1 (pd_rt (pd_mul (pd_r 3) (pd_R (pd_add (pd_R (pd_add (pd_R pd_int) (pd_R (pd_fdivW (pd_R pd_int) (pd_r 3))))) (pd_R (pd_cl c__law_pick hr (by decide) passE (pd_a1 (pd_n 0) (pd_a1 (pd_sub (pd_R (pd_fdivW (pd_r 2) (pd_r 3))) (pd_R (pd_fdivW (pd_R pd_int) (pd_r 3)))) pd_a0))))))))) pd_nil))
  (pd_s1 (pd_rt (pd_add (pd_R pd_int) (pd_R (pd_cl c__law_pick hr (by decide) passE (pd_a1 (pd_n 0) (pd_a1 (pd_sub (pd_r 2) (pd_R pd_int)) pd_a0)))))))))

abbrev s__law_wound : Stmt := topS 53
theorem ok__law_wound {f : Addr} {fd : FuncData} (F : L2.Fun K "_law_wound" "_law_wound" s__law_wound f fd) (X : Txt K mg A) (g : mg "_law_wound" = some (.ref f))  : Cl P w K mg base 1 "_law_wound" (spN K T 2 (f__law_wound A)) := by
  have sc : FnScope N__law_wound ["script_so", "n"] (defScope s__law_wound) := ⟨rfl, rfl, rfl, by decide +kernel, rfl, by decide +kernel, by decide +kernel⟩
  refine ⟨f, fd, ["script_so", "n"], fn_N F sc rfl fun cdv Ar outer s H E hr => ?_, g, F.kp, F.binds fun _ _ _ _ _ _ us hl => match us, hl with | [_, _], _ => rfl⟩
  exact (pd_sq (pd_par3 2 3 4 rfl sc.nd (pd_mN (pd_lst pd_a0) (pd_mK (pd_mF pd_int pd_m0))) (by with_unfolding_all rfl))
  (pd_sq (pd_fg [0, 1, 3, 4, 5, 6, 7, 8, 9] (pd_forR1 PassesOwn.leaving rfl X.m_range (pd_b1 (pd_r 1) pd_b0) (pd_gn 5 sc.nd)
  (pd_s1 (pd_fg [5, 6, 7, 8, 9] (pd_if (pd_tninK 3 (u1un hr.units) (pd_r 5)) (pd_sq (pd_par2 6 7 rfl sc.nd (pd_mF (pd_n 5) (pd_mF pd_bl pd_m0)) (by with_unfolding_all rfl))
  (pd_sq (pd_fg [5, 6, 7, 8, 9] (pd_wh PassesOwn.leaving (pd_t (pd_r 7))
  (pd_sq (pd_fg [8, 9] (pd_forT PassesOwn.leaving rfl (pd_n 0) (pd_gn 8 sc.nd)
  (pd_sq (pd_fg [8] (pd_set 9 sc.nd (pd_mod (pd_R (pd_add (pd_r 6) (pd_r 8))) (pd_r 1))))
  (pd_sq (pd_fg [6] (pd_app 2 (pd_tup (pd_a1 (pd_n 6) (pd_a1 (pd_n 9) (pd_a1 (pd_n 4) pd_a0))))))
  (pd_sq (pd_putK 3 (u1un hr.units) pd_bl (pd_r 9))
  (pd_s1 (pd_fg [8, 9] (pd_set 6 sc.nd (pd_n 9)))))))))
  (pd_s1 (pd_set 7 sc.nd (pd_ne hr.units (pd_r 6) (pd_r 5)))))))
  (pd_s1 (pd_set 4 sc.nd (pd_add (pd_r 4) (pd_R pd_int)))))) pd_nil)))))
  (pd_s1 (pd_ro 2))))

abbrev s__law_meet : Stmt := topS 54
theorem ok__law_meet {f : Addr} {fd : FuncData} (F : L2.Fun K "_law_meet" "_law_meet" s__law_meet f fd) (X : Txt K mg A) (g : mg "_law_meet" = some (.ref f))  : Cl P w K mg base 1 "_law_meet" (spD K T 3 (f__law_meet A)) := by
  have sc : FnScope N__law_meet ["n", "one", "other"] (defScope s__law_meet) := ⟨rfl, rfl, rfl, by decide +kernel, rfl, by decide +kernel, by decide +kernel⟩
  refine ⟨f, fd, ["n", "one", "other"], fn_D F sc rfl fun cdv Ar outer s H E hr => ?_, g, F.kp, F.binds fun _ _ _ _ _ _ us hl => match us, hl with | [_, _, _], _ => rfl⟩
  exact (pd_sq (pd_fg [1] (pd_par2 3 4 rfl sc.nd (pd_mF (pd_ix (pd_n 1) (pd_R pd_int)) (pd_mF (pd_ix (pd_n 1) (pd_R pd_int)) pd_m0)) (by with_unfolding_all rfl)))
  (pd_sq (pd_if (PW.pt (pd_or (pd_tin (pd_R (pd_ix (pd_n 2) (pd_R pd_int))) (pd_R (pd_tup (pd_a1 (pd_n 3) (pd_a1 (pd_n 4) pd_a0))))) (pd_or1 (pd_tin (pd_R (pd_ix (pd_n 2) (pd_R pd_int))) (pd_R (pd_tup (pd_a1 (pd_n 3) (pd_a1 (pd_n 4) pd_a0)))))))) (pd_s1 (pd_rt pd_bl)) pd_nil)
  (pd_sq (pd_fg [4] (pd_set 5 sc.nd (pd_mod (pd_R (pd_sub (pd_r 4) (pd_r 3))) (pd_r 0))))
  (pd_s1 (pd_rt (pd_ne hr.units (pd_R (pd_lt (pd_R (pd_mod (pd_R (pd_sub (pd_R (pd_ix (pd_n 2) (pd_R pd_int))) (pd_r 3))) (pd_r 0))) (pd_r 5))) (pd_R (pd_lt (pd_R (pd_mod (pd_R (pd_sub (pd_R (pd_ix (pd_n 2) (pd_R pd_int))) (pd_r 3))) (pd_r 0))) (pd_r 5)))))))))

abbrev s__law_number_of_parts : Stmt := topS 55
theorem ok__law_number_of_parts {f : Addr} {fd : FuncData} (F : L2.Fun K "_law_number_of_parts" "_law_number_of_parts" s__law_number_of_parts f fd) (X : Txt K mg A) (g : mg "_law_number_of_parts" = some (.ref f))  : Cl P w K mg base 1 "_law_number_of_parts" (spD K T 2 (f__law_number_of_parts A)) := by
  have sc : FnScope N__law_number_of_parts ["n", "laid"] (defScope s__law_number_of_parts) := ⟨rfl, rfl, rfl, by decide +kernel, rfl, by decide +kernel, by decide +kernel⟩
  refine ⟨f, fd, ["n", "laid"], fn_D F sc rfl fun cdv Ar outer s H E hr => ?_, g, F.kp, F.binds fun _ _ _ _ _ _ us hl => match us, hl with | [_, _], _ => rfl⟩
  exact (pd_sq (pd_par2 2 3 rfl sc.nd (pd_mK (pd_mF pd_int pd_m0)) (by with_unfolding_all rfl))
  (pd_adj 0 1 4 6 7 8 5 (ps_set (i := 4) sc.nd rfl (Or.inl rfl) (pe_callTy (call_dictP rfl) rfl X.m_dict (by decide +kernel) (pa_cons (pe_lc (own := [("peg", 5)]) (g := L2.gName 5) (tt := L2.tYes) rfl sc.nd (pi_range1 rfl X.m_range (pa_cons (pv 0) pa_nil)) (blkOk_by (N := N__law_number_of_parts) (sc := defScope s__law_number_of_parts) (by decide +kernel)) (fun _ _ _ _ _ => pg_name (i := 5) sc.nd rfl (Or.inl rfl)) (fun _ _ _ _ _ => pts_nil) (fun _ _ _ _ _ => pe_tup (pa_cons (pv 5) (pa_cons (pe_lst pa_nil) pa_nil)))) pa_nil)))
  (ps_for PassesOwn.leaving rfl (pi_list (pv 1)) (pg_tup rfl (pgs_cons (pg_name (i := 6) sc.nd rfl (Or.inl rfl)) (pgs_cons (pg_name (i := 7) sc.nd rfl (Or.inl rfl)) (pgs_cons (pg_name (i := 8) sc.nd rfl (Or.inl rfl)) pgs_nil)))) (pss_cons (ps_expr (pe_bm PySem.F.plainAttrs_list PySem.F.slot_list_append PySem.F.type_list_append mt_append (pe_dget (u1un hr.units) (pv 4) (pv 6) (fun _ _ => rfl)) (pa_cons (pv 7) pa_nil))) (pss_one (ps_expr (pe_bm PySem.F.plainAttrs_list PySem.F.slot_list_append PySem.F.type_list_append mt_append (pe_dget (u1un hr.units) (pv 4) (pv 7) (fun _ _ => rfl)) (pa_cons (pv 6) pa_nil))))))
  (pd_sq (pd_fg [0, 2, 4, 5, 9, 10] (pd_forR1 PassesOwn.leaving rfl X.m_range (pd_b1 (pd_r 0) pd_b0) (pd_gn 5 sc.nd)
  (pd_sq (pd_fg [5] (pd_setN 9 sc.nd (pd_ifN (pd_tninK 2 (u1un hr.units) (pd_r 5)) (pd_lst (pd_a1 (pd_n 5) pd_a0)) (pd_lst pd_a0))))
  (pd_sq (pd_set 3 sc.nd (pd_add (pd_r 3) (pd_R (pd_len X.m_len (pd_b1 (pd_r 9) pd_b0)))))
  (pd_s1 (pd_fg [5, 9, 10] (pd_wh PassesOwn.leaving (pd_tne hr.units (pd_r 9) (pd_R (pd_NF (pd_lst pd_a0))))
  (pd_sq (pd_pop 10 9 sc.nd (by decide))
  (pd_s1 (pd_fg [10] (pd_if (pd_tninK 2 (u1un hr.units) (pd_r 10)) (pd_sq (pd_putK 2 (u1un hr.units) pd_bl (pd_r 10))
  (pd_s1 (pd_fg [10] (pd_setN 9 sc.nd (pd_catL (pd_o 9) (pd_FL (pd_dgK hr.units (pd_n 4) (pd_r 10)))))))) pd_nil)))))))))))
  (pd_s1 (pd_rt (pd_n 3)))) (by decide)))

abbrev s__law_crossings_of : Stmt := topS 56
theorem ok__law_crossings_of {f : Addr} {fd : FuncData} (F : L2.Fun K "_law_crossings_of" "_law_crossings_of" s__law_crossings_of f fd) (X : Txt K mg A) (g : mg "_law_crossings_of" = some (.ref f)) (c__law_meet : Cl P w K mg base 1 "_law_meet" (spD K T 3 (f__law_meet A))) : Cl P w K mg base 2 "_law_crossings_of" (spD K T 2 (f__law_crossings_of A)) := by
  have sc : FnScope N__law_crossings_of ["n", "laid"] (defScope s__law_crossings_of) := ⟨rfl, rfl, rfl, by decide +kernel, rfl, by decide +kernel, by decide +kernel⟩
  refine ⟨f, fd, ["n", "laid"], fn_D F sc rfl fun cdv Ar outer s H E hr => ?_, g, F.kp, F.binds fun _ _ _ _ _ _ us hl => match us, hl with | [_, _], _ => rfl⟩
  exact (pd_sq (pd_set 2 sc.nd pd_int)
  (pd_sq (pd_fg [0, 1, 3] (pd_forR1 PassesOwn.leaving rfl X.m_range (pd_b1 (pd_R (pd_len X.m_len (pd_b1 (pd_r 1) pd_b0))) pd_b0) (pd_gn 3 sc.nd)
  (pd_s1 (pd_fg [3] (pd_set 2 sc.nd (pd_add (pd_r 2) (pd_R (pd_len X.m_len (pd_b1 (pd_R (pd_NF (pd_lc (own := [("other", 4)]) rfl sc.nd (pd_NL (pd_slL (pd_FL (pd_n 1)) (pd_o1 (pd_R (pd_add (pd_r 3) (pd_R pd_int)))) pd_o0)) (blkOk_by (N := N__law_crossings_of) (sc := defScope s__law_crossings_of) (by decide +kernel)) (by decide) (fun _ _ _ _ _ => (pd_gn 4 sc.nd)) (fun _ _ _ _ _ => (pd_ts1 (pd_t (pd_R (pd_cl c__law_meet hr (by decide) (pass_E0 rfl rfl) (pd_a1 (pd_n 0) (pd_a1 (pd_ix (pd_n 1) (pd_r 3)) (pd_a1 (pd_n 4) pd_a0)))))))) (fun _ _ _ _ _ => pd_int)))) pd_b0)))))))))
  (pd_s1 (pd_rt (pd_n 2)))))

abbrev s_law : Stmt := topS 57
theorem ok_law {f : Addr} {fd : FuncData} {n : Nat} {Φ : Addr → Nat → Option Fn} (F : L2.Fun K "law" "law" s_law f fd) (X : Txt K mg A) (hL : LawD N_law (t_law A K Φ) n) (c__law_source : Cl P w K mg base 1 "_law_source" (spN K T 2 (f__law_source A))) (c__law_drawn_steps : Cl P w K mg base 3 "_law_drawn_steps" (spD K T 2 (f__law_drawn_steps A))) (c__law_drawn_ring : Cl P w K mg base 2 "_law_drawn_ring" (spD K T 3 (f__law_drawn_ring A))) (c__law_wound : Cl P w K mg base 1 "_law_wound" (spN K T 2 (f__law_wound A))) (c__law_crossings_of : Cl P w K mg base 2 "_law_crossings_of" (spD K T 2 (f__law_crossings_of A))) (c__law_number_of_parts : Cl P w K mg base 1 "_law_number_of_parts" (spD K T 2 (f__law_number_of_parts A))) (c_count : Cl P w K mg base 6 "count" (spD K T 3 (f_count A))) (c_count_long : Cl P w K mg base 5 "count_long" (spD K T 3 (f_count_long A))) (c__law_by_three : Cl P w K mg base 15 "_law_by_three" (spD K T 4 (f__law_by_three K A Φ))) : FnOk P w K mg base (L2N.CX P w) 16 f fd ["script"] (spLaw K T n) := by
  have sc : FnScope N_law ["script"] (defScope s_law) := ⟨rfl, rfl, rfl, by decide +kernel, rfl, by decide +kernel, by decide +kernel⟩
  refine fn_law F sc rfl hL fun cdv Ar outer s H E hr => ?_
  exact (show PSs _ _ (lS K T E (full_law A K Φ)) from (pd_sq (pd_fg [0, 1, 3, 4, 5, 6, 8, 11, 12, 14, 15, 16, 17] (pd_forR1 PassesOwn.leaving rfl X.m_range (pd_b1 (pd_R (pd_max rfl X.m_max (pd_b1 (pd_R pd_int) (pd_b1 (pd_R (pd_min rfl X.m_min (pd_b1 (pd_R pd_int) (pd_b1 (pd_R (pd_len X.m_len (pd_b1 (pd_r 0) pd_b0))) pd_b0)))) pd_b0)))) pd_b0) (pd_gn 1 sc.nd)
  (pd_sq (pd_fg [1] (pd_srcS 2 sc.nd (pd_clN c__law_source hr (by decide) passE (pd_a1 (pd_n 0) (pd_a1 (pd_n 1) pd_a0)))))
  (pd_sq (pd_set 3 sc.nd (pd_cl c__law_drawn_steps hr (by decide) passE (pd_a1 (pd_n 2) (pd_a1 pd_int pd_a0))))
  (pd_sq (pd_set 4 sc.nd (pd_cl c__law_drawn_ring hr (by decide) passE (pd_a1 (pd_n 2) (pd_a1 (pd_n 3) (pd_a1 pd_int pd_a0)))))
  (pd_sq (pd_set 5 sc.nd (pd_NF (pd_clN c__law_wound hr (by decide) passE (pd_a1 (pd_n 3) (pd_a1 (pd_n 4) pd_a0)))))
  (pd_sq (pd_set 6 sc.nd (pd_fdivW (pd_R (pd_len X.m_len (pd_b1 (pd_R (pd_NF (pd_lc (own := [("one", 7)]) rfl sc.nd (pd_FL (pd_n 5)) (blkOk_by (N := N_law) (sc := defScope s_law) (by decide +kernel)) (by decide) (fun _ _ _ _ _ => (pd_gn 7 sc.nd)) (fun _ _ _ _ _ => (pd_ts1 (pd_teq hr.units (pd_R (pd_ix (pd_n 7) (pd_R pd_int))) (pd_R pd_int)))) (fun _ _ _ _ _ => pd_int)))) pd_b0))) (pd_R (pd_len X.m_len (pd_b1 (pd_r 3) pd_b0)))))
  (pd_sq (pd_setLf 8 (own := [("one", 7), ("other", 9), ("loop", 10)]) rfl sc.nd (pd_FL (pd_n 5)) (blkOk_by (N := N_law) (sc := defScope s_law) (by decide +kernel)) (by decide) (fun _ _ _ _ _ => (pd_gtup rfl (pd_gs1 7 sc.nd (pd_gs1 9 sc.nd (pd_gs1 10 sc.nd pd_gs0))))) (fun _ _ _ _ _ => pd_ts0) (fun _ _ _ _ _ => (pd_ifF (pd_tlt (pd_r 7) (pd_r 9)) (pd_tup (pd_a1 (pd_n 7) (pd_a1 (pd_n 9) pd_a0))) (pd_tup (pd_a1 (pd_n 9) (pd_a1 (pd_n 7) pd_a0))))) (sw_true rfl rfl rfl (by decide +kernel)))
  (pd_sq (pd_fg [8] (pd_set 11 sc.nd (pd_NF (pd_lst (pd_a1 (pd_lenSetT rfl hr.units X.m_len X.m_set (pd_FL (pd_n 8))) (pd_a1 (pd_cl c__law_crossings_of hr (by decide) passE (pd_a1 (pd_n 4) (pd_a1 (pd_n 5) pd_a0))) (pd_a1 (pd_add (pd_R (pd_ix (pd_ix (pd_n 5) (pd_R (pd_neg (pd_R pd_int)))) (pd_R pd_int))) (pd_R pd_int)) (pd_a1 (pd_cl c__law_number_of_parts hr (by decide) passE (pd_a1 (pd_n 4) (pd_a1 (pd_n 5) pd_a0))) pd_a0))))))))
  (pd_sq (pd_fg [6] (pd_set 11 sc.nd (pd_NF (pd_catL (pd_FL (pd_n 11)) (pd_NL (pd_lst (pd_a1 (pd_n 6) (pd_a1 (pd_len X.m_len (pd_b1 (pd_r 5) pd_b0)) pd_a0))))))))
  (pd_sq (pd_set 12 sc.nd (pd_NF (pd_lst (pd_a1 pd_str (pd_a1 pd_str (pd_a1 pd_str (pd_a1 pd_str (pd_a1 pd_str (pd_a1 pd_str pd_a0)))))))))
  (pd_sq (pd_fg [11, 12] (pd_if (pd_tne hr.units (pd_R (pd_NF (pd_lc (own := [("word", 13)]) rfl sc.nd (pd_FL (pd_n 12)) (blkOk_by (N := N_law) (sc := defScope s_law) (by decide +kernel)) (by decide) (fun _ _ _ _ _ => (pd_gn 13 sc.nd)) (fun _ _ _ _ _ => pd_ts0) (fun _ _ _ _ _ => (pd_cl c_count hr (by decide) (pass_E0 rfl rfl) (pd_a1 (pd_n 3) (pd_a1 (pd_n 4) (pd_a1 (pd_n 13) pd_a0)))))))) (pd_r 11)) (pd_s1 (pd_rt pd_bl)) pd_nil))
  (pd_sq (pd_fg [5, 14, 15] (pd_forR2 PassesOwn.leaving rfl X.m_range (pd_b1 (pd_R pd_int) (pd_b1 (pd_R pd_int) pd_b0)) (pd_gn 14 sc.nd)
  (pd_sq (pd_setLf 15 (own := [("one", 7)]) rfl sc.nd (pd_FL (pd_n 5)) (blkOk_by (N := N_law) (sc := defScope s_law) (by decide +kernel)) (by decide) (fun _ _ _ _ _ => (pd_gn 7 sc.nd)) (fun _ _ _ _ _ => (pd_ts1 (pd_teq hr.units (pd_R (pd_min rfl X.m_min (pd_b1 (pd_R (pd_mod (pd_R (pd_sub (pd_R (pd_ix (pd_n 7) (pd_R pd_int))) (pd_R (pd_ix (pd_n 7) (pd_R pd_int))))) (pd_r 4))) (pd_b1 (pd_R (pd_mod (pd_R (pd_sub (pd_R (pd_ix (pd_n 7) (pd_R pd_int))) (pd_R (pd_ix (pd_n 7) (pd_R pd_int))))) (pd_r 4))) pd_b0)))) (pd_r 14)))) (fun _ _ _ _ _ => pd_int) (sw_true rfl rfl rfl (by decide +kernel)))
  (pd_s1 (pd_fg [14, 15] (pd_if (pd_tne hr.units (pd_R (pd_cl c_count_long hr (by decide) passE (pd_a1 (pd_n 3) (pd_a1 (pd_n 4) (pd_a1 (pd_n 14) pd_a0))))) (pd_R (pd_len X.m_len (pd_b1 (pd_r 15) pd_b0)))) (pd_s1 (pd_rt pd_bl)) pd_nil))))))
  (pd_sq (pd_fg [16] (pd_for PassesOwn.leaving rfl (pd_NF (pd_lst (pd_a1 pd_non (pd_a1 pd_str (pd_a1 pd_str (pd_a1 pd_int (pd_a1 (pd_NF (pd_lst (pd_a1 pd_str pd_a0))) pd_a0))))))) (pd_gn 16 sc.nd)
  (pd_s1 (pd_fg [16] (pd_if (pd_tne hr.units (pd_R (pd_cl c__law_by_three hr (by decide) passE (pd_a1 (pd_gref X.g_count rfl) (pd_a1 (pd_n 3) (pd_a1 (pd_n 4) (pd_a1 (pd_n 16) pd_a0)))))) (pd_R pd_str)) (pd_s1 (pd_rt pd_bl)) pd_nil)))))
  (pd_sq (pd_fg [4, 16] (pd_for PassesOwn.leaving rfl (pd_NF (pd_lst (pd_a1 pd_non (pd_a1 pd_int (pd_a1 pd_int (pd_a1 pd_bl (pd_a1 pd_str pd_a0))))))) (pd_gn 16 sc.nd)
  (pd_s1 (pd_fg [16] (pd_if (pd_tne hr.units (pd_R (pd_cl c__law_by_three hr (by decide) passE (pd_a1 (pd_gref X.g_count_long rfl) (pd_a1 (pd_n 3) (pd_a1 (pd_n 4) (pd_a1 (pd_n 16) pd_a0)))))) (pd_R pd_str)) (pd_s1 (pd_rt pd_bl)) pd_nil)))))
  (pd_s1 (pd_fg [1, 3, 17] (pd_for PassesOwn.leaving rfl (pd_NF (pd_lst (pd_a1 (pd_gref X.g_count rfl) (pd_a1 (pd_gref X.g_count_long rfl) pd_a0)))) (pd_gn 17 sc.nd)
  (pd_s1 (pd_fg [17] (pd_if (PW.pt (pd_or (pd_tne hr.units (pd_R (pd_cl c__law_by_three hr (by decide) passE (pd_a1 (pd_n 17) (pd_a1 (pd_tup (pd_a1 pd_int pd_a0)) (pd_a1 pd_non (pd_a1 pd_non pd_a0)))))) (pd_R pd_str)) (pd_or1 (pd_tne hr.units (pd_R (pd_cl c__law_by_three hr (by decide) passE (pd_a1 (pd_n 17) (pd_a1 (pd_n 3) (pd_a1 pd_int (pd_a1 pd_non pd_a0)))))) (pd_R pd_str))))) (pd_s1 (pd_rt pd_bl)) pd_nil)))))))))))))))))))))
  (pd_sq (pd_set 18 sc.nd (pd_tup (pd_a1 pd_int (pd_a1 pd_int (pd_a1 (pd_neg (pd_R pd_int)) pd_a0)))))
  (pd_sq (pd_if (pd_tne hr.units (pd_R (pd_NF (pd_lst (pd_a1 (pd_cl c_count hr (by decide) passE (pd_a1 (pd_n 18) (pd_a1 pd_int (pd_a1 pd_str pd_a0)))) (pd_a1 (pd_cl c_count hr (by decide) passE (pd_a1 (pd_n 18) (pd_a1 pd_int (pd_a1 pd_str pd_a0)))) (pd_a1 (pd_cl c_count hr (by decide) passE (pd_a1 (pd_n 18) (pd_a1 pd_int (pd_a1 pd_str pd_a0)))) pd_a0)))))) (pd_R (pd_NF (pd_lst (pd_a1 pd_int (pd_a1 pd_int (pd_a1 pd_int pd_a0))))))) (pd_s1 (pd_rt pd_bl)) pd_nil)
  (pd_s1 (pd_rt (pd_eq hr.units (pd_R (pd_NF (pd_lst (pd_a1 (pd_cl c_count hr (by decide) passE (pd_a1 (pd_tup (pd_a1 pd_int (pd_a1 (pd_neg (pd_R pd_int)) pd_a0))) (pd_a1 pd_int (pd_a1 pd_str pd_a0)))) (pd_a1 (pd_cl c_count_long hr (by decide) passE (pd_a1 (pd_n 18) (pd_a1 pd_int (pd_a1 pd_int pd_a0)))) (pd_a1 (pd_cl c_count_long hr (by decide) passE (pd_a1 (pd_n 18) (pd_a1 pd_int (pd_a1 pd_int pd_a0)))) pd_a0)))))) (pd_R (pd_NF (pd_lst (pd_a1 pd_int (pd_a1 pd_int (pd_a1 pd_int pd_a0)))))))))))))

end
end Rw

set_option Elab.async false
set_option linter.all false
set_option maxRecDepth 100000
set_option maxHeartbeats 0
namespace Rw
open PySem PySem.Spec PyProof.Rows L2 Wn
def d_is_within : He.DefD := ⟨("is_within", none), "is_within", "is_within", defArgs s_is_within, defBody s_is_within, defScope s_is_within, [], []⟩
def d_is_step : He.DefD := ⟨("is_step", none), "is_step", "is_step", defArgs s_is_step, defBody s_is_step, defScope s_is_step, [], []⟩
def d_is_right_script : He.DefD := ⟨("is_right_script", none), "is_right_script", "is_right_script", defArgs s_is_right_script, defBody s_is_right_script, defScope s_is_right_script, [], []⟩
def d_need_script : He.DefD := ⟨("need_script", none), "need_script", "need_script", defArgs s_need_script, defBody s_need_script, defScope s_need_script, [], []⟩
def d_need_ring : He.DefD := ⟨("need_ring", none), "need_ring", "need_ring", defArgs s_need_ring, defBody s_need_ring, defScope s_need_ring, [], []⟩
def d_shared : He.DefD := ⟨("shared", none), "shared", "shared", defArgs s_shared, defBody s_shared, defScope s_shared, [], []⟩
def d_offsets_of : He.DefD := ⟨("offsets_of", none), "offsets_of", "offsets_of", defArgs s_offsets_of, defBody s_offsets_of, defScope s_offsets_of, [], []⟩
def d_starts_by : He.DefD := ⟨("starts_by", none), "starts_by", "starts_by", defArgs s_starts_by, defBody s_starts_by, defScope s_starts_by, [], []⟩
def d_part_of : He.DefD := ⟨("part_of", none), "part_of", "part_of", defArgs s_part_of, defBody s_part_of, defScope s_part_of, [], []⟩
def d_rounds_of : He.DefD := ⟨("rounds_of", none), "rounds_of", "rounds_of", defArgs s_rounds_of, defBody s_rounds_of, defScope s_rounds_of, [], []⟩
def d_count_of : He.DefD := ⟨("count_of", none), "count_of", "count_of", defArgs s_count_of, defBody s_count_of, defScope s_count_of, [], []⟩
def d_families_by : He.DefD := ⟨("families_by", none), "families_by", "families_by", defArgs s_families_by, defBody s_families_by, defScope s_families_by, [], []⟩
def d_labels_by : He.DefD := ⟨("labels_by", none), "labels_by", "labels_by", defArgs s_labels_by, defBody s_labels_by, defScope s_labels_by, [], []⟩
def d_crosses_behind : He.DefD := ⟨("crosses_behind", none), "crosses_behind", "crosses_behind", defArgs s_crosses_behind, defBody s_crosses_behind, defScope s_crosses_behind, [], []⟩
def d_crossings_by : He.DefD := ⟨("crossings_by", none), "crossings_by", "crossings_by", defArgs s_crossings_by, defBody s_crossings_by, defScope s_crossings_by, [], []⟩
def d_chords_by : He.DefD := ⟨("chords_by", none), "chords_by", "chords_by", defArgs s_chords_by, defBody s_chords_by, defScope s_chords_by, [], []⟩
def d_top_by : He.DefD := ⟨("top_by", none), "top_by", "top_by", defArgs s_top_by, defBody s_top_by, defScope s_top_by, [], []⟩
def d_plain_by : He.DefD := ⟨("plain_by", none), "plain_by", "plain_by", defArgs s_plain_by, defBody s_plain_by, defScope s_plain_by, [], []⟩
def d_need_word : He.DefD := ⟨("need_word", none), "need_word", "need_word", defArgs s_need_word, defBody s_need_word, defScope s_need_word, [], []⟩
def d_count : He.DefD := ⟨("count", none), "count", "count", defArgs s_count, defBody s_count, defScope s_count, [], []⟩
def d_count_long : He.DefD := ⟨("count_long", none), "count_long", "count_long", defArgs s_count_long, defBody s_count_long, defScope s_count_long, [], []⟩
def d__law_source : He.DefD := ⟨("_law_source", none), "_law_source", "_law_source", defArgs s__law_source, defBody s__law_source, defScope s__law_source, [], []⟩
def d__law_pick : He.DefD := ⟨("_law_pick", none), "_law_pick", "_law_pick", defArgs s__law_pick, defBody s__law_pick, defScope s__law_pick, [], []⟩
def d__law_chosen : He.DefD := ⟨("_law_chosen", none), "_law_chosen", "_law_chosen", defArgs s__law_chosen, defBody s__law_chosen, defScope s__law_chosen, [], []⟩
def d__law_error : He.DefD := ⟨("_law_error", none), "_law_error", "_law_error", defArgs s__law_error, defBody s__law_error, defScope s__law_error, [], []⟩
def d__law_refused : He.DefD := ⟨("_law_refused", none), "_law_refused", "_law_refused", defArgs s__law_refused, defBody s__law_refused, defScope s__law_refused, [], []⟩
def d__law_by_three : He.DefD := ⟨("_law_by_three", none), "_law_by_three", "_law_by_three", defArgs s__law_by_three, defBody s__law_by_three, defScope s__law_by_three, [], []⟩
def d__law_drawn_steps : He.DefD := ⟨("_law_drawn_steps", none), "_law_drawn_steps", "_law_drawn_steps", defArgs s__law_drawn_steps, defBody s__law_drawn_steps, defScope s__law_drawn_steps, [], []⟩
def d__law_drawn_ring : He.DefD := ⟨("_law_drawn_ring", none), "_law_drawn_ring", "_law_drawn_ring", defArgs s__law_drawn_ring, defBody s__law_drawn_ring, defScope s__law_drawn_ring, [], []⟩
def d__law_wound : He.DefD := ⟨("_law_wound", none), "_law_wound", "_law_wound", defArgs s__law_wound, defBody s__law_wound, defScope s__law_wound, [], []⟩
def d__law_meet : He.DefD := ⟨("_law_meet", none), "_law_meet", "_law_meet", defArgs s__law_meet, defBody s__law_meet, defScope s__law_meet, [], []⟩
def d__law_number_of_parts : He.DefD := ⟨("_law_number_of_parts", none), "_law_number_of_parts", "_law_number_of_parts", defArgs s__law_number_of_parts, defBody s__law_number_of_parts, defScope s__law_number_of_parts, [], []⟩
def d__law_crossings_of : He.DefD := ⟨("_law_crossings_of", none), "_law_crossings_of", "_law_crossings_of", defArgs s__law_crossings_of, defBody s__law_crossings_of, defScope s__law_crossings_of, [], []⟩
def d_law : He.DefD := ⟨("law", none), "law", "law", defArgs s_law, defBody s_law, defScope s_law, [], []⟩
def fn : List He.DefD := ([d_is_within, d_is_step, d_is_right_script, d_need_script, d_need_ring, d_shared, d_offsets_of, d_starts_by, d_part_of, d_rounds_of, d_count_of, d_families_by, d_labels_by, d_crosses_behind, d_crossings_by, d_chords_by, d_top_by, d_plain_by, d_need_word, d_count] : List He.DefD) ++ ([d_count_long, d__law_source, d__law_pick, d__law_chosen, d__law_error, d__law_refused, d__law_by_three, d__law_drawn_steps, d__law_drawn_ring, d__law_wound, d__law_meet, d__law_number_of_parts, d__law_crossings_of, d_law] : List He.DefD)
def fa : List He.Fa := ([.glo "is_within", .glo "is_step", .glo "is_right_script", .glo "need_script", .glo "need_ring", .glo "shared", .glo "offsets_of", .glo "starts_by", .glo "part_of", .glo "rounds_of", .glo "count_of", .glo "families_by", .glo "labels_by", .glo "crosses_behind", .glo "crossings_by", .glo "chords_by", .glo "top_by", .glo "plain_by", .glo "need_word", .glo "count"] : List He.Fa) ++ ([.glo "count_long", .glo "_law_source", .glo "_law_pick", .glo "_law_chosen", .glo "_law_error", .glo "_law_refused", .glo "_law_by_three", .glo "_law_drawn_steps", .glo "_law_drawn_ring", .glo "_law_wound", .glo "_law_meet", .glo "_law_number_of_parts", .glo "_law_crossings_of", .glo "law", .glo "WindError", .glo "InvalidScript", .glo "InvalidRing", .glo "InvalidPeg", .glo "InvalidIndex", .glo "InvalidWord"] : List He.Fa) ++ ([.glo "InvalidLength", .glo "InvalidSeen", .glo "InvalidNumber", .glo "InvalidText", .glo "AllLaid", .glo "NothingToUndo", .glo "PLAIN", .glo "GROWING", .exc "InvalidScript", .exc "InvalidRing", .exc "InvalidWord", .exc "InvalidLength", .free "len", .free "range", .free "isinstance", .free "sum", .free "all", .free "abs", .free "max", .free "min"] : List He.Fa) ++ ([.free "int", .free "list", .free "tuple", .free "str", .free "bool", .free "enumerate", .free "set", .free "dict", .int "MOST_STEP" (11), .int "MOST_STEPS" (5), .int "LEAST_RING" (24), .int "MOST_RING" (1000000000000000000000000000000), .exm "InvalidScript" "WindError" true, .exm "InvalidRing" "WindError" true, .exm "InvalidPeg" "WindError" true, .exm "InvalidIndex" "WindError" true, .exm "InvalidWord" "WindError" true, .exm "InvalidLength" "WindError" true, .exm "InvalidSeen" "WindError" true, .exm "InvalidNumber" "WindError" true] : List He.Fa) ++ ([.exm "InvalidText" "WindError" true, .exm "AllLaid" "WindError" true, .exm "NothingToUndo" "WindError" true] : List He.Fa)
def excB (K : PySem.W.Frag) (D : Addr) : Bool := He.eqO (PySem.W.findIn K (.ref D) "__getattribute__") (some (some (.builtin "BaseException.__getattribute__"))) && (He.eqO (PySem.W.findIn K (.ref D) "__getattr__") (some none) && (decide (PySem.W.subIn K (.ref D) (.type "BaseException") = some true) && (PySem.W.hasDictIn K D && (He.eqO (PySem.W.findIn K (.ref D) "__class__") (some (some (.builtin "object.__class__"))) && (He.eqO (PySem.W.specialIn K (.builtin "object.__class__") "__get__") (some (some (.builtin "getset_descriptor.__get__"))) && (decide (PySem.W.takesIn K (.builtin "object.__class__") = some true) && decide (PySem.W.mroIn K D (.type "object") = some true)))))))
def pairB (K : PySem.W.Frag) (y x : Str) : Bool := decide (PySem.W.kitOne K (.ref (He.ga K y)) (.ref (He.ga K x)) = some (decide (He.ga K y = He.ga K x))) && (!decide (He.ga K y = He.ga K x) || decide (y = x))

def phP : List (Str × Str) := ([("count", "count_long")] : List (Str × Str))
def tbP : List (Str × Str) := ([] : List (Str × Str))
def gtP : List (Str × List Str) := ([("PLAIN", (["loops", "parts"] : List Str)), ("GROWING", (["chords", "crossings", "rounds", "spans"] : List Str))] : List (Str × List Str))
def ex (K : PySem.W.Frag) : Bool := (errN.all fun y => excB K (He.ga K y) && errN.all fun x => pairB K y x) && ((phP.all fun q => !decide (He.ga K q.1 = He.ga K q.2)) && ((tbP.all fun q => !decide (He.tabOf K (He.codeOf K (q.1, none)) = He.tabOf K (He.codeOf K (q.2, none)))) && gtP.all fun q => ktxB K (He.ga K q.1) q.2))
def tf : List He.Defn := [("_law_by_three", none)]
abbrev R : PySem.W.OpenRow := PySem.W.OpenLaw.row PySem.Challenge.rw_ringwound_k31_how_many_there_are
abbrev hk : PySem.W.Hook := He.hookX 5 fa fn [] tf ex
def ob (s : PySem.W.SharedT) : He.AlX := He.obsX 5 fa fn [] tf ex (HandSHeadRun.getT s)
theorem ob_eq (s : PySem.W.SharedT) : ob s = hk.obs s.abs := He.obsX_eq (HandSHeadRun.getT_eq s)
def loose : List PySem.Str := (["WindError", "InvalidScript", "InvalidRing", "InvalidPeg", "InvalidIndex", "InvalidWord", "InvalidLength", "InvalidSeen", "InvalidNumber", "InvalidText", "AllLaid", "NothingToUndo", "MOST_STEP", "MOST_STEPS", "LEAST_RING", "MOST_RING", "is_within", "is_step", "is_right_script", "need_script"] : List PySem.Str) ++ (["need_ring", "shared", "offsets_of", "starts_by", "part_of", "rounds_of", "count_of", "families_by", "labels_by", "PLAIN", "GROWING", "crosses_behind", "crossings_by", "chords_by", "top_by", "plain_by", "need_word", "count", "count_long", "_law_source"] : List PySem.Str) ++ (["_law_pick", "_law_chosen", "_law_error", "_law_refused", "_law_by_three", "_law_drawn_steps", "_law_drawn_ring", "_law_wound", "_law_meet", "_law_number_of_parts", "_law_crossings_of"] : List PySem.Str)
theorem run (w : World) : HandSHeadRun.RunEq R (PySem.W.view R.prog [57]) hk ob 4000 loose w := by
  intro os
  kernel_rfl
end Rw

set_option Elab.async false
set_option linter.all false
set_option maxRecDepth 100000
set_option maxHeartbeats 4000000
namespace Rw
open PySem PySem.Spec PyProof.Rows L2 Wn LamX
theorem fun_of {K : PySem.W.Frag} {x : Str} {st : Stmt} {f : Addr} {fd : FuncData} (F : FunD K x x (defArgs st) (defBody st) (defScope st) [] [] f fd) : L2.Fun K x x st f fd := by
  obtain ⟨⟨oc, od, dV, kV, doc, pm, an, cdv, ct, osl, e, lk, hc, hd, hk⟩, kp⟩ := F
  have ed : dV = .none := hd.elim (fun z => z.2) fun z => absurd rfl z.1
  subst ed
  exact ⟨⟨oc, od, kV, doc, pm, an, cdv, ct, osl, e, lk, hc⟩, kp⟩
section
variable {P : Program} {w : World} {K : PySem.W.Frag} {h : Heap} {mg : Str → Option Value}
theorem ex_ok (c : ex K = true) : (∀ y ∈ errN, excB K (He.ga K y) = true ∧ ∀ x ∈ errN, pairB K y x = true) ∧ (∀ q ∈ phP, He.ga K q.1 ≠ He.ga K q.2) ∧ (∀ q ∈ tbP, He.tabOf K (He.codeOf K (q.1, none)) ≠ He.tabOf K (He.codeOf K (q.2, none))) ∧ ∀ q ∈ gtP, ktxB K (He.ga K q.1) q.2 = true := by
  unfold ex at c
  rw [Bool.and_eq_true, Bool.and_eq_true, Bool.and_eq_true] at c
  refine ⟨fun y hy => ?_, fun q hq => ?_, fun q hq => ?_, fun q hq => List.all_eq_true.mp c.2.2.2 q hq⟩
  · have q := List.all_eq_true.mp c.1 y hy
    rw [Bool.and_eq_true] at q
    exact ⟨q.1, fun x hx => List.all_eq_true.mp q.2 x hx⟩
  · have z := List.all_eq_true.mp c.2.1 q hq
    rw [Bool.not_eq_true', decide_eq_false_iff_not] at z
    exact z
  · have z := List.all_eq_true.mp c.2.2.1 q hq
    rw [Bool.not_eq_true', decide_eq_false_iff_not] at z
    exact z
theorem excC_of {D : Addr} (c : excB K D = true) : L2.ExcC K D := by
  unfold excB at c
  simp only [Bool.and_eq_true, decide_eq_true_eq] at c
  obtain ⟨c1, c2, c3, c4, c5, c6, c7, c8⟩ := c
  exact ⟨He.eqO_ok c1, He.eqO_ok c2, c3, c4, He.eqO_ok c5, He.eqO_ok c6, c7, c8⟩
theorem txt_of (X : K.In h) (G : h.Ns mainGlobals mg) (c : He.SaysX fa fn [] tf ex w h K) : Txt K mg (He.ga K) where
  m_len := He.free_ok X G (c.t.d.fact 52 (f := .free "len") rfl)
  m_range := He.free_ok X G (c.t.d.fact 53 (f := .free "range") rfl)
  m_isinstance := He.free_ok X G (c.t.d.fact 54 (f := .free "isinstance") rfl)
  m_sum := He.free_ok X G (c.t.d.fact 55 (f := .free "sum") rfl)
  m_all := He.free_ok X G (c.t.d.fact 56 (f := .free "all") rfl)
  m_abs := He.free_ok X G (c.t.d.fact 57 (f := .free "abs") rfl)
  m_max := He.free_ok X G (c.t.d.fact 58 (f := .free "max") rfl)
  m_min := He.free_ok X G (c.t.d.fact 59 (f := .free "min") rfl)
  m_int := He.free_ok X G (c.t.d.fact 60 (f := .free "int") rfl)
  m_list := He.free_ok X G (c.t.d.fact 61 (f := .free "list") rfl)
  m_tuple := He.free_ok X G (c.t.d.fact 62 (f := .free "tuple") rfl)
  m_str := He.free_ok X G (c.t.d.fact 63 (f := .free "str") rfl)
  m_bool := He.free_ok X G (c.t.d.fact 64 (f := .free "bool") rfl)
  m_enumerate := He.free_ok X G (c.t.d.fact 65 (f := .free "enumerate") rfl)
  m_set := He.free_ok X G (c.t.d.fact 66 (f := .free "set") rfl)
  m_dict := He.free_ok X G (c.t.d.fact 67 (f := .free "dict") rfl)
  i_MOST_STEP := He.int_ok X G (c.t.d.fact 68 (f := .int "MOST_STEP" (11)) rfl)
  i_MOST_STEPS := He.int_ok X G (c.t.d.fact 69 (f := .int "MOST_STEPS" (5)) rfl)
  i_LEAST_RING := He.int_ok X G (c.t.d.fact 70 (f := .int "LEAST_RING" (24)) rfl)
  i_MOST_RING := He.int_ok X G (c.t.d.fact 71 (f := .int "MOST_RING" (1000000000000000000000000000000)) rfl)
  g_PLAIN := He.glo_ok X G (c.t.d.fact 46 (f := .glo "PLAIN") rfl)
  t_PLAIN := ktx_of ((ex_ok c.more).2.2.2 ("PLAIN", (["loops", "parts"] : List Str)) (by simp [gtP]))
  g_GROWING := He.glo_ok X G (c.t.d.fact 47 (f := .glo "GROWING") rfl)
  t_GROWING := ktx_of ((ex_ok c.more).2.2.2 ("GROWING", (["chords", "crossings", "rounds", "spans"] : List Str)) (by simp [gtP]))
  g_WindError := He.glo_ok X G (c.t.d.fact 34 (f := .glo "WindError") rfl)
  g_InvalidScript := He.glo_ok X G (c.t.d.fact 35 (f := .glo "InvalidScript") rfl)
  g_InvalidRing := He.glo_ok X G (c.t.d.fact 36 (f := .glo "InvalidRing") rfl)
  g_InvalidPeg := He.glo_ok X G (c.t.d.fact 37 (f := .glo "InvalidPeg") rfl)
  g_InvalidIndex := He.glo_ok X G (c.t.d.fact 38 (f := .glo "InvalidIndex") rfl)
  g_InvalidWord := He.glo_ok X G (c.t.d.fact 39 (f := .glo "InvalidWord") rfl)
  g_InvalidLength := He.glo_ok X G (c.t.d.fact 40 (f := .glo "InvalidLength") rfl)
  g_InvalidSeen := He.glo_ok X G (c.t.d.fact 41 (f := .glo "InvalidSeen") rfl)
  g_InvalidNumber := He.glo_ok X G (c.t.d.fact 42 (f := .glo "InvalidNumber") rfl)
  g_InvalidText := He.glo_ok X G (c.t.d.fact 43 (f := .glo "InvalidText") rfl)
  g_AllLaid := He.glo_ok X G (c.t.d.fact 44 (f := .glo "AllLaid") rfl)
  g_NothingToUndo := He.glo_ok X G (c.t.d.fact 45 (f := .glo "NothingToUndo") rfl)
  g_count := He.glo_ok X G (c.t.d.fact 19 (f := .glo "count") rfl)
  g_count_long := He.glo_ok X G (c.t.d.fact 20 (f := .glo "count_long") rfl)
  x_InvalidScript := (He.exc_ok (c.t.d.fact 48 (f := .exc "InvalidScript") rfl)).1
  k_InvalidScript := (He.exc_ok (c.t.d.fact 48 (f := .exc "InvalidScript") rfl)).2.1
  b_InvalidScript := (He.exc_ok (c.t.d.fact 48 (f := .exc "InvalidScript") rfl)).2.2.1
  t_InvalidScript := (He.exc_ok (c.t.d.fact 48 (f := .exc "InvalidScript") rfl)).2.2.2
  x_InvalidRing := (He.exc_ok (c.t.d.fact 49 (f := .exc "InvalidRing") rfl)).1
  k_InvalidRing := (He.exc_ok (c.t.d.fact 49 (f := .exc "InvalidRing") rfl)).2.1
  b_InvalidRing := (He.exc_ok (c.t.d.fact 49 (f := .exc "InvalidRing") rfl)).2.2.1
  t_InvalidRing := (He.exc_ok (c.t.d.fact 49 (f := .exc "InvalidRing") rfl)).2.2.2
  x_InvalidWord := (He.exc_ok (c.t.d.fact 50 (f := .exc "InvalidWord") rfl)).1
  k_InvalidWord := (He.exc_ok (c.t.d.fact 50 (f := .exc "InvalidWord") rfl)).2.1
  b_InvalidWord := (He.exc_ok (c.t.d.fact 50 (f := .exc "InvalidWord") rfl)).2.2.1
  t_InvalidWord := (He.exc_ok (c.t.d.fact 50 (f := .exc "InvalidWord") rfl)).2.2.2
  x_InvalidLength := (He.exc_ok (c.t.d.fact 51 (f := .exc "InvalidLength") rfl)).1
  k_InvalidLength := (He.exc_ok (c.t.d.fact 51 (f := .exc "InvalidLength") rfl)).2.1
  b_InvalidLength := (He.exc_ok (c.t.d.fact 51 (f := .exc "InvalidLength") rfl)).2.2.1
  t_InvalidLength := (He.exc_ok (c.t.d.fact 51 (f := .exc "InvalidLength") rfl)).2.2.2
  ec := fun C ⟨y, hy, e⟩ => by
    rw [e]
    exact excC_of ((ex_ok c.more).1 y hy).1
  kit := fun C ⟨y, hy, e⟩ x hx => by
    rw [e]
    have q := ((ex_ok c.more).1 y hy).2 x hx
    unfold pairB at q
    rw [Bool.and_eq_true, decide_eq_true_eq] at q
    exact q.1
theorem names_of (c : He.SaysX fa fn [] tf ex w h K) : Names K (He.ga K) where
  inj := fun x hx y hy e => by
    have q := ((ex_ok c.more).1 x hx).2 y hy
    unfold pairB at q
    rw [Bool.and_eq_true, Bool.or_eq_true, decide_eq_true_eq, decide_eq_true_eq, Bool.not_eq_true', decide_eq_false_iff_not] at q
    exact q.2.resolve_left fun z => z e
  exm := fun y hy => by
    simp only [errN, List.mem_cons, List.not_mem_nil, or_false] at hy
    rcases hy with e | e | e | e | e | e | e | e | e | e | e <;> subst e
    · exact He.exm_ok (c.t.d.fact 72 (f := .exm "InvalidScript" "WindError" true) rfl)
    · exact He.exm_ok (c.t.d.fact 73 (f := .exm "InvalidRing" "WindError" true) rfl)
    · exact He.exm_ok (c.t.d.fact 74 (f := .exm "InvalidPeg" "WindError" true) rfl)
    · exact He.exm_ok (c.t.d.fact 75 (f := .exm "InvalidIndex" "WindError" true) rfl)
    · exact He.exm_ok (c.t.d.fact 76 (f := .exm "InvalidWord" "WindError" true) rfl)
    · exact He.exm_ok (c.t.d.fact 77 (f := .exm "InvalidLength" "WindError" true) rfl)
    · exact He.exm_ok (c.t.d.fact 78 (f := .exm "InvalidSeen" "WindError" true) rfl)
    · exact He.exm_ok (c.t.d.fact 79 (f := .exm "InvalidNumber" "WindError" true) rfl)
    · exact He.exm_ok (c.t.d.fact 80 (f := .exm "InvalidText" "WindError" true) rfl)
    · exact He.exm_ok (c.t.d.fact 81 (f := .exm "AllLaid" "WindError" true) rfl)
    · exact He.exm_ok (c.t.d.fact 82 (f := .exm "NothingToUndo" "WindError" true) rfl)

theorem phi_of (c : He.SaysX fa fn [] tf ex w h K) : PhiOk (He.ga K) (Phi (He.ga K)) := by
  have d0 : He.ga K "count" ≠ He.ga K "count_long" := (ex_ok c.more).2.1 ("count", "count_long") (by simp [phP])
  constructor <;> simp [Phi, PhiL, d0, Ne.symm d0]
theorem phi_cl {P : Program} {w : World} {K : PySem.W.Frag} {mg : Str → Option Value} {base : Heap} {T : Tbl} {A : Str → Addr} {k : Nat} (h : ∀ p ∈ PhiL A, ClA P w K mg base T k p.1 p.2.1 p.2.2) (f : Addr) (n : Nat) (φ : Fn) (e : Phi A f n = some φ) : ClA P w K mg base T k f n φ := by
  unfold Phi at e
  obtain ⟨p, h1, h2⟩ := Option.map_eq_some_iff.mp e
  have h3 := List.find?_some h1
  rw [Bool.and_eq_true, decide_eq_true_eq, beq_iff_eq] at h3
  have h4 := h p (List.mem_of_find?_eq_some h1)
  rw [h3.1, h3.2, h2] at h4
  exact h4
abbrev TT (K : PySem.W.Frag) : Tbl := [(He.tabOf K (He.codeOf K ("_law_by_three", none)), ("_law_by_three" : Str) ++ ".<locals>." ++ "<lambda>")]
theorem facts {f : Addr} {l : PySem.W.OpenLaw} (X : K.In h) (G : h.Ns mainGlobals mg) (hfa : mg ("law" : Str) = some (.ref f)) (c : He.SaysX fa fn [] tf ex w h K) : LawAtS l w K (L2N.CX l.prog w) 16 63 "script" mg f h := by
  have TX := txt_of X G c
  have hN := names_of c
  have hx := ex_ok c.more
  have hP := phi_of c
  obtain ⟨fd_is_within, F0_is_within⟩ := c.t.d.def_ 0 (d := d_is_within) rfl
  have F_is_within : L2.Fun K "is_within" "is_within" s_is_within (He.ga K "is_within") fd_is_within := fun_of F0_is_within
  have g_is_within := He.glo_ok X G (c.t.d.fact 0 (f := .glo "is_within") rfl)
  obtain ⟨fd_is_step, F0_is_step⟩ := c.t.d.def_ 1 (d := d_is_step) rfl
  have F_is_step : L2.Fun K "is_step" "is_step" s_is_step (He.ga K "is_step") fd_is_step := fun_of F0_is_step
  have g_is_step := He.glo_ok X G (c.t.d.fact 1 (f := .glo "is_step") rfl)
  obtain ⟨fd_is_right_script, F0_is_right_script⟩ := c.t.d.def_ 2 (d := d_is_right_script) rfl
  have F_is_right_script : L2.Fun K "is_right_script" "is_right_script" s_is_right_script (He.ga K "is_right_script") fd_is_right_script := fun_of F0_is_right_script
  have g_is_right_script := He.glo_ok X G (c.t.d.fact 2 (f := .glo "is_right_script") rfl)
  obtain ⟨fd_need_script, F0_need_script⟩ := c.t.d.def_ 3 (d := d_need_script) rfl
  have F_need_script : L2.Fun K "need_script" "need_script" s_need_script (He.ga K "need_script") fd_need_script := fun_of F0_need_script
  have g_need_script := He.glo_ok X G (c.t.d.fact 3 (f := .glo "need_script") rfl)
  obtain ⟨fd_need_ring, F0_need_ring⟩ := c.t.d.def_ 4 (d := d_need_ring) rfl
  have F_need_ring : L2.Fun K "need_ring" "need_ring" s_need_ring (He.ga K "need_ring") fd_need_ring := fun_of F0_need_ring
  have g_need_ring := He.glo_ok X G (c.t.d.fact 4 (f := .glo "need_ring") rfl)
  obtain ⟨fd_shared, F0_shared⟩ := c.t.d.def_ 5 (d := d_shared) rfl
  have F_shared : L2.Fun K "shared" "shared" s_shared (He.ga K "shared") fd_shared := fun_of F0_shared
  have g_shared := He.glo_ok X G (c.t.d.fact 5 (f := .glo "shared") rfl)
  obtain ⟨fd_offsets_of, F0_offsets_of⟩ := c.t.d.def_ 6 (d := d_offsets_of) rfl
  have F_offsets_of : L2.Fun K "offsets_of" "offsets_of" s_offsets_of (He.ga K "offsets_of") fd_offsets_of := fun_of F0_offsets_of
  have g_offsets_of := He.glo_ok X G (c.t.d.fact 6 (f := .glo "offsets_of") rfl)
  obtain ⟨fd_starts_by, F0_starts_by⟩ := c.t.d.def_ 7 (d := d_starts_by) rfl
  have F_starts_by : L2.Fun K "starts_by" "starts_by" s_starts_by (He.ga K "starts_by") fd_starts_by := fun_of F0_starts_by
  have g_starts_by := He.glo_ok X G (c.t.d.fact 7 (f := .glo "starts_by") rfl)
  obtain ⟨fd_part_of, F0_part_of⟩ := c.t.d.def_ 8 (d := d_part_of) rfl
  have F_part_of : L2.Fun K "part_of" "part_of" s_part_of (He.ga K "part_of") fd_part_of := fun_of F0_part_of
  have g_part_of := He.glo_ok X G (c.t.d.fact 8 (f := .glo "part_of") rfl)
  obtain ⟨fd_rounds_of, F0_rounds_of⟩ := c.t.d.def_ 9 (d := d_rounds_of) rfl
  have F_rounds_of : L2.Fun K "rounds_of" "rounds_of" s_rounds_of (He.ga K "rounds_of") fd_rounds_of := fun_of F0_rounds_of
  have g_rounds_of := He.glo_ok X G (c.t.d.fact 9 (f := .glo "rounds_of") rfl)
  obtain ⟨fd_count_of, F0_count_of⟩ := c.t.d.def_ 10 (d := d_count_of) rfl
  have F_count_of : L2.Fun K "count_of" "count_of" s_count_of (He.ga K "count_of") fd_count_of := fun_of F0_count_of
  have g_count_of := He.glo_ok X G (c.t.d.fact 10 (f := .glo "count_of") rfl)
  obtain ⟨fd_families_by, F0_families_by⟩ := c.t.d.def_ 11 (d := d_families_by) rfl
  have F_families_by : L2.Fun K "families_by" "families_by" s_families_by (He.ga K "families_by") fd_families_by := fun_of F0_families_by
  have g_families_by := He.glo_ok X G (c.t.d.fact 11 (f := .glo "families_by") rfl)
  obtain ⟨fd_labels_by, F0_labels_by⟩ := c.t.d.def_ 12 (d := d_labels_by) rfl
  have F_labels_by : L2.Fun K "labels_by" "labels_by" s_labels_by (He.ga K "labels_by") fd_labels_by := fun_of F0_labels_by
  have g_labels_by := He.glo_ok X G (c.t.d.fact 12 (f := .glo "labels_by") rfl)
  obtain ⟨fd_crosses_behind, F0_crosses_behind⟩ := c.t.d.def_ 13 (d := d_crosses_behind) rfl
  have F_crosses_behind : L2.Fun K "crosses_behind" "crosses_behind" s_crosses_behind (He.ga K "crosses_behind") fd_crosses_behind := fun_of F0_crosses_behind
  have g_crosses_behind := He.glo_ok X G (c.t.d.fact 13 (f := .glo "crosses_behind") rfl)
  obtain ⟨fd_crossings_by, F0_crossings_by⟩ := c.t.d.def_ 14 (d := d_crossings_by) rfl
  have F_crossings_by : L2.Fun K "crossings_by" "crossings_by" s_crossings_by (He.ga K "crossings_by") fd_crossings_by := fun_of F0_crossings_by
  have g_crossings_by := He.glo_ok X G (c.t.d.fact 14 (f := .glo "crossings_by") rfl)
  obtain ⟨fd_chords_by, F0_chords_by⟩ := c.t.d.def_ 15 (d := d_chords_by) rfl
  have F_chords_by : L2.Fun K "chords_by" "chords_by" s_chords_by (He.ga K "chords_by") fd_chords_by := fun_of F0_chords_by
  have g_chords_by := He.glo_ok X G (c.t.d.fact 15 (f := .glo "chords_by") rfl)
  obtain ⟨fd_top_by, F0_top_by⟩ := c.t.d.def_ 16 (d := d_top_by) rfl
  have F_top_by : L2.Fun K "top_by" "top_by" s_top_by (He.ga K "top_by") fd_top_by := fun_of F0_top_by
  have g_top_by := He.glo_ok X G (c.t.d.fact 16 (f := .glo "top_by") rfl)
  obtain ⟨fd_plain_by, F0_plain_by⟩ := c.t.d.def_ 17 (d := d_plain_by) rfl
  have F_plain_by : L2.Fun K "plain_by" "plain_by" s_plain_by (He.ga K "plain_by") fd_plain_by := fun_of F0_plain_by
  have g_plain_by := He.glo_ok X G (c.t.d.fact 17 (f := .glo "plain_by") rfl)
  obtain ⟨fd_need_word, F0_need_word⟩ := c.t.d.def_ 18 (d := d_need_word) rfl
  have F_need_word : L2.Fun K "need_word" "need_word" s_need_word (He.ga K "need_word") fd_need_word := fun_of F0_need_word
  have g_need_word := He.glo_ok X G (c.t.d.fact 18 (f := .glo "need_word") rfl)
  obtain ⟨fd_count, F0_count⟩ := c.t.d.def_ 19 (d := d_count) rfl
  have F_count : L2.Fun K "count" "count" s_count (He.ga K "count") fd_count := fun_of F0_count
  have g_count := He.glo_ok X G (c.t.d.fact 19 (f := .glo "count") rfl)
  obtain ⟨fd_count_long, F0_count_long⟩ := c.t.d.def_ 20 (d := d_count_long) rfl
  have F_count_long : L2.Fun K "count_long" "count_long" s_count_long (He.ga K "count_long") fd_count_long := fun_of F0_count_long
  have g_count_long := He.glo_ok X G (c.t.d.fact 20 (f := .glo "count_long") rfl)
  obtain ⟨fd__law_source, F0__law_source⟩ := c.t.d.def_ 21 (d := d__law_source) rfl
  have F__law_source : L2.Fun K "_law_source" "_law_source" s__law_source (He.ga K "_law_source") fd__law_source := fun_of F0__law_source
  have g__law_source := He.glo_ok X G (c.t.d.fact 21 (f := .glo "_law_source") rfl)
  obtain ⟨fd__law_pick, F0__law_pick⟩ := c.t.d.def_ 22 (d := d__law_pick) rfl
  have F__law_pick : L2.Fun K "_law_pick" "_law_pick" s__law_pick (He.ga K "_law_pick") fd__law_pick := fun_of F0__law_pick
  have g__law_pick := He.glo_ok X G (c.t.d.fact 22 (f := .glo "_law_pick") rfl)
  obtain ⟨fd__law_chosen, F0__law_chosen⟩ := c.t.d.def_ 23 (d := d__law_chosen) rfl
  have F__law_chosen : L2.Fun K "_law_chosen" "_law_chosen" s__law_chosen (He.ga K "_law_chosen") fd__law_chosen := fun_of F0__law_chosen
  have g__law_chosen := He.glo_ok X G (c.t.d.fact 23 (f := .glo "_law_chosen") rfl)
  obtain ⟨fd__law_error, F0__law_error⟩ := c.t.d.def_ 24 (d := d__law_error) rfl
  have F__law_error : L2.Fun K "_law_error" "_law_error" s__law_error (He.ga K "_law_error") fd__law_error := fun_of F0__law_error
  have g__law_error := He.glo_ok X G (c.t.d.fact 24 (f := .glo "_law_error") rfl)
  obtain ⟨fd__law_refused, F0__law_refused⟩ := c.t.d.def_ 25 (d := d__law_refused) rfl
  have F__law_refused : L2.Fun K "_law_refused" "_law_refused" s__law_refused (He.ga K "_law_refused") fd__law_refused := fun_of F0__law_refused
  have g__law_refused := He.glo_ok X G (c.t.d.fact 25 (f := .glo "_law_refused") rfl)
  obtain ⟨fd__law_by_three, F0__law_by_three⟩ := c.t.d.def_ 26 (d := d__law_by_three) rfl
  have F__law_by_three : L2.Fun K "_law_by_three" "_law_by_three" s__law_by_three (He.ga K "_law_by_three") fd__law_by_three := fun_of F0__law_by_three
  have g__law_by_three := He.glo_ok X G (c.t.d.fact 26 (f := .glo "_law_by_three") rfl)
  obtain ⟨fd__law_drawn_steps, F0__law_drawn_steps⟩ := c.t.d.def_ 27 (d := d__law_drawn_steps) rfl
  have F__law_drawn_steps : L2.Fun K "_law_drawn_steps" "_law_drawn_steps" s__law_drawn_steps (He.ga K "_law_drawn_steps") fd__law_drawn_steps := fun_of F0__law_drawn_steps
  have g__law_drawn_steps := He.glo_ok X G (c.t.d.fact 27 (f := .glo "_law_drawn_steps") rfl)
  obtain ⟨fd__law_drawn_ring, F0__law_drawn_ring⟩ := c.t.d.def_ 28 (d := d__law_drawn_ring) rfl
  have F__law_drawn_ring : L2.Fun K "_law_drawn_ring" "_law_drawn_ring" s__law_drawn_ring (He.ga K "_law_drawn_ring") fd__law_drawn_ring := fun_of F0__law_drawn_ring
  have g__law_drawn_ring := He.glo_ok X G (c.t.d.fact 28 (f := .glo "_law_drawn_ring") rfl)
  obtain ⟨fd__law_wound, F0__law_wound⟩ := c.t.d.def_ 29 (d := d__law_wound) rfl
  have F__law_wound : L2.Fun K "_law_wound" "_law_wound" s__law_wound (He.ga K "_law_wound") fd__law_wound := fun_of F0__law_wound
  have g__law_wound := He.glo_ok X G (c.t.d.fact 29 (f := .glo "_law_wound") rfl)
  obtain ⟨fd__law_meet, F0__law_meet⟩ := c.t.d.def_ 30 (d := d__law_meet) rfl
  have F__law_meet : L2.Fun K "_law_meet" "_law_meet" s__law_meet (He.ga K "_law_meet") fd__law_meet := fun_of F0__law_meet
  have g__law_meet := He.glo_ok X G (c.t.d.fact 30 (f := .glo "_law_meet") rfl)
  obtain ⟨fd__law_number_of_parts, F0__law_number_of_parts⟩ := c.t.d.def_ 31 (d := d__law_number_of_parts) rfl
  have F__law_number_of_parts : L2.Fun K "_law_number_of_parts" "_law_number_of_parts" s__law_number_of_parts (He.ga K "_law_number_of_parts") fd__law_number_of_parts := fun_of F0__law_number_of_parts
  have g__law_number_of_parts := He.glo_ok X G (c.t.d.fact 31 (f := .glo "_law_number_of_parts") rfl)
  obtain ⟨fd__law_crossings_of, F0__law_crossings_of⟩ := c.t.d.def_ 32 (d := d__law_crossings_of) rfl
  have F__law_crossings_of : L2.Fun K "_law_crossings_of" "_law_crossings_of" s__law_crossings_of (He.ga K "_law_crossings_of") fd__law_crossings_of := fun_of F0__law_crossings_of
  have g__law_crossings_of := He.glo_ok X G (c.t.d.fact 32 (f := .glo "_law_crossings_of") rfl)
  obtain ⟨fd_law, F0_law⟩ := c.t.d.def_ 33 (d := d_law) rfl
  have F_law : L2.Fun K "law" "law" s_law (He.ga K "law") fd_law := fun_of F0_law
  have e := hfa.symm.trans (He.glo_ok X G (c.t.d.fact 33 (f := .glo "law") rfl))
  cases e
  refine ⟨fd_law, tf.map (He.cT K), spLaw K (TT K) 63, fun p hp => ?_, fun p hp => ?_, fun p hp => ?_, fun s u => ?_, fun H a ns hl hb hH hS => ⟨a, ns, rfl, hS, hl, hb, fun p hp => ?_, fun _ => rfl⟩, fun base XB GB TB => ?_⟩
  · obtain ⟨q, hq, e⟩ := List.mem_map.mp hp
    rw [← e]
    exact c.empty q hq
  · obtain ⟨q, hq, e⟩ := List.mem_map.mp hp
    rw [← e]
    exact c.out q hq
  · obtain ⟨q, hq, e⟩ := List.mem_map.mp hp
    rw [← e]
    exact PySem.W.codeHd_of_K X (c.hd q hq)
  · exact (FunD.bindsA (ps := ["script"]) F0_law fun _ _ _ _ _ _ us hl => match us, hl with | [_], _ => rfl) s [u] rfl
  · obtain ⟨x, hx1, e⟩ : ∃ x : He.Defn, x ∈ tf ∧ p.1 = He.tabOf K (He.codeOf K x) := by
      simp only [TT, List.mem_cons, List.not_mem_nil, or_false] at hp
      (have e := hp) <;> subst e <;> exact ⟨_, by simp [tf], rfl⟩
    rw [e]
    exact LamX.TabS.nil (hH (He.cT K x) (List.mem_map.mpr ⟨_, hx1, rfl⟩))
  · have T__law_by_three : Tb K base mg (TT K) "_law_by_three" := ⟨TB (He.cT K ("_law_by_three", none)) (List.mem_map.mpr ⟨_, by simp [tf], rfl⟩), by simp [TT], fun p hp e => by
        simp only [TT, List.mem_cons, List.not_mem_nil, or_false] at hp
        have z := hp
        · rw [z]⟩
    have c_is_within := ok_is_within (P := l.prog) (w := w) (base := base) (T := TT K) (A := He.ga K) F_is_within TX g_is_within 
    have c_is_step := ok_is_step (P := l.prog) (w := w) (base := base) (T := TT K) (A := He.ga K) F_is_step TX g_is_step c_is_within
    have c_is_right_script := ok_is_right_script (P := l.prog) (w := w) (base := base) (T := TT K) (A := He.ga K) F_is_right_script TX g_is_right_script c_is_step
    have c_need_script := ok_need_script (P := l.prog) (w := w) (base := base) (T := TT K) (A := He.ga K) F_need_script TX g_need_script c_is_right_script
    have c_need_ring := ok_need_ring (P := l.prog) (w := w) (base := base) (T := TT K) (A := He.ga K) F_need_ring TX g_need_ring c_is_within
    have c_shared := ok_shared (P := l.prog) (w := w) (base := base) (T := TT K) (A := He.ga K) F_shared TX g_shared 
    have c_offsets_of := ok_offsets_of (P := l.prog) (w := w) (base := base) (T := TT K) (A := He.ga K) F_offsets_of TX g_offsets_of 
    have c_starts_by := ok_starts_by (P := l.prog) (w := w) (base := base) (T := TT K) (A := He.ga K) F_starts_by TX g_starts_by c_offsets_of
    have c_part_of := ok_part_of (P := l.prog) (w := w) (base := base) (T := TT K) (A := He.ga K) F_part_of TX g_part_of c_shared
    have c_rounds_of := ok_rounds_of (P := l.prog) (w := w) (base := base) (T := TT K) (A := He.ga K) F_rounds_of TX g_rounds_of c_part_of
    have c_count_of := ok_count_of (P := l.prog) (w := w) (base := base) (T := TT K) (A := He.ga K) F_count_of TX g_count_of c_rounds_of c_starts_by c_part_of
    have c_families_by := ok_families_by (P := l.prog) (w := w) (base := base) (T := TT K) (A := He.ga K) F_families_by TX g_families_by c_starts_by c_offsets_of
    have c_labels_by := ok_labels_by (P := l.prog) (w := w) (base := base) (T := TT K) (A := He.ga K) F_labels_by TX g_labels_by c_starts_by c_offsets_of
    have c_crosses_behind := ok_crosses_behind (P := l.prog) (w := w) (base := base) (T := TT K) (A := He.ga K) F_crosses_behind TX g_crosses_behind 
    have c_crossings_by := ok_crossings_by (P := l.prog) (w := w) (base := base) (T := TT K) (A := He.ga K) F_crossings_by TX g_crossings_by c_families_by c_crosses_behind
    have c_chords_by := ok_chords_by (P := l.prog) (w := w) (base := base) (T := TT K) (A := He.ga K) F_chords_by TX g_chords_by c_families_by
    have c_top_by := ok_top_by (P := l.prog) (w := w) (base := base) (T := TT K) (A := He.ga K) F_top_by TX g_top_by c_chords_by c_crossings_by c_starts_by
    have c_plain_by := ok_plain_by (P := l.prog) (w := w) (base := base) (T := TT K) (A := He.ga K) F_plain_by TX g_plain_by c_starts_by c_labels_by
    have c_need_word := ok_need_word (P := l.prog) (w := w) (base := base) (T := TT K) (A := He.ga K) F_need_word TX g_need_word 
    have c_count := ok_count (P := l.prog) (w := w) (base := base) (T := TT K) (A := He.ga K) F_count TX g_count c_need_script c_need_ring c_need_word c_part_of c_plain_by c_top_by
    have c_count_long := ok_count_long (P := l.prog) (w := w) (base := base) (T := TT K) (A := He.ga K) F_count_long TX g_count_long c_need_script c_need_ring c_is_within c_count_of
    have c__law_source := ok__law_source (P := l.prog) (w := w) (base := base) (T := TT K) (A := He.ga K) F__law_source TX g__law_source 
    have c__law_pick := ok__law_pick (P := l.prog) (w := w) (base := base) (T := TT K) (A := He.ga K) F__law_pick TX g__law_pick 
    have c__law_chosen := ok__law_chosen (P := l.prog) (w := w) (base := base) (T := TT K) (A := He.ga K) F__law_chosen TX g__law_chosen c__law_pick
    have c__law_error := ok__law_error (P := l.prog) (w := w) (base := base) (T := TT K) (A := He.ga K) F__law_error TX g__law_error 
    have c__law_by_three := ok__law_by_three (P := l.prog) (w := w) (base := base) (T := TT K) (A := He.ga K) (Φ := Phi (He.ga K)) F__law_by_three TX g__law_by_three F__law_refused g__law_refused c__law_error T__law_by_three (phi_cl (fun p hp => by
      simp only [PhiL, List.mem_cons, List.not_mem_nil, or_false] at hp
      rcases hp with e | e <;> subst e
      · exact ((c_count.mono (by decide))).toA g_count
      · exact ((c_count_long.mono (by decide))).toA g_count_long))
    have c__law_drawn_steps := ok__law_drawn_steps (P := l.prog) (w := w) (base := base) (T := TT K) (A := He.ga K) F__law_drawn_steps TX g__law_drawn_steps c__law_pick c__law_chosen
    have c__law_drawn_ring := ok__law_drawn_ring (P := l.prog) (w := w) (base := base) (T := TT K) (A := He.ga K) F__law_drawn_ring TX g__law_drawn_ring c__law_pick
    have c__law_wound := ok__law_wound (P := l.prog) (w := w) (base := base) (T := TT K) (A := He.ga K) F__law_wound TX g__law_wound 
    have c__law_meet := ok__law_meet (P := l.prog) (w := w) (base := base) (T := TT K) (A := He.ga K) F__law_meet TX g__law_meet 
    have c__law_number_of_parts := ok__law_number_of_parts (P := l.prog) (w := w) (base := base) (T := TT K) (A := He.ga K) F__law_number_of_parts TX g__law_number_of_parts 
    have c__law_crossings_of := ok__law_crossings_of (P := l.prog) (w := w) (base := base) (T := TT K) (A := He.ga K) F__law_crossings_of TX g__law_crossings_of c__law_meet
    exact ok_law (T := TT K) (A := He.ga K) (Φ := Phi (He.ga K)) F_law TX (law_D hN hP) c__law_source c__law_drawn_steps c__law_drawn_ring c__law_wound c__law_crossings_of c__law_number_of_parts c_count c_count_long c__law_by_three
end
end Rw
open PySem PySem.W PySem.Calls PyProof.Rows
theorem PySem.Challenge.cw_ringwound_k31_how_many_there_are_holds : PySem.Challenge.rw_ringwound_k31_how_many_there_are.Holds := by
  w_on; o_law
  refine HandSHeadRun.head_any (r := OpenLaw.row PySem.Challenge.rw_ringwound_k31_how_many_there_are) (q := view (OpenLaw.row PySem.Challenge.rw_ringwound_k31_how_many_there_are).prog [57]) (H := Rw.hk) (ob := Rw.ob) (M := 4000) (loose := Rw.loose) (d := HandSHeadRun.topDef (OpenLaw.row PySem.Challenge.rw_ringwound_k31_how_many_there_are).prog 57) (kwd := []) Rw.ob_eq
    (by kernel_rfl) (fun s => by kernel_rfl) Rw.run (by kernel_rfl) (by kernel_rfl) (by kernel_rfl) (by rfl) (by first | assumption | decide +kernel) (by decide +kernel) ⟨rfl, rfl, rfl, rfl, rfl, by decide +kernel⟩ ?hw ?hc
  case hw => w_witness2
  case hc =>
    refine LamX.walk_ofTsE (l := PySem.Challenge.rw_ringwound_k31_how_many_there_are) (n := 63) (k := 16) (x := "script") (CX := fun w => L2N.CX (PySem.Challenge.rw_ringwound_k31_how_many_there_are).prog w) rfl (by decide) (by kernel_rfl) ⟨rfl, by decide, by decide⟩ ?F (fun w H s e s' z => by
      obtain ⟨_, _, _, _, _, _, _, _, _, _, _, _, q⟩ := z
      exact q)
    intro w mg fa h Y G hmg0
    obtain ⟨K, KX, c⟩ := Y
    have hmg : mg ("law" : PySem.Str) = some (.ref fa) := by
      have e : (HandSHeadRun.topDef (OpenLaw.row PySem.Challenge.rw_ringwound_k31_how_many_there_are).prog 57).name = ("law" : PySem.Str) := by kernel_rfl
      rw [← e]
      exact hmg0
    exact ⟨K, KX, Rw.facts KX G hmg c⟩

